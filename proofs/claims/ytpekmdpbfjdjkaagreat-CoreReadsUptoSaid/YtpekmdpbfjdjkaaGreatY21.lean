/- Part 21 of the proof that reading bytes answers as the document does. No condition. -/
import Derived.Test.YtpekmdpbfjdjkaaGreatY20
set_option maxHeartbeats 16000000
set_option maxRecDepth 100000
set_option linter.all false
namespace Go.Proofs.YtpekmdpbfjdjkaaGreat.ref
open Go Go.RowKit ag.ax ag.aV ag.aU aD fr iK cL plain fE
def uc (base br:Nat) (W:World) (l:List Int) (o:Option (Th × List Int)) (e:Ending) (w':World):Prop:=Mv TG W w'∧Below base W w'∧
 match o with
 | none=>∃p' er,e = .returned (.agg dx)∧Rg w' base br l p' er∧er≠0
 | some (t,r)=>∃v p',e = .returned (.agg (bF t.k t.n 0 t.f v))∧Rg w' base br l p' 0∧r=l.drop p'∧Kd.R (Kd.int .u8) 5 w' W.heap.size (fun _=>True) v t.b
structure Rv (base:Nat) (W w:World) (bs:List (Nat × Nat × Array Value)) (br:Nat) (v:Value) (l:List Int) (p e:Int):Prop where
 bk:Bk base TG W w bs
 dI:w.heap[br]? = some (.cells (wJ v p e) 275 (0,0))
 row:Kd.R (Kd.int .u8) 5 w base (fun _=>True) v l
 lo:base≤br
 nt:∀x∈bs,x.2.1≠275∧x.2.1≠5
section
variable {base br:Nat} {W w w':World} {bs:List (Nat × Nat × Array Value)} {v:Value} {l:List Int} {p e:Int}
theorem uu {ts:List Nat} (h:Kd.R (Kd.int .u8) 5 w base (fun _=>True) v l) (hm:Mv ts w w') (ht:5∉ts):Kd.R (Kd.int .u8) 5 w' base (fun _=>True) v l:=eV h hm (fun q hq=>by
 rcases List.mem_cons.1 hq with rfl|hq
 ·exact ht
 ·cases hq)
theorem Rv.grow (h:Rv base W w bs br v l p e) (hb:Below w.heap.size w w'):Rv base W w' bs br v l p e:=⟨h.bk.grow hb,(hb.block br (ak h.dI)).trans h.dI,Kd.bR h.row hb,h.lo,h.nt⟩
theorem Rv.push (h:Rv base W w bs br v l p e) (t:Nat) (cs:Array Value) (h1:t≠275) (h2:t≠5):Rv base W (w.alloc (.cells cs t)) ((w.heap.size,t,cs)::bs) br v l p e:=
 have g:=h.grow (ah (Below.refl _ w) (.cells cs t))
 ⟨h.bk.push t cs,g.dI,g.row,h.lo,fun x hx=>by
  rcases List.mem_cons.1 hx with rfl|hx
  ·exact ⟨h1,h2⟩
  ·exact h.nt x hx⟩
theorem Rv.set {l1 l2:List (Nat × Nat × Array Value)} {g t:Nat} {cs cs':Array Value} (h:Rv base W w (l1++(g,t,cs)::l2) br v l p e) (hg:w.grownBy w' (some g)) (hb:w'.heap[g]? = some (.cells cs' t (0,0))):Rv base W w' (l1++(g,t,cs')::l2) br v l p e:=by
 have hn:=h.nt (g,t,cs) (by simp);have hm:=Mv.bG (ts:=[t]) hg (h.bk.at_ (g,t,cs) (by simp)) (List.mem_singleton.2 rfl);refine ⟨h.bk.set hg hb,hm.at h.dI (by simpa using fun e=>hn.1 e.symm),uu h.row hm (by simpa using fun e=>hn.2 e.symm),h.lo,fun x hx=>?_⟩;rcases List.mem_append.1 hx with hx|hx
 ·exact h.nt x (by simp [hx])
 ·rcases List.mem_cons.1 hx with rfl|hx
  ·exact hn
  ·exact h.nt x (by simp [hx])
theorem Rv.yA {p' e':Int} (h:Rv base W w bs br v l p e) (hg:w.grownBy w' (some br)) (hb:w'.heap[br]? = some (.cells (wJ v p' e') 275 (0,0))):Rv base W w' bs br v l p' e':=by
 have hm:=Mv.bG (ts:=TG) hg h.dI (List.mem_singleton.2 rfl);exact ⟨h.bk.move hm (fun _ ht=>ht) ((Below.refl base w).grown hg h.bk.hb (fun k e=>by injection e with e;exact e▸h.lo)) (fun x hx=>by simpa [TG] using (h.nt x hx).1),hb,uu h.row hm (by decide),h.lo,h.nt⟩
theorem Rv.rg {q:Nat} (h:Rv base W w bs br v l (q:Int) e) (hp:q≤l.length) (hL:l.length≤1000000) (hy:aq l):Rg w base br l q e:=⟨⟨v,h.dI,h.row⟩,h.lo,hp,hL,hy⟩
end
theorem BJ {P:Program} {fn:Func} {p:Tmp} {ty:TypeId} (h:fn.results=#[.cell p ty]) (tmps:Array Value) (w:World) (g:Nat) (t:TypeId) (cs:Array Value) (fr:Nat × Nat) (d:TypeDesc)
 (hp:tmps.getD p undef = .pointer (some ⟨g,0,none⟩)) (hg:w.heap[g]? = some (.cells cs t fr)) (hu:P.underlying ty=some d) (hd:(match d with | .struct _ | .array _ _=>true|_=>false)=true) (hi:(P.info? ty).map (·.size)=some cs.size) :
 (results fn tmps).run P w = .ok (.agg cs) w:=by
 have hp':tmps[p]?.getD undef = .pointer (some ⟨g,0,none⟩):=by simpa using hp
 simp [results,h,hp',asAddr,jm w g t ty cs fr d hg hu hd hi]
def zO (W w':World) (l:List Int) (p:Nat) (o:Option (Th × List Int)) (a b:Int) (f:Bool) (v:Value) (j:Nat) (er:Int):Prop:=
 match o with
 | none=>er≠0∧bF a b 0 f v=dx∧j=0
 | some (t,r)=>er=0∧a=t.k∧b=t.n∧f=t.f∧p+j≤l.length∧r=l.drop (p+j)∧Kd.R (Kd.int .u8) 5 w' W.heap.size (fun _=>True) v t.b
theorem mh.flat {W w':World} {l:List Int} {p:Nat} {o:Option (Th × List Int)} {e:Ending} (h:mh W l p o e w'):Below W.heap.size W w'∧∃a b f Av nv cv j er,e = .returned (.tuple #[.agg (bF a b 0 f (.slice Av nv cv)), .int .i64 (j:Nat), .int .i64 er])∧zO W w' l p o a b f (.slice Av nv cv) j er:=by
 obtain ⟨hb,h⟩:=h;refine ⟨hb,?_⟩;cases o with
 | none=>obtain ⟨er,rfl,her⟩:=h;exact ⟨0,0,false,none,0,0,0,er,rfl,her,rfl,rfl⟩
 | some q=>
  obtain ⟨t,r⟩:=q;obtain ⟨v,j,rfl,h1,h2,h3⟩:=h;obtain ⟨Av,cv,rfl⟩:=Kd.aG h3;exact ⟨_,_,_,_,_,_,_,_,rfl,rfl,rfl,rfl,rfl,h1,h2,h3⟩
theorem zO.mv {ts:List Nat} {W w w':World} {l:List Int} {p:Nat} {o:Option (Th × List Int)} {a b:Int} {f:Bool} {v:Value} {j:Nat} {er:Int} (h:zO W w l p o a b f v j er) (hm:Mv ts w w') (ht:5∉ts):zO W w' l p o a b f v j er:=by
 cases o with
 | none=>exact h
 | some q=>exact ⟨h.1,h.2.1,h.2.2.1,h.2.2.2.1,h.2.2.2.2.1,h.2.2.2.2.2.1,uu h.2.2.2.2.2.2 hm ht⟩
theorem zO.le {W w:World} {l:List Int} {p:Nat} {o:Option (Th × List Int)} {a b:Int} {f:Bool} {v:Value} {j:Nat} {er:Int} (h:zO W w l p o a b f v j er) (hp:p≤l.length):p+j≤l.length:=by
 cases o with
 | none=>rw [h.2.2];exact hp
 | some q=>exact h.2.2.2.2.1
theorem uc.fin {base br:Nat} {W w1 w:World} {bs:List (Nat × Nat × Array Value)} {v0 v:Value} {l:List Int} {p j:Nat} {er a b:Int} {f:Bool} {o:Option (Th × List Int)} (K:Rv base W w bs br v0 l ((p+j:Nat):Int) er) (hF:zO w1 w l p o a b f v j er) (hp:p≤l.length) (hL:l.length≤1000000) (hy:aq l) (hs:W.heap.size≤w1.heap.size) :
 uc base br W l o (.returned (.agg (bF a b 0 f v))) w:=by
 have hle:=hF.le hp;refine ⟨K.bk.mv,K.bk.bel,?_⟩;cases o with
 | none=>obtain ⟨h1,h2,rfl⟩:=hF;exact ⟨p+0,er,by rw [h2],K.rg hle hL hy,h1⟩
 | some q=>
  obtain ⟨rfl,rfl,rfl,rfl,h1,h2,h3⟩:=hF;exact ⟨v,p+j,rfl,K.rg hle hL hy,h2,Kd.cI h3 hs⟩
theorem y7 {p j L:Nat} (h:p+j≤L) (hL:L≤1000000):wrap64 ((p:Int)+j)=((p+j:Nat):Int)∧IntKind.i64.wrap ((p:Int)+j)=((p+j:Nat):Int):=by
 rw [show ((p:Int)+j)=((p+j:Nat):Int) by omega];exact ⟨(wi (by omega) (by omega)).2.1,(wi (by omega) (by omega)).1⟩
theorem nw (k n:Int) (base br p:Nat) (l:List Int) (o:Option (Th × List Int)) (W:World) (h:Rg W base br l p 0) (hB:base≤W.heap.size)
 (HT:∀A c w,Kd.C (Kd.int .u8) w A l.length l→l.length≤c→Calls Tryz.prog 195 #[.slice A l.length c, .int .i64 p, .int .i64 k, .int .i64 n] w (mh w l p o)) :
 Calls Tryz.prog 190 #[.pointer (some ⟨br,0,none⟩), .int .i64 k, .int .i64 n] W (uc base br W l o):=by
 have hu:=Tryz.underlying308;have H:=aa h;have T:=aa HT;have HB:=aa hB;obtain ⟨v,hb,hr⟩:=h.dI;obtain ⟨A,c,rfl⟩:=Kd.aG hr;have HR:=aa hr;have HC:=aa (Kd.bI hr);have HBL:=aa hb;have LTb:=aa (ak hb);clear HT hr;go_in;have hcells:∀w',Below W.heap.size W w'→(w'.cell? ⟨br,0,none⟩=some (.bool true)∧w'.cell? ⟨br,1,none⟩=some (.slice A l.length c)∧w'.cell? ⟨br,2,none⟩=some (.int .i64 p)∧w'.cell? ⟨br,3,none⟩=some (.int .i64 0)):=fun w' hb'=>by
  have hh:=(hb'.block br LTb.1).trans HBL.1;exact ⟨cell_of hh 0,cell_of hh 1,cell_of hh 2,cell_of hh 3⟩
 have CE:=aa hcells;obtain ⟨c0,c1,c2,c3⟩:=hcells (W.alloc (.cells dx 308)) (ah (Below.refl _ _) _);simp only [dx] at c0 c1 c2 c3;have K0:=aa ((show Rv base W W [] br (.slice A l.length c) l p 0 from ⟨Bk.new hB,hb,HR.1,H.1.lo,fun _ h=>by cases h⟩).push 308 dx (by decide) (by decide));simp only [dx] at K0;clear hcells hb h hB;go_wp2_with fail;generalize World.alloc W _=w0 at c0 c1 c2 c3 K0 ⊢;refine kv (fun w'=>w'.cell? ⟨br,1,none⟩=some (.slice A l.length c)∧w'.cell? ⟨br,2,none⟩=some (.int .i64 p)) 16 [(0,0),(1,0),(2,0),(3,1),(4,0),(5,0),(6,0),(7,1),(8,0),(9,0)] 10 15 [(11,0),(12,0),(13,0),(14,0),(15,2)] [(10,2),(11,0),(12,0),(13,0),(14,0)] (by kernel_rfl) (by kernel_rfl) (fun _ _ _ _ _ h=>h) ⟨c1,c2⟩ ?_;have K1:=aa (K0.1.grow (w':=w0.drew) (dy (Below.refl _ _)));clear K0 c0 c1 c2 c3;generalize w0.drew=w1 at K1 ⊢;iterate 3 (refine eF ?_;simp only [cS,Act.put])
 iterate 1 (refine aQ (v:=?_) rfl rfl ?_ ?_;rotate_left 1;(focus (intro w hSw;go_simp;try (with_reducible rfl)));simp only [cS,Act.put])
 iterate 3 (refine eF ?_;simp only [cS,Act.put])
 iterate 1 (refine aQ (v:=?_) rfl rfl ?_ ?_;rotate_left 1;(focus (intro w hSw;go_simp;try (with_reducible rfl)));simp only [cS,Act.put])
 iterate 2 (refine eF ?_;simp only [cS,Act.put])
 have HPJ:=aa H.1.hp;refine ⟨?_,?_⟩
 ·refine aT rfl ?_;go_wp2_with fail;refine (T.1 A c w1 (Kd.bI K1.1.row).2.2 HC.1.2.1).mono ?_;rintro e w2 hT2;obtain ⟨hB2,a,b,f,Av,nv,cv,j,er,rfl,hF⟩:=hT2.flat;have K2:=aa (K1.1.grow hB2);have F2:=aa hF;have S1:=aa K1.1.bk.size;obtain ⟨hw1,hw2⟩:=y7 (hF.le HPJ.1) H.1.hL;clear hB2 hF hT2 K1;generalize hP:p+j=P at hw1 hw2;have HPP:=aa hP;clear hP;go_wp2_with fail;refine bB.mk ⟨cell_of K2.1.dI 1,cell_of K2.1.dI 2⟩ (fun hSw=>?_);clear hSw;iterate 4 (refine eF ?_;simp only [cS,Act.put])
  refine aT rfl ?_;go_wp2_with fail;have K3:=aa (K2.1.push 308 dx (by decide) (by decide));simp only [dx] at K3;refine bB.mk ⟨cell_of K3.1.dI 1,cell_of K3.1.dI 2⟩ (fun hSw=>?_);refine bC ?_;simp only [aC,List.drop_zero];have M3:=aa (Mv.cH (ts:=[308,275]) (ah (Below.refl w2.heap.size w2) (.cells #[.int .i64 0, .int .u64 0, .int .i64 0, .bool false, .slice none 0 0] 308)));generalize World.alloc w2 _=w3 at K3 M3 ⊢;generalize w2.heap.size=tb at K3 ⊢;clear hSw K2;go_wp2_with (first|((with_reducible refine gS 7 35 rfl ?_);refine sB (bF a b 0 f (.slice Av nv cv)) K3.1.bk.cE ?_;intro wz hW hG;have K4:=aa (show Rv base W wz [(tb,308,(bF a b 0 f (.slice Av nv cv))),(W.heap.size,308,#[.int .i64 0, .int .u64 0, .int .i64 0, .bool false, .slice none 0 0])] br (.slice A l.length c) l p 0 from K3.1.set (l1:=[]) hG.1 hW.1);have c2:wz.cell? ⟨br,2,none⟩=some (.int .i64 p):=cell_of K4.1.dI 2;have M4:=aa (M3.1.trans (Mv.bG hG.1 K3.1.bk.cE (by simp))))|((with_reducible refine gS 46 44 rfl ?_);refine sC 2 (.int .i64 (P:Int)) (wJ (.slice A l.length c) (P:Int) 0) K4.1.dI ?_;intro wz hW hG;have K5:=aa (show Rv base W wz [(tb,308,(bF a b 0 f (.slice Av nv cv))),(W.heap.size,308,#[.int .i64 0, .int .u64 0, .int .i64 0, .bool false, .slice none 0 0])] br (.slice A l.length c) l (P:Int) 0 from K4.1.yA hG.1 hW.1);have M5:=aa (M4.1.trans (Mv.bG hG.1 K4.1.dI (by simp))))|((with_reducible refine gS 50 48 rfl ?_);refine sC 3 (.int .i64 er) (wJ (.slice A l.length c) (P:Int) er) K5.1.dI ?_;intro wz hW hG;have K6:=aa (show Rv base W wz [(tb,308,(bF a b 0 f (.slice Av nv cv))),(W.heap.size,308,#[.int .i64 0, .int .u64 0, .int .i64 0, .bool false, .slice none 0 0])] br (.slice A l.length c) l (P:Int) er from K5.1.yA hG.1 hW.1);have M6:=aa (M5.1.trans (Mv.bG hG.1 K5.1.dI (by simp))))|((with_reducible refine az (N:=51) rfl ?_);refine lB K6.1.bk.cE Tryz.underlying308 ?_)|((with_reducible refine gS 6 51 rfl ?_);refine sB (bF a b 0 f (.slice Av nv cv)) K6.1.bk.fu ?_;intro wz hW hG;have K7:=aa (show Rv base W wz [(tb,308,(bF a b 0 f (.slice Av nv cv))),(W.heap.size,308,(bF a b 0 f (.slice Av nv cv)))] br (.slice A l.length c) l (P:Int) er from K6.1.set (l1:=[_]) hG.1 hW.1);have M7:=aa (M6.1.trans (Mv.bG hG.1 K6.1.bk.fu (by simp)))));refine zM K7.1.bk.fu hu ?_;exact uc.fin (by rw [HPP.1];exact K7.1) (F2.1.mv M7.1 (by decide)) HPJ.1 H.1.hL H.1.Af S1.1
 ·refine aT rfl ?_;go_wp2_with fail;have K2:=aa (K1.1.push 308 dx (by decide) (by decide));simp only [dx] at K2;refine bB.mk ⟨cell_of K2.1.dI 1,cell_of K2.1.dI 2⟩ (fun hSw=>?_);clear hSw;generalize World.alloc w1 _=w1a at K2 ⊢;generalize w1.heap.size=tb at K2 ⊢;refine aT rfl ?_;go_wp2_with fail;refine (T.1 A c w1a (Kd.bI K2.1.row).2.2 HC.1.2.1).mono ?_;rintro e w2 hT2;obtain ⟨hB2,a,b,f,Av,nv,cv,j,er,rfl,hF⟩:=hT2.flat;have K3:=aa (K2.1.grow hB2);have F2:=aa hF;have S1:=aa K2.1.bk.size;have M3:=aa (Mv.refl [308,275] w2);obtain ⟨hw1,hw2⟩:=y7 (hF.le HPJ.1) H.1.hL;clear hB2 hF hT2 K1 K2;generalize hP:p+j=P at hw1 hw2;have HPP:=aa hP;clear hP;go_wp2_with fail;refine bB.mk ⟨cell_of K3.1.dI 1,cell_of K3.1.dI 2⟩ (fun hSw=>?_);clear hSw;iterate 4 (refine eF ?_;simp only [cS,Act.put])
  refine bC ?_;simp only [aC,List.drop_zero];go_wp2_with (first|((with_reducible refine gS 7 35 rfl ?_);refine sB (bF a b 0 f (.slice Av nv cv)) K3.1.bk.cE ?_;intro wz hW hG;have K4:=aa (show Rv base W wz [(tb,308,(bF a b 0 f (.slice Av nv cv))),(W.heap.size,308,#[.int .i64 0, .int .u64 0, .int .i64 0, .bool false, .slice none 0 0])] br (.slice A l.length c) l p 0 from K3.1.set (l1:=[]) hG.1 hW.1);have c2:wz.cell? ⟨br,2,none⟩=some (.int .i64 p):=cell_of K4.1.dI 2;have M4:=aa (M3.1.trans (Mv.bG hG.1 K3.1.bk.cE (by simp))))|((with_reducible refine gS 46 44 rfl ?_);refine sC 2 (.int .i64 (P:Int)) (wJ (.slice A l.length c) (P:Int) 0) K4.1.dI ?_;intro wz hW hG;have K5:=aa (show Rv base W wz [(tb,308,(bF a b 0 f (.slice Av nv cv))),(W.heap.size,308,#[.int .i64 0, .int .u64 0, .int .i64 0, .bool false, .slice none 0 0])] br (.slice A l.length c) l (P:Int) 0 from K4.1.yA hG.1 hW.1);have M5:=aa (M4.1.trans (Mv.bG hG.1 K4.1.dI (by simp))))|((with_reducible refine gS 50 48 rfl ?_);refine sC 3 (.int .i64 er) (wJ (.slice A l.length c) (P:Int) er) K5.1.dI ?_;intro wz hW hG;have K6:=aa (show Rv base W wz [(tb,308,(bF a b 0 f (.slice Av nv cv))),(W.heap.size,308,#[.int .i64 0, .int .u64 0, .int .i64 0, .bool false, .slice none 0 0])] br (.slice A l.length c) l (P:Int) er from K5.1.yA hG.1 hW.1);have M6:=aa (M5.1.trans (Mv.bG hG.1 K5.1.dI (by simp))))|((with_reducible refine az (N:=51) rfl ?_);refine lB K6.1.bk.cE Tryz.underlying308 ?_)|((with_reducible refine gS 6 51 rfl ?_);refine sB (bF a b 0 f (.slice Av nv cv)) K6.1.bk.fu ?_;intro wz hW hG;have K7:=aa (show Rv base W wz [(tb,308,(bF a b 0 f (.slice Av nv cv))),(W.heap.size,308,(bF a b 0 f (.slice Av nv cv)))] br (.slice A l.length c) l (P:Int) er from K6.1.set (l1:=[_]) hG.1 hW.1);have M7:=aa (M6.1.trans (Mv.bG hG.1 K6.1.bk.fu (by simp)))));refine zM K7.1.bk.fu hu ?_;exact uc.fin (by rw [HPP.1];exact K7.1) (F2.1.mv M7.1 (by decide)) HPJ.1 H.1.hL H.1.Af S1.1
end Go.Proofs.YtpekmdpbfjdjkaaGreat.ref
namespace Go.Proofs.YtpekmdpbfjdjkaaGreat.dO
open Go Go.RowKit ag.ax ag.aV ag.aU aD fr iK cL plain fE
def FD (A:Option Addr) (c n p:Nat) (bad:Bool):Array Value:=#[.slice A n c, .int .i64 p, .bool bad]
structure Cq (W0:World) (A:Option Addr) (c:Nat) (l:List Int) (w:World) (b:Nat) (s:List Int × Int):Prop where
 dI:∃p,w.heap[b]? = some (.cells (FD A c l.length p (s.2 != 0)) 103 (0,0))∧p≤l.length∧s.1=l.drop p
 bel:Below W0.heap.size W0 w
 lo:W0.heap.size≤b
 row:Kd.C (Kd.int .u8) W0 A l.length l
 hc:l.length≤c
 hL:l.length≤200000000
 hy:aq l
variable {W0 w w':World} {A:Option Addr} {c b:Nat} {l:List Int} {s s':List Int × Int}
theorem Cq.Af (h:Cq W0 A c l w b s):aq s.1:=by
 obtain ⟨p,_,_,e⟩:=h.dI;rw [e];exact fun x hx=>h.hy x (bh hx)
theorem Cq.move {ts:List Nat} (h:Cq W0 A c l w b s) (hm:Mv ts w w') (hb:Below W0.heap.size w w') (ht:103∉ts):Cq W0 A c l w' b s:=by
 obtain ⟨p,h1,h2⟩:=h.dI;exact ⟨⟨p,hm.at h1 ht,h2⟩,h.bel.trans hb,h.lo,h.row,h.hc,h.hL,h.hy⟩
theorem Cq.set {p:Nat} (h:Cq W0 A c l w b s) (hg:w.grownBy w' (some b)) (hW:w'.heap[b]? = some (.cells (FD A c l.length p (s'.2 != 0)) 103 (0,0))) (hp:p≤l.length) (he:s'.1=l.drop p):Cq W0 A c l w' b s':=
 ⟨⟨p,hW,hp,he⟩,h.bel.grown hg h.bel.size (fun k e=>by injection e with e;have:=h.lo;omega),h.lo,h.row,h.hc,h.hL,h.hy⟩
def TQ:List Nat:=[103]
theorem Cq.mv {p:Nat} {f:Bool} (hg:w.grownBy w' (some b)) (hb:w.heap[b]? = some (.cells (FD A c l.length p f) 103 (0,0))):Mv TQ w w':=Mv.bG hg hb (by decide)
theorem Fg (w:World):Kd.C (Kd.int .u8) w none 0 []:=⟨rfl,by simp,fun h=>absurd h (by simp)⟩
theorem EN {m:Nat} {r:Option Nat} (h:(w.drewN m).grownBy w' r):w.grownBy w' r:=⟨h.os,h.tape,h.output,h.size,h.block⟩
theorem EQ (A:Option Addr) (len c p n:Nat) (h:p+n≤len) (hc:len≤c):∃A':Option Addr,(∀W:World,(Instr.slice 32 (.slice A len c) (some (.int .i64 p)) (some (.int .i64 ((p:Int)+n))) none).run Tryz.prog W = .ok (.slice A' n (c - p)) W)∧A'=if c=p then A else A.map (·.add p):=by
 refine ⟨_,fun W=>?_,rfl⟩;obtain ⟨i0,hi,hzz⟩:=Option.map_eq_some_iff.1 ff;simp only [cC] at hzz;have hel:Tryz.prog.elem 32=5:=by simp [Program.elem,Tryz.underlying32]
 have hu:Tryz.prog.underlying 32=some (.slice (Tryz.prog.elem 32)):=by rw [hel];exact Tryz.underlying32
 rw [run_slice_lh W 32 A len c hu .i64 .i64 p ((p:Int)+n) (by omega) (by omega) (by omega),hel];simp [sizeOf,typeInfo,hi,hzz.2.1,sliced,Result.andThen];omega
theorem FG {W:World} {xs:List Int} {m:Nat} (h:Kd.C (Kd.int .u8) W A xs.length xs) (hm:m≤xs.length) (hc:xs.length≤c):Kd.C (Kd.int .u8) W (if c=m then A else A.map (·.add m)) (xs.drop m).length (xs.drop m):=by
 have:=Kd.pw h hm hc;simpa [Kd.int,Kd.scalar] using this
def Gm (W0:World) (A:Option Addr) (c:Nat) (l:List Int) (w:World) (b:Nat) (n:Nat) (s:List Int × Int) (e:Ending) (w':World):Prop:=
 (∃A' c',e = .returned (.slice A' (tF n s).1.length c')∧(tF n s).1.length≤c'∧Kd.C (Kd.int .u8) W0 A' (tF n s).1.length (tF n s).1)∧Cq W0 A c l w' b (tF n s).2∧Mv TQ w w'∧Below W0.heap.size w w'
theorem Ez (n:Nat) (hn:n≤1000000000) (h:Cq W0 A c l w b s) :
 Calls Tryz.prog 49 #[.pointer (some ⟨b,0,none⟩), .int .i64 n] w (Gm W0 A c l w b n s):=by
 obtain ⟨r,e⟩:=s;have HH:=aa h;obtain ⟨p,hb,hp,hr⟩:=h.dI;have hr:r=l.drop p:=hr;subst hr;have HP:=aa hb;have hL:=h.hL;have c0:w.cell? ⟨b,0,none⟩=some (.slice A l.length c):=cell_of hb 0;have c1:w.cell? ⟨b,1,none⟩=some (.int .i64 p):=cell_of hb 1;have c2:w.cell? ⟨b,2,none⟩=some (.bool (e != 0)):=cell_of hb 2;have hn0:decide ((n:Int)<0)=false:=decide_eq_false (by omega);have hs:wrap64 ((l.length:Int) - p)=(l.length:Int) - p:=IntWalk.wrap64_in _ (by omega);have hs2:IntKind.i64.wrap ((l.length:Int) - p)=(l.length:Int) - p:=aA _ (by omega);clear h hb;by_cases he:e=0
 ·subst he;have hf:((0:Int) != 0)=false:=rfl;rw [hf] at c2;by_cases hl:(l.length:Int) - p<n
  ·have ht:tF n (l.drop p,0)=([],(l.drop p,21)):=by
    have h2:(l.drop p).length<n:=by rw [List.length_drop];omega
    simp only [tF,eg,ne_eq,not_true,if_false,if_pos h2,Option.getD_none]
   have hlb:decide ((l.length:Int) - p<(n:Int))=true:=decide_eq_true hl;clear hf;unfold Gm;rw [ht];go_in;go_wp2_with fail;go_quiet (fail);go_wp2_with ((with_reducible refine fq (t:=4) (p:=30) (v:= .const (.bool true)) rfl ?_);refine sC 2 (.bool true) (FD A c l.length p true) HP.1 ?_;intro w3 W3 G4;have G3:=aa (EN G4.1);clear G4);go_ret;exact ⟨⟨none,0,rfl,Nat.le_refl _,Fg W0⟩,HH.1.set (s':=(l.drop p,21)) G3.1 W3.1 hp rfl,Cq.mv G3.1 HP.1,(Below.refl _ _).grown G3.1 HH.1.bel.size (fun k e=>by injection e with e;have:=HH.1.lo;omega)⟩
  ·have hl1:((l.drop p).take n).length=n:=by rw [List.length_take,List.length_drop];omega
   have ht:tF n (l.drop p,0)=((l.drop p).take n,(l.drop (p+n),0)):=by
    have h2:¬(l.drop p).length<n:=by rw [List.length_drop];omega
    simp only [tF,eg,ne_eq,not_true,if_false,if_neg h2,Option.getD_some,gZ]
   have hlb:decide ((l.length:Int) - p<(n:Int))=false:=decide_eq_false hl;have hw:wrap64 ((p:Int)+n)=(p:Int)+n:=IntWalk.wrap64_in _ (by omega);have hw2:IntKind.i64.wrap ((p:Int)+n)=(p:Int)+n:=aA _ (by omega);clear hf;unfold Gm;rw [ht,hl1];go_in;go_wp2_with fail;go_quiet (fail);obtain ⟨A',hcut,hA'⟩:=EQ A l.length c p n (by omega) HH.1.hc;have HA:=aa hA';clear hA';go_wp2_with fail;go_quiet (fail);go_wp2_with ((with_reducible refine gS 54 52 rfl ?_);refine sC 1 (.int .i64 ((p:Int)+n)) (FD A c l.length (p+n) false) HP.1 ?_;intro w3 W3 G4;have G3:=aa (EN G4.1);clear G4);go_ret;have hx:=Kd.lq (FG HH.1.row hp HH.1.hc) (show n≤(l.drop p).length by rw [List.length_drop];omega);rw [hl1] at hx;exact ⟨⟨A',c - p,rfl,by have:=HH.1.hc;omega,by rw [HA.1];exact hx⟩,HH.1.set (s':=(l.drop (p+n),0)) G3.1 W3.1 (by omega) rfl,Cq.mv G3.1 HP.1,(Below.refl _ _).grown G3.1 HH.1.bel.size (fun k e=>by injection e with e;have:=HH.1.lo;omega)⟩
 ·have ht:tF n (l.drop p,e)=([],(l.drop p,e)):=by simp [tF,eg,he]
  have hf:(e != 0)=true:=by simpa using he
  rw [hf] at c2;unfold Gm;rw [ht];go_in;go_wp2_with fail;go_quiet (fail);go_wp2_with ((with_reducible refine fq (t:=4) (p:=30) (v:= .const (.bool true)) rfl ?_);refine sC 2 (.bool true) (FD A c l.length p true) HP.1 ?_;intro w3 W3 G4;have G3:=aa (EN G4.1);clear G4);go_ret;have hW:=W3.1;rw [←hf] at hW;exact ⟨⟨none,0,rfl,Nat.le_refl _,Fg W0⟩,HH.1.set (s':=(l.drop p,e)) G3.1 hW hp rfl,Cq.mv G3.1 HP.1,(Below.refl _ _).grown G3.1 HH.1.bel.size (fun k e=>by injection e with e;have:=HH.1.lo;omega)⟩
def Ge (W0:World) (A:Option Addr) (c:Nat) (l:List Int) (w:World) (b:Nat) (v:Value) (s:List Int × Int) (e:Ending) (w':World):Prop:=e = .returned v∧Cq W0 A c l w' b s∧Mv TQ w w'∧Below W0.heap.size w w'
theorem Eh (n:Nat) (hn:n≤8) (h:Cq W0 A c l w b s) :
 Calls Tryz.prog 50 #[.pointer (some ⟨b,0,none⟩), .int .i64 n] w (Ge W0 A c l w b (.int .u64 (aZ n s).1) (aZ n s).2):=by
 have T:=aa (Ez n (by omega) h);obtain ⟨B1,_,B3⟩:=iC (n:=n) h.Af;have hbt:=aa B1;have e1:(tF n s).1=(eg n s).1.getD []:=rfl;have e2:(tF n s).2=(eg n s).2:=rfl;unfold Ge aZ;unfold Gm at T;rw [e1,e2] at T;generalize (eg n s).1.getD []=xs at T hbt B3 ⊢;clear e1 e2 B1 h;go_in;go_wp2_with fail;refine T.1.mono ?_;rintro e w1 ⟨⟨A',c',rfl,hc',hR⟩,hQ,hM,hB⟩;have HQ:=aa hQ;have HM:=aa hM;have HB:=aa hB;have HR:=aa (Kd.aN hR hQ.bel);clear hQ hM hB hR T;go_wp2_with fail;go_loop [5,7] (fun v5 v7=>∃k:Nat,k≤xs.length∧v7 = .int .i64 (k:Int)∧v5 = .int .u64 (val (xs.take k))) (fun _ v=>xs.length - (intOf v).toNat)
 case atStart=>exact ⟨0,aI _,rfl,rfl⟩
 case round=>
  obtain ⟨k,hk,rfl,rfl⟩:=hrel;by_cases hlt2:k<xs.length
  ·obtain ⟨ad,rfl,hcell⟩:=mU HR.1 k hlt2;have hc:=hbt.1 (rd xs k) (by simp only [rd,List.getD_eq_getElem?_getD,Int.toNat_natCast,List.getElem?_eq_getElem hlt2,Option.getD_some];exact List.getElem_mem hlt2);have hv:=i7 (xs.take k) (fun c hc=>hbt.1 c (List.mem_of_mem_take hc));have hv2:val (xs.take k)<72057594037927936:=by
    have h7:∀m:Fin 8,(256:Int) ^ m.val≤72057594037927936:=by decide
    have:=h7 ⟨(xs.take k).length,by rw [List.length_take];omega⟩;have:=hv.2;simp only at *;omega
   have hwc:IntKind.u64.wrap (rd xs k)=rd xs k:=by simp [IntKind.wrap,IntKind.signed,IntKind.bits];omega
   have hwm:IntKind.u64.wrap (256*val (xs.take k))=256*val (xs.take k):=by rw [kj];omega
   have hwa:IntKind.u64.wrap (256*val (xs.take k)+rd xs k)=256*val (xs.take k)+rd xs k:=by rw [kj];omega
   have HN:=aa (show val (xs.take (k+1))=256*val (xs.take k)+rd xs k by
    rw [bz hlt2,qg,mV];congr 1;simp [rd,List.getD_eq_getElem?_getD,List.getElem?_eq_getElem hlt2])
   clear hc hv hv2;go_wp2_with fail;go_round
   case rel=>exact ⟨k+1,by omega,by go_num,by rw [HN.1]⟩
   case measure=>simp [intOf];omega
  ·go_wp2_with fail;go_ret;exact ⟨by
    have e:Ending.returned (.int .u64 (val (xs.take k)))=Ending.returned (.int .u64 (val xs)):=by rw [List.take_of_length_le (by omega)]
    exact e,HQ.1,HM.1,HB.1⟩
def Ei (most:Int):Nat→Nat→Int→(List Int × Int)→Int × (List Int × Int)
 | 0,_,_,s=>(0,(s.1,1))
 | k+1,i,x,s=>if (aZ 1 s).1<128 then (if most<x+(aZ 1 s).1 % 128*2 ^ (7*i) then (0,((aZ 1 s).2.1,1)) else (x+(aZ 1 s).1 % 128*2 ^ (7*i),(aZ 1 s).2)) else Ei most k (i+1) (x+(aZ 1 s).1 % 128*2 ^ (7*i)) (aZ 1 s).2
def vw (most:Int) (s:List Int × Int):Int × (List Int × Int):=Ei most 5 0 0 s
variable {W0 w w':World} {A:Option Addr} {c b:Nat} {l:List Int} {s s':List Int × Int}
theorem p7 {i:Nat} (h:i≤4):(2:Int) ^ (7*i)≤268435456∧1≤(2:Int) ^ (7*i)∧(2:Int) ^ (7*(i+1))=128*2 ^ (7*i):=by
 have h4:∀j:Fin 5,(2:Int) ^ (7*j.val)≤268435456∧1≤(2:Int) ^ (7*j.val)∧(2:Int) ^ (7*(j.val+1))=128*2 ^ (7*j.val):=by decide
 exact h4 ⟨i,by omega⟩
theorem Cq.FV (h:Cq W0 A c l w b s):∃p,w.heap[b]? = some (.cells (FD A c l.length p (s.2 != 0)) 103 (0,0))∧∀w':World,af (w'.heap[b]? = some (.cells (FD A c l.length p true) 103 (0,0)))→af (w.grownBy w' (some b))→Ge W0 A c l w b (.int .i64 0) (s.1,1) (.returned (.int .i64 0)) w':=by
 obtain ⟨p,hb,hp,he⟩:=h.dI;refine ⟨p,hb,fun w' hW hG=>⟨rfl,h.set (s':=(s.1,1)) hG.1 hW.1 hp he,Cq.mv hG.1 hb,(Below.refl _ _).grown hG.1 h.bel.size (fun k e=>by injection e with e;have:=h.lo;omega)⟩⟩
theorem Ge.after {v:Value} {s2:List Int × Int} {e:Ending} {w2:World} (h:Ge W0 A c l w' b v s2 e w2) (hm:Mv TQ w w') (hb:Below W0.heap.size w w'):Ge W0 A c l w b v s2 e w2:=⟨h.1,h.2.1,hm.trans h.2.2.1,hb.trans h.2.2.2⟩
theorem Ea (most:Int) (h0:0≤most) (h1:most≤2000000000) (h:Cq W0 A c l w b s) :
 Calls Tryz.prog 51 #[.pointer (some ⟨b,0,none⟩), .int .i64 most] w (Ge W0 A c l w b (.int .i64 (vw most s).1) (vw most s).2):=by
 have HH:=aa h;have H1:=aa h1;generalize hO:vw most s=o;have HO:=aa (show Ei most (5 - 0) 0 0 s=o from hO);clear hO h h1;go_in;go_wp2_with fail;go_loopw [5,6] (fun v5 v6 wr=>∃(i:Nat) (x:Int) (s2:List Int × Int),i≤5∧v6 = .int .i64 i∧v5 = .int .i64 x∧af (0≤x∧x<2 ^ (7*i))∧af (Ei most (5 - i) i x s2=o)∧af (Cq W0 A c l wr b s2)∧af (Mv TQ w wr)∧af (Below W0.heap.size w wr)) (fun _ v _=>5 - (intOf v).toNat)
 case atStart=>exact ⟨0,0,s,by omega,rfl,rfl,⟨by decide⟩,HO,HH,⟨Mv.refl _ _⟩,⟨Below.refl _ _⟩⟩
 case round=>
  obtain ⟨i,x,s2,hi,rfl,rfl,HX,J,HQ,HM,HB⟩:=hrel;clear HO HH;by_cases hlt:i<5
  case neg=>
   have hi5:i=5:=by omega
   subst hi5;have J1:=aa (show (0,(s2.1,1))=o from J.1);obtain ⟨p,hb,hF⟩:=HQ.1.FV;have HC:=aa hb;have HF:=aa hF;clear J hb hF;go_wp2_with ((with_reducible refine fq (t:=4) (p:=33) (v:= .const (.bool true)) rfl ?_);refine sC 2 (.bool true) (FD A c l.length p true) HC.1 ?_;intro w3 W3 G3);go_ret;have hr:=(HF.1 w3 W3 G3).after HM.1 HB.1;rw [←J1.1];exact hr
  have hq:=gC (n:=1) HQ.1.Af;have BQ:=aa (Eh 1 (by omega) HQ.1);obtain ⟨k,hk⟩:∃k,5 - i=k+1:=⟨4 - i,by omega⟩;have J:=J.1;rw [hk,Ei] at J;generalize aZ 1 s2=q at BQ J hq;obtain ⟨y,s3⟩:=q;have hy:0≤y∧y<256:=hq;have p1:=(p7 (i:=i) (by omega)).1;have p2:=(p7 (i:=i) (by omega)).2.1;have p3:=(p7 (i:=i) (by omega)).2.2;have X0:=HX.1.1;have X1:=HX.1.2;have hm:Int.tmod y 128=y % 128:=Int.tmod_eq_emod_of_nonneg hy.1;have h7:wrap64 (7*(i:Int))=7*(i:Int):=IntWalk.wrap64_in _ (by omega);have h7n:(7*(i:Int)).toNat=7*i:=by omega
  have hcv:IntKind.i64.wrap y=y:=aA _ (by omega);have hm0:0≤y % 128∧y % 128≤127:=by omega
  have hd:=og hm0.1 (show (0:Int)≤2 ^ (7*i) by omega);have hd1:y % 128*2 ^ (7*i)≤127*2 ^ (7*i):=dL hm0.2 (by omega);have hsh:IntKind.i64.wrap (y % 128*2 ^ (7*i))=y % 128*2 ^ (7*i):=aA _ (by omega);have hX2:0≤x+y % 128*2 ^ (7*i)∧x+y % 128*2 ^ (7*i)<2 ^ (7*(i+1)):=by omega
  have hX3:x+y % 128*2 ^ (7*i)<68719476736:=by omega
  generalize hz:y % 128*2 ^ (7*i)=z at *;have hw:wrap64 (x+z)=x+z:=IntWalk.wrap64_in _ (by omega);have hwz:wrap64 z=z:=IntWalk.wrap64_in _ (by omega);clear p1 p2 p3 X0 X1 hd hd1;go_wp2_with fail;refine BQ.1.mono ?_;rintro e w2 ⟨rfl,hq2,hm2,hb2⟩;have HQ2:=aa hq2;have HM2:=aa (HM.1.trans hm2);have HB2:=aa (HB.1.trans hb2);clear hq2 hm2 hb2 HQ HM HB BQ;have JJ:=aa J;have HX2:=aa hX2;clear J hX2 HX;by_cases hl:y<128
  ·have hlb:decide (y<128)=true:=decide_eq_true hl;by_cases hb:most<x+z
   ·have hbb:decide (most<x+z)=true:=decide_eq_true hb;have J1:=aa (show (0,(s3.1,1))=o by rw [←JJ.1,if_pos hl,if_pos hb]);obtain ⟨p,hp,hF⟩:=HQ2.1.FV;have HC:=aa hp;have HF:=aa hF;clear hp hF JJ;go_wp2_with ((with_reducible refine fq (t:=4) (p:=29) (v:= .const (.bool true)) rfl ?_);refine sC 2 (.bool true) (FD A c l.length p true) HC.1 ?_;intro w3 W3 G3);go_ret;have hr:=(HF.1 w3 W3 G3).after HM2.1 HB2.1;rw [←J1.1];exact hr
   ·have hbb:decide (most<x+z)=false:=decide_eq_false hb;have J1:=aa (show (x+z,s3)=o by rw [←JJ.1,if_pos hl,if_neg hb]);clear JJ;go_wp2_with fail;go_ret;rw [←J1.1];have e:Ending.returned (.int .i64 (wrap64 (x+z)))=Ending.returned (.int .i64 (x+z)):=by rw [hw]
    exact ⟨e,HQ2.1,HM2.1,HB2.1⟩
  ·have hlb:decide (y<128)=false:=decide_eq_false hl;have J1:=aa (show Ei most (5 - (i+1)) (i+1) (x+z) s3=o by rw [←JJ.1,if_neg hl,show 5 - (i+1)=k by omega]);clear JJ;go_wp2_with fail;go_roundw
   case rel=>exact ⟨i+1,x+z,s3,by omega,by go_num,by rw [hw],HX2,J1,HQ2,HM2,HB2⟩
   case measure=>
    show 5 - ((i:Int)+1).toNat<5 - (i:Int).toNat;omega
def Fz (W0:World):Kd (List Int) where
 sz:=1
 E:=[]
 K:=fun _ xs cs=>∃A c,cs=[.slice A xs.length c]∧xs.length≤c∧Kd.C (Kd.int .u8) W0 A xs.length xs
 M:=fun _ _ _ xs cs=>∃A c,cs=[.slice A xs.length c]∧xs.length≤c∧Kd.C (Kd.int .u8) W0 A xs.length xs
 K_len:=by
  rintro w x cs ⟨A,c,rfl,_⟩;rfl
 K_one:=by
  rintro w x cs ⟨A,c,rfl,_⟩ u hu;rw [List.mem_singleton.1 hu];rfl
 K_below:=fun _ h=>h
 K_of_M:=fun h=>h
 M_mono:=fun _ h=>h
 M_bound:=fun h=>h
 M_move:=fun _ h=>h
 M_lower:=fun _ h=>h
def Gl (W0:World):Kd iA:=Kd.Ah (Kd.pair (Kd.int .u64) (Fz W0)) (fun x=>(x.f0,x.f1))
def FW (W0:World):Kd jE:=Kd.Ah (Kd.pair (Kd.int .u64) (Fz W0)) (fun x=>(x.f0,x.f1))
def FQ (W0:World):Kd gX:=Kd.Ah (Kd.pair (Kd.int .u64) (Kd.pair (Kd.int .u64) (Kd.pair (Kd.slice 32 (Fz W0)) (Kd.pair (Kd.int .u64) (Kd.pair (Kd.int .u64) (Kd.slice 99 (FW W0))))))) (fun x=>(x.f0,x.f1,x.f2,x.f3,x.f4,x.f5))
section
variable {W0 w:World} {base:Nat} {ok:Nat→Prop} {A:Option Addr} {c:Nat}
theorem F9 {xs:List Int} (l:xs.length≤c) (g:Kd.C (Kd.int .u8) W0 A xs.length xs):(Fz W0).M w base ok xs [.slice A xs.length c]:=⟨A,c,rfl,l,g⟩
theorem Gf (x:iA) (l:x.f1.length≤c) (g:Kd.C (Kd.int .u8) W0 A x.f1.length x.f1):(Gl W0).M w base ok x [.int .u64 x.f0, .slice A x.f1.length c]:=⟨[_],[_],rfl,rfl,⟨A,c,rfl,l,g⟩⟩
theorem Gg (x:jE) (l:x.f1.length≤c) (g:Kd.C (Kd.int .u8) W0 A x.f1.length x.f1):(FW W0).M w base ok x [.int .u64 x.f0, .slice A x.f1.length c]:=⟨[_],[_],rfl,rfl,⟨A,c,rfl,l,g⟩⟩
theorem Gd (x:gX) {v2 v5:Value} (g2:(Fz W0).R 32 w base ok v2 x.f2) (g5:(FW W0).R 99 w base ok v5 x.f5):(FQ W0).M w base ok x [.int .u64 x.f0, .int .u64 x.f1,v2, .int .u64 x.f3, .int .u64 x.f4,v5]:=
 ⟨[_],[.int .u64 x.f1,v2, .int .u64 x.f3, .int .u64 x.f4,v5],rfl,rfl,⟨[_],[v2, .int .u64 x.f3, .int .u64 x.f4,v5],rfl,rfl,⟨[v2],[.int .u64 x.f3, .int .u64 x.f4,v5],rfl,⟨v2,rfl,g2⟩,⟨[_],[.int .u64 x.f4,v5],rfl,rfl,⟨[_],[v5],rfl,rfl,⟨v5,rfl,g5⟩⟩⟩⟩⟩⟩
theorem FH {α:Type} {d d':Kd α} (hz:d.sz=d'.sz) (h:∀x cs,d.K w x cs→d'.K w x cs) {n:Nat} {xs:List α} (hc:d.C w A n xs):d'.C w A n xs:=by
 unfold Kd.C at hc ⊢;rw [←hz];exact eZ.lG hc (Below.refl _ _) (fun x cs hp=>h x cs hp)
theorem Fh (hb:Below W0.heap.size W0 w) (xs:List Int) (cs:List Value) (h:(Fz W0).K w xs cs):(Kd.slice 5 (Kd.int .u8)).K w xs cs:=by
 obtain ⟨A,c,rfl,l,g⟩:=h;exact ⟨A,c,rfl,l,Kd.aN g hb⟩
theorem Gs (hb:Below W0.heap.size W0 w) (x:iA) (cs:List Value) (h:(Gl W0).K w x cs):Ee.K w x cs:=by
 obtain ⟨c0,c1,rfl,h0,h1⟩:=h;exact ⟨c0,c1,rfl,h0,Fh hb _ _ h1⟩
theorem Gq (hb:Below W0.heap.size W0 w) (x:jE) (cs:List Value) (h:(FW W0).K w x cs):jC.K w x cs:=by
 obtain ⟨c0,c1,rfl,h0,h1⟩:=h;exact ⟨c0,c1,rfl,h0,Fh hb _ _ h1⟩
theorem Gn (hb:Below W0.heap.size W0 w) (x:gX) (cs:List Value) (h:(FQ W0).K w x cs):ld.K w x cs:=by
 obtain ⟨c0,_,rfl,h0,c1,_,rfl,h1,c2,_,rfl,⟨A2,d2,rfl,l2,g2⟩,c3,_,rfl,h3,c4,_,rfl,h4,⟨A5,d5,rfl,l5,g5⟩⟩:=h;exact ⟨c0,_,rfl,h0,c1,_,rfl,h1,_,_,rfl,⟨A2,d2,rfl,l2,FH (w:=w) (d:=Fz W0) (d':=Kd.slice 5 (Kd.int .u8)) rfl (Fh hb) g2⟩,c3,_,rfl,h3,c4,_,rfl,h4,⟨A5,d5,rfl,l5,FH (w:=w) (d:=FW W0) (d':=jC) rfl (Gq hb) g5⟩⟩
end
theorem Em {E L ts:List Nat} {e:Nat} (hE:E=L) (h:∀q∈e::L,q∉ts):∀q,q∈e::E→q∉ts:=by subst hE;exact h
def mu {α:Type} (f:(List Int × Int)→α × (List Int × Int)):Nat→(List Int × Int)→List α × (List Int × Int)
 | 0,s=>([],s)
 | n+1,s=>if s.2≠0 then ([],s) else ((f s).1::(mu f n (f s).2).1,(mu f n (f s).2).2)
def DV (most:Int) (s:List Int × Int):List Int × (List Int × Int):=tF (vw most s).1.toNat (vw most s).2
def Fb (s:List Int × Int):iA × (List Int × Int):=(⟨(aZ 8 s).1,(DV 64 (aZ 8 s).2).1⟩,(DV 64 (aZ 8 s).2).2)
def Er (s:List Int × Int):jE × (List Int × Int):=(⟨(aZ 8 s).1,(DV 3072 (aZ 8 s).2).1⟩,(DV 3072 (aZ 8 s).2).2)
def DT:Nat→Int→(List Int × Int)→List eW × (List Int × Int)
 | 0,_,s=>([],s)
 | n+1,lo,s=>if s.2≠0 then ([],s) else (⟨lo,(aZ 8 s).1,(aZ 1 (aZ 8 s).2).1⟩::(DT n (IntKind.u64.wrap ((aZ 8 s).1+1)) (aZ 1 (aZ 8 s).2).2).1,(DT n (IntKind.u64.wrap ((aZ 8 s).1+1)) (aZ 1 (aZ 8 s).2).2).2)
def DU (s:List Int × Int):gX × (List Int × Int):=
 let a:=aZ 8 s
 let b:=aZ 8 a.2
 let c:=aZ 8 b.2
 let d:=aZ 8 c.2
 let k:=vw 16 d.2
 let q:=mu (DV 3072) k.1.toNat k.2
 let m:=vw 16 q.2
 let e:=mu Er m.1.toNat m.2
 (⟨a.1,b.1,q.1,c.1,d.1,e.1⟩,e.2)
def Et (s:List Int × Int):List gX × (List Int × Int):=mu DU (aZ 1 s).1.toNat (aZ 1 s).2
def El (s:List Int × Int):Hs × (List Int × Int):=
 let a:=aZ 1 s
 let k1:=vw 8192 a.2
 let t:=DT k1.1.toNat 0 k1.2
 let k2:=vw 32768 t.2
 let p:=mu Fb k2.1.toNat k2.2
 let k3:=vw 16 p.2
 let x:=mu pY k3.1.toNat k3.2
 let f:=vw 1073741824 x.2
 let g:=vw 1073741824 f.2
 let e:=Et g.2
 (⟨a.1,t.1,p.1,x.1,f.1,g.1,e.1⟩,e.2)
theorem EZ (most:Int) (h0:0≤most):∀(k i:Nat) (x:Int) (s:List Int × Int),0≤x→aq s.1→0≤(Ei most k i x s).1∧(Ei most k i x s).1≤most∧aq (Ei most k i x s).2.1:=by
 intro k;induction k with
 | zero=>intro i x s hx h;exact ⟨fC _,h0,h⟩
 | succ k ih=>
  intro i x s hx h;have h1:=gC (n:=1) h;have h2:=cw (n:=1) h;have h3:0≤x+(aZ 1 s).1 % 128*2 ^ (7*i):=Int.add_nonneg hx (og (by omega) (iq (Int.pow_pos (by decide))));rw [Ei];split
  ·split
   ·exact ⟨fC _,h0,h2⟩
   ·exact ⟨h3,by simp only;omega,h2⟩
  ·exact ih _ _ _ h3 h2
theorem Ac (most:Int) (h0:0≤most) (s:List Int × Int) (h:aq s.1):0≤(vw most s).1∧(vw most s).1≤most∧aq (vw most s).2.1:=EZ most h0 5 0 0 s (fC _) h
theorem Ek (most:Int) (h0:0≤most) (s:List Int × Int) (h:aq s.1):aq (DV most s).1∧((DV most s).1.length:Int)≤most∧aq (DV most s).2.1:=by
 obtain ⟨h1,h2,h3⟩:=Ac most h0 s h;obtain ⟨g1,g2,g3⟩:=iC (n:=(vw most s).1.toNat) h3;exact ⟨g1,(by have:(DV most s).1.length≤(vw most s).1.toNat:=g3;omega),g2⟩
theorem DZ {α:Type} (f:(List Int × Int)→α × (List Int × Int)) (P:α→Prop) (hf:∀s,aq s.1→P (f s).1∧aq (f s).2.1):∀(n:Nat) (s:List Int × Int),aq s.1→(∀x∈(mu f n s).1,P x)∧aq (mu f n s).2.1∧(mu f n s).1.length≤n:=by
 intro n;induction n with
 | zero=>
  intro s h;exact ⟨(fun x hx=>by cases hx),h,Nat.le_refl _⟩
 | succ n ih=>
  intro s h;rw [mu];split
  ·exact ⟨(fun x hx=>by cases hx),h,by simp⟩
  ·obtain ⟨h1,h2⟩:=hf s h;obtain ⟨i1,i2,i3⟩:=ih (f s).2 h2;refine ⟨fun x hx=>?_,i2,by simp only [List.length_cons];omega⟩;rcases List.mem_cons.1 hx with rfl|hx
   ·exact h1
   ·exact i1 x hx
theorem Cq.c2 {W0 w:World} {A:Option Addr} {c b:Nat} {l:List Int} {s:List Int × Int} (h:Cq W0 A c l w b s):w.cell? ⟨b,2,none⟩=some (.bool (s.2 != 0)):=by
 obtain ⟨p,hb,_⟩:=h.dI;exact cell_of hb 2
theorem Fe {W w w':World} {base g:Nat} (h:Below base W w) (hg:w.grownBy w' (some g)) (hb:base≤g) (hs:base≤w.heap.size):Below base W w':=h.grown hg hs (fun k e=>by injection e with e;omega)
structure OI (W0 W:World) (A:Option Addr) (c:Nat) (l:List Int) (b sb tb:Nat) (w:World) (s:List Int × Int) (SC:Array Value) (v6:Value) (acc:List gX):Prop where
 cu:Cq W0 A c l w b s
 mv:Mv [103,30] W w
 bl:Below W0.heap.size W w
 sblk:w.heap[sb]? = some (.cells SC 30 (0,0))
 tblk:w.heap[tb]? = some (.cells hZ 30 (0,0))
 r6:(FQ W0).R 68 w W.heap.size (fun _=>True) v6 acc
 hW:W0.heap.size≤W.heap.size
 hs:sb<W.heap.size
 hs0:W0.heap.size≤sb
 hts:tb≠sb
 ht:tb<W.heap.size
structure EI (W0 W:World) (A:Option Addr) (c:Nat) (l:List Int) (b sb tb pb h5:Nat) (w:World) (s:List Int × Int) (SC PC:Array Value) (v6 v2 v5:Value) (acc:List gX) (qs:List (List Int)) (es:List jE):Prop where
 cu:Cq W0 A c l w b s
 mv:Mv [103,30] W w
 bl:Below W0.heap.size W w
 sblk:w.heap[sb]? = some (.cells SC 30 (0,0))
 tblk:w.heap[tb]? = some (.cells hZ 30 (0,0))
 pblk:w.heap[pb]? = some (.cells PC 68 (0,0))
 r6:(FQ W0).R 68 w W.heap.size (fun k=>k<pb) v6 acc
 r2:(Fz W0).R 32 w (pb+1) (fun _=>True) v2 qs
 r5:(FW W0).R 99 w (pb+1) (fun k=>k<h5) v5 es
 hp:W.heap.size≤pb
 h5p:pb<h5
 h5s:h5≤w.heap.size
 hW:W0.heap.size≤W.heap.size
 hs:sb<W.heap.size
 hs0:W0.heap.size≤sb
 hts:tb≠sb
 ht:tb<W.heap.size
variable {W0 W w w':World} {A:Option Addr} {c b sb tb pb h5:Nat} {l:List Int} {s s':List Int × Int} {SC PC PC' SC':Array Value} {v6 v2 v5 v2' v5' v6':Value} {acc acc':List gX} {qs qs':List (List Int)} {es es':List jE}
theorem OI.grow (h:OI W0 W A c l b sb tb w s SC v6 acc) (hb:Below w.heap.size w w'):OI W0 W A c l b sb tb w' s SC v6 acc:=
 have k:=Nat.le_trans h.hW h.mv.size
 ⟨h.cu.move (ts:=[]) (Mv.cH hb) (hb.mono k) (by simp),h.mv.trans (Mv.cH hb),h.bl.trans (hb.mono k),(hb.block _ (ak h.sblk)).trans h.sblk,(hb.block _ (ak h.tblk)).trans h.tblk,Kd.bR h.r6 hb,h.hW,h.hs,h.hs0,h.hts,h.ht⟩
theorem OI.call (h:OI W0 W A c l b sb tb w s SC v6 acc) (hq:Cq W0 A c l w' b s') (hm:Mv TQ w w') (hb:Below W0.heap.size w w'):OI W0 W A c l b sb tb w' s' SC v6 acc:=
 ⟨hq,h.mv.trans (hm.mono (by decide)),h.bl.trans hb,hm.at h.sblk (by decide),hm.at h.tblk (by decide),eV h.r6 hm (Em (L:=[32,99]) rfl (by decide)),h.hW,h.hs,h.hs0,h.hts,h.ht⟩
theorem EI.grow (h:EI W0 W A c l b sb tb pb h5 w s SC PC v6 v2 v5 acc qs es) (hb:Below w.heap.size w w'):EI W0 W A c l b sb tb pb h5 w' s SC PC v6 v2 v5 acc qs es:=
 have k:=Nat.le_trans h.hW h.mv.size
 ⟨h.cu.move (ts:=[]) (Mv.cH hb) (hb.mono k) (by simp),h.mv.trans (Mv.cH hb),h.bl.trans (hb.mono k),(hb.block _ (ak h.sblk)).trans h.sblk,(hb.block _ (ak h.tblk)).trans h.tblk,(hb.block _ (ak h.pblk)).trans h.pblk,Kd.bR h.r6 hb,Kd.bR h.r2 hb,Kd.bR h.r5 hb,h.hp,h.h5p,Nat.le_trans h.h5s hb.size,h.hW,h.hs,h.hs0,h.hts,h.ht⟩
theorem EI.call (h:EI W0 W A c l b sb tb pb h5 w s SC PC v6 v2 v5 acc qs es) (hq:Cq W0 A c l w' b s') (hm:Mv TQ w w') (hb:Below W0.heap.size w w'):EI W0 W A c l b sb tb pb h5 w' s' SC PC v6 v2 v5 acc qs es:=
 ⟨hq,h.mv.trans (hm.mono (by decide)),h.bl.trans hb,hm.at h.sblk (by decide),hm.at h.tblk (by decide),hm.at h.pblk (by decide),eV h.r6 hm (Em (L:=[32,99]) rfl (by decide)),eV h.r2 hm (Em (L:=[]) rfl (by decide)),eV h.r5 hm (Em (L:=[]) rfl (by decide)),h.hp,h.h5p,Nat.le_trans h.h5s hm.size,h.hW,h.hs,h.hs0,h.hts,h.ht⟩
theorem OI.open_ (h:OI W0 W A c l b sb tb w s SC v6 acc) (hb:Below w.heap.size w w') (hw:w'.heap[w.heap.size]? = some (.cells PC 68 (0,0))):EI W0 W A c l b sb tb w.heap.size w'.heap.size w' s SC PC v6 (.slice none 0 0) (.slice none 0 0) acc [] []:=
 have g:=h.grow hb
 ⟨g.cu,g.mv,g.bl,g.sblk,g.tblk,hw,Kd.bR (Kd.bZ (Kd.bS h.r6) (fun k hk=>hk.2.2.1)) hb,Kd.cY _ _ _ _ _,Kd.cY _ _ _ _ _,h.mv.size,ak hw,Nat.le_refl _,h.hW,h.hs,h.hs0,h.hts,h.ht⟩
theorem EI.EU (h:EI W0 W A c l b sb tb pb h5 w s SC PC v6 v2 v5 acc qs es) (hg:w.grownBy w' (some pb)) (hw:w'.heap[pb]? = some (.cells PC' 68 (0,0))):EI W0 W A c l b sb tb pb h5 w' s SC PC' v6 v2 v5 acc qs es:=
 have m:Mv [68] w w':=Mv.bG hg h.pblk (by decide)
 have q:Below W0.heap.size w w':=(Below.refl _ _).grown hg (Nat.le_trans h.hW h.mv.size) (fun k e=>by injection e with e;have:=h.hp;have:=h.hW;omega)
 ⟨h.cu.move m q (by decide),oZ h.mv hg (fun k e=>by injection e with e;have:=h.hp;omega),h.bl.trans q,m.at h.sblk (by decide),m.at h.tblk (by decide),hw,Kd.rS h.r6 (fun k hk hl=>hg.block k hl (fun e=>by injection e with e;omega)),eV h.r2 m (Em (L:=[]) rfl (by decide)),eV h.r5 m (Em (L:=[]) rfl (by decide)),h.hp,h.h5p,Nat.le_trans h.h5s m.size,h.hW,h.hs,h.hs0,h.hts,h.ht⟩
theorem EI.FZ (h:EI W0 W A c l b sb tb pb h5 w s SC PC v6 v2 v5 acc qs es) (hg:w.grownBy w' v2.ownBlock) (hr:(Fz W0).R 32 w' (pb+1) (fun _=>True) v2' qs'):EI W0 W A c l b sb tb pb h5 w' s SC PC v6 v2' v5 acc qs' es:=
 have m:Mv [32] w w':=Mv.fB hg h.r2 (by decide)
 have lo:∀k,v2.ownBlock=some k→pb+1≤k:=fun k e=>(mi h.r2 k e).1
 have q:Below W0.heap.size w w':=(Below.refl _ _).grown hg (Nat.le_trans h.hW h.mv.size) (fun k e=>by have:=lo k e;have:=h.hp;have:=h.hW;omega)
 ⟨h.cu.move m q (by decide),oZ h.mv hg (fun k e=>by have:=lo k e;have:=h.hp;omega),h.bl.trans q,m.at h.sblk (by decide),m.at h.tblk (by decide),m.at h.pblk (by decide),Kd.rS h.r6 (fun k hk hl=>hg.block k hl (fun e=>by have:=lo k e.symm;omega)),hr,eV h.r5 m (Em (L:=[]) rfl (by decide)),h.hp,h.h5p,Nat.le_trans h.h5s m.size,h.hW,h.hs,h.hs0,h.hts,h.ht⟩
theorem EI.GB (h:EI W0 W A c l b sb tb pb h5 w s SC PC v6 v2 v5 acc qs es) (hg:w.grownBy w' v5.ownBlock) (hr:(FW W0).R 99 w' (pb+1) (fun _=>True) v5' es'):EI W0 W A c l b sb tb pb w'.heap.size w' s SC PC v6 v2 v5' acc qs es':=
 have m:Mv [99] w w':=Mv.fB hg h.r5 (by decide)
 have lo:∀k,v5.ownBlock=some k→pb+1≤k:=fun k e=>(mi h.r5 k e).1
 have q:Below W0.heap.size w w':=(Below.refl _ _).grown hg (Nat.le_trans h.hW h.mv.size) (fun k e=>by have:=lo k e;have:=h.hp;have:=h.hW;omega)
 ⟨h.cu.move m q (by decide),oZ h.mv hg (fun k e=>by have:=lo k e;have:=h.hp;omega),h.bl.trans q,m.at h.sblk (by decide),m.at h.tblk (by decide),m.at h.pblk (by decide),Kd.rS h.r6 (fun k hk hl=>hg.block k hl (fun e=>by have:=lo k e.symm;omega)),eV h.r2 m (Em (L:=[]) rfl (by decide)),Kd.bZ (Kd.bS hr) (fun k hk=>hk.2.2.1),h.hp,Nat.lt_of_lt_of_le (ak h.pblk) m.size,Nat.le_refl _,h.hW,h.hs,h.hs0,h.hts,h.ht⟩
theorem EI.Gt {fb:Nat} {FC:Array Value} (h:EI W0 W A c l b sb tb pb h5 w s SC PC v6 v2 v5 acc qs es) (hg:w.grownBy w' (some fb)) (hw:w.heap[fb]? = some (.cells FC 99 (0,0))) (hf:h5≤fb):EI W0 W A c l b sb tb pb h5 w' s SC PC v6 v2 v5 acc qs es:=
 have m:Mv [99] w w':=Mv.bG hg hw (by decide)
 have q:Below W0.heap.size w w':=(Below.refl _ _).grown hg (Nat.le_trans h.hW h.mv.size) (fun k e=>by injection e with e;have:=h.hp;have:=h.hW;have:=h.h5p;omega)
 ⟨h.cu.move m q (by decide),oZ h.mv hg (fun k e=>by injection e with e;have:=h.hp;have:=h.h5p;omega),h.bl.trans q,m.at h.sblk (by decide),m.at h.tblk (by decide),m.at h.pblk (by decide),Kd.rS h.r6 (fun k hk hl=>hg.block k hl (fun e=>by injection e with e;have:=h.h5p;omega)),eV h.r2 m (Em (L:=[]) rfl (by decide)),Kd.rS h.r5 (fun k hk hl=>hg.block k hl (fun e=>by injection e with e;omega)),h.hp,h.h5p,Nat.le_trans h.h5s m.size,h.hW,h.hs,h.hs0,h.hts,h.ht⟩
theorem EI.Gx (h:EI W0 W A c l b sb tb pb h5 w s SC PC v6 v2 v5 acc qs es) (hg:w.grownBy w' v6.ownBlock) (hr:(FQ W0).R 68 w' W.heap.size (fun _=>True) v6' acc'):OI W0 W A c l b sb tb w' s SC v6' acc':=
 have m:Mv [68] w w':=Mv.fB hg h.r6 (by decide)
 have lo:∀k,v6.ownBlock=some k→W.heap.size≤k:=fun k e=>(mi h.r6 k e).1
 have q:Below W0.heap.size w w':=(Below.refl _ _).grown hg (Nat.le_trans h.hW h.mv.size) (fun k e=>by have:=lo k e;have:=h.hW;omega)
 ⟨h.cu.move m q (by decide),oZ h.mv hg lo,h.bl.trans q,m.at h.sblk (by decide),m.at h.tblk (by decide),hr,h.hW,h.hs,h.hs0,h.hts,h.ht⟩
theorem OI.sets (h:OI W0 W A c l b sb tb w s SC v6 acc) (hg:w.grownBy w' (some sb)) (hw:w'.heap[sb]? = some (.cells SC' 30 (0,0))):OI W0 W A c l b sb tb w' s SC' v6 acc:=
 have m:Mv [30] w w':=Mv.bG hg h.sblk (by decide)
 have q:Below W0.heap.size w w':=(Below.refl _ _).grown hg (Nat.le_trans h.hW h.mv.size) (fun k e=>by injection e with e;have:=h.hs0;omega)
 ⟨h.cu.move m q (by decide),h.mv.trans (m.mono (by decide)),h.bl.trans q,hw,(hg.block _ (ak h.tblk) (fun e=>h.hts (ar e))).trans h.tblk,eV h.r6 m (Em (L:=[32,99]) rfl (by decide)),h.hW,h.hs,h.hs0,h.hts,h.ht⟩
structure RI (W0:World) (A:Option Addr) (c:Nat) (l:List Int) (b sb tb B:Nat) (w:World) (s:List Int × Int) (SC:Array Value) (v1 v2 v3:Value) (ts:List eW) (ps:List iA) (xs:List jx):Prop where
 cu:Cq W0 A c l w b s
 sblk:w.heap[sb]? = some (.cells SC 30 (0,0))
 tblk:w.heap[tb]? = some (.cells hZ 30 (0,0))
 r1:Kd.R jo 76 w B (fun _=>True) v1 ts
 r2:(Gl W0).R 59 w B (fun _=>True) v2 ps
 r3:Kd.R mg 62 w B (fun _=>True) v3 xs
 hB:W0.heap.size≤B
 hBw:B≤w.heap.size
 hs:sb<B
 hs0:W0.heap.size≤sb
 hts:tb≠sb
 ht:tb<B
 ht0:W0.heap.size≤tb
variable {W0 w w':World} {A:Option Addr} {c b sb tb B:Nat} {l:List Int} {s s':List Int × Int} {SC SC':Array Value} {v1 v2 v3 v':Value} {ts ts':List eW} {ps ps':List iA} {xs xs':List jx}
theorem RI.call (h:RI W0 A c l b sb tb B w s SC v1 v2 v3 ts ps xs) (hq:Cq W0 A c l w' b s') (hm:Mv TQ w w'):RI W0 A c l b sb tb B w' s' SC v1 v2 v3 ts ps xs:=
 ⟨hq,hm.at h.sblk (by decide),hm.at h.tblk (by decide),eV h.r1 hm (Em (L:=[]) rfl (by decide)),eV h.r2 hm (Em (L:=[]) rfl (by decide)),eV h.r3 hm (Em (L:=[]) rfl (by decide)),h.hB,Nat.le_trans h.hBw hm.size,h.hs,h.hs0,h.hts,h.ht,h.ht0⟩
theorem RI.sets (h:RI W0 A c l b sb tb B w s SC v1 v2 v3 ts ps xs) (hg:w.grownBy w' (some sb)) (hw:w'.heap[sb]? = some (.cells SC' 30 (0,0))):RI W0 A c l b sb tb B w' s SC' v1 v2 v3 ts ps xs:=
 have m:Mv [30] w w':=Mv.bG hg h.sblk (by decide)
 have q:Below W0.heap.size w w':=Fe (Below.refl _ _) hg h.hs0 h.cu.bel.size
 ⟨h.cu.move m q (by decide),hw,(hg.block _ (ak h.tblk) (fun e=>h.hts (ar e))).trans h.tblk,eV h.r1 m (Em (L:=[]) rfl (by decide)),eV h.r2 m (Em (L:=[]) rfl (by decide)),eV h.r3 m (Em (L:=[]) rfl (by decide)),h.hB,Nat.le_trans h.hBw m.size,h.hs,h.hs0,h.hts,h.ht,h.ht0⟩
theorem Gv {α:Type} {d:Kd α} {e:Nat} {ok:Nat→Prop} {v:Value} {zs:List α} (hr:d.R e w B ok v zs) (hg:w.grownBy w' v.ownBlock) (hB:W0.heap.size≤B) (hw:W0.heap.size≤w.heap.size):Below W0.heap.size w w':=
 (Below.refl _ _).grown hg hw (fun k e=>by have:=(mi hr k e).1;omega)
theorem RI.Gy (h:RI W0 A c l b sb tb B w s SC v1 v2 v3 ts ps xs) (hg:w.grownBy w' v1.ownBlock) (hr:Kd.R jo 76 w' B (fun _=>True) v' ts'):RI W0 A c l b sb tb B w' s SC v' v2 v3 ts' ps xs:=
 have m:Mv [76] w w':=Mv.fB hg h.r1 (by decide)
 ⟨h.cu.move m (Gv h.r1 hg h.hB h.cu.bel.size) (by decide),m.at h.sblk (by decide),m.at h.tblk (by decide),hr,eV h.r2 m (Em (L:=[]) rfl (by decide)),eV h.r3 m (Em (L:=[]) rfl (by decide)),h.hB,Nat.le_trans h.hBw m.size,h.hs,h.hs0,h.hts,h.ht,h.ht0⟩
theorem RI.FZ (h:RI W0 A c l b sb tb B w s SC v1 v2 v3 ts ps xs) (hg:w.grownBy w' v2.ownBlock) (hr:(Gl W0).R 59 w' B (fun _=>True) v' ps'):RI W0 A c l b sb tb B w' s SC v1 v' v3 ts ps' xs:=
 have m:Mv [59] w w':=Mv.fB hg h.r2 (by decide)
 ⟨h.cu.move m (Gv h.r2 hg h.hB h.cu.bel.size) (by decide),m.at h.sblk (by decide),m.at h.tblk (by decide),eV h.r1 m (Em (L:=[]) rfl (by decide)),hr,eV h.r3 m (Em (L:=[]) rfl (by decide)),h.hB,Nat.le_trans h.hBw m.size,h.hs,h.hs0,h.hts,h.ht,h.ht0⟩
theorem RI.Gz (h:RI W0 A c l b sb tb B w s SC v1 v2 v3 ts ps xs) (hg:w.grownBy w' v3.ownBlock) (hr:Kd.R mg 62 w' B (fun _=>True) v' xs'):RI W0 A c l b sb tb B w' s SC v1 v2 v' ts ps xs':=
 have m:Mv [62] w w':=Mv.fB hg h.r3 (by decide)
 ⟨h.cu.move m (Gv h.r3 hg h.hB h.cu.bel.size) (by decide),m.at h.sblk (by decide),m.at h.tblk (by decide),eV h.r1 m (Em (L:=[]) rfl (by decide)),eV h.r2 m (Em (L:=[]) rfl (by decide)),hr,h.hB,Nat.le_trans h.hBw m.size,h.hs,h.hs0,h.hts,h.ht,h.ht0⟩
end Go.Proofs.YtpekmdpbfjdjkaaGreat.dO