/- Part 3 of the proof that reading bytes answers as the document does. No condition. -/
import Derived.Test.YtpekmdpbfjdjkaaGreatY2
set_option maxHeartbeats 16000000
set_option maxRecDepth 100000
set_option linter.all false
namespace Go.Proofs.ag.ax
open Go.RowKit
namespace Kd
def tag {α:Type} (f:Nat→Nat) (d:Kd α):Kd (α × Nat) where
 sz:=d.sz
 E:=d.E
 K:=fun w x cs=>d.K w x.1 cs
 M:=fun w base ok x cs=>d.M w base (fun k=>ok k∧f k=x.2) x.1 cs
 K_len:=fun h=>d.K_len h
 K_one:=fun h=>d.K_one h
 K_below:=fun hb h=>d.K_below hb h
 K_of_M:=fun h=>d.K_of_M h
 M_mono:=fun hok h=>d.M_mono (fun k hk=>⟨hok k hk.1,hk.2⟩) h
 M_bound:=fun h=>d.M_mono (fun _ hk=>⟨⟨hk.1.1,hk.2⟩,hk.1.2⟩) (d.M_bound h)
 M_move:=fun hm h=>d.M_move (fun k hk=>hm k hk.1) h
 M_lower:=fun hb h=>d.M_lower hb h
def raw (sz:Nat):Kd (List Value) where
 sz:=sz
 E:=[]
 K:=fun _ x cs=>cs=x∧cs.length=sz∧∀u∈cs,u.oneCell'=true
 M:=fun _ _ _ x cs=>cs=x∧cs.length=sz∧∀u∈cs,u.oneCell'=true
 K_len:=fun h=>h.2.1
 K_one:=fun h=>h.2.2
 K_below:=fun _ h=>h
 K_of_M:=fun h=>h
 M_mono:=fun _ h=>h
 M_bound:=fun h=>h
 M_move:=fun _ h=>h
 M_lower:=fun _ h=>h
def S {α:Type} (d:Kd α) (e:Nat) (w:World) (base:Nat) (ok:Nat→Prop) (v:Value) (xs:List α):Prop:=∃f,(tag f d).R e w base ok v xs.zipIdx
section
variable {α β:Type} {d:Kd α} {d':Kd β} {e e':Nat} {w w1 W:World} {base b:Nat} {ok ok' okv oku:Nat→Prop} {u v:Value} {xs:List α} {ys:List β}
theorem zx {xs:List α} {j:Nat} {p:α} (h:xs[j]? = some p):xs.zipIdx[j]? = some (p,j):=by rw [List.getElem?_zipIdx,h,fg];rfl
theorem Ds (h:S d e w base ok v xs):d.R e w base ok v xs:=by
 obtain ⟨f,h0,inner,ho,hr⟩:=h;rw [List.length_zipIdx] at ho;exact ⟨h0,inner,ho,by have:=hr.1;rw [List.length_zipIdx] at this;exact this,fun j p hj=>d.M_mono (fun _ hk=>hk.1) (hr.2 j (p,j) (zx hj))⟩
theorem pq (hE:d.E=[]) (h:d.R e w base ok v xs):d.R e w base (fun k=>some k=v.ownBlock) v xs:=by
 obtain ⟨h0,inner,ho,hr⟩:=h;refine ⟨fun k hk=>hk.symm,inner,ho,hr.lG (fun p c hp=>d.M_mono (fun k hk=>?_) (d.M_bound hp))⟩;obtain ⟨_,_,_,q,hq,_⟩:=hk;rw [hE] at hq;cases hq
theorem sV (d:Kd α) (e:Nat) (w:World) (base:Nat) (ok:Nat→Prop):S d e w base ok (.slice none 0 0) []:=⟨fun _=>0,cY _ _ _ _ _⟩
theorem wU (h:S d e w base ok v xs) (hok:∀k,ok k→ok' k):S d e w base ok' v xs:=by
 obtain ⟨f,h⟩:=h;exact ⟨f,bZ h hok⟩
theorem xy (h:S d e w base ok v xs):S d e w base (fun k=>ok k∧base≤k∧k<w.heap.size∧∃q,q∈e::d.E∧∃cells,w.heap[k]? = some (.cells cells q (0,0))) v xs:=by
 obtain ⟨f,h⟩:=h;exact ⟨f,bS h⟩
theorem Ba (h:S d e w base ok v xs) (hm:∀k,ok k→w1.heap[k]? = w.heap[k]?):S d e w1 base ok v xs:=by
 obtain ⟨f,h⟩:=h;exact ⟨f,lH h hm⟩
theorem zC (h:S d e w base ok v xs) (hm:∀k,ok k→k<w.heap.size→w1.heap[k]? = w.heap[k]?):S d e w1 base ok v xs:=
 wU (Ba (xy h) (fun k hk=>hm k hk.1 hk.2.2.1)) (fun _ hk=>hk.1)
theorem pJ (h:S d e w base ok v xs) (hb:Below w.heap.size w w1):S d e w1 base ok v xs:=zC h (fun k _ hk=>hb.block k hk)
theorem mZ (h:S d e w base ok v xs) (o:Obj):S d e (w.alloc o) base ok v xs:=pJ h (ah (Below.refl _ _) o)
theorem pB (h:S d e w base ok v xs):S d e w.drew base ok v xs:=pJ h (dy (Below.refl _ _))
theorem nj (h:S d e w base ok v xs) (m:Nat):S d e (w.drewN m) base ok v xs:=pJ h (ai (Below.refl _ _) m)
theorem sP (h:S d e w base ok v xs):∀k,v.ownBlock=some k→∃cells,w.heap[k]? = some (.cells cells e (0,0)):=xW (Ds h)
theorem vT (h:S d e W base ok u xs) (hbase:∀k,v.ownBlock=some k→W.heap.size≤k) (hb:Below W.heap.size W w1):S d e w1 base (fun k=>ok k∧some k≠v.ownBlock) u xs:=by
 obtain ⟨f,h⟩:=h;exact ⟨f,qy h hbase hb⟩
theorem CU {f f':Nat→Nat} {zs:List (α × Nat)} (h:(tag f d).R e w base ok v zs) (hf:∀k,ok k→k<w.heap.size→f' k=f k):(tag f' d).R e w base ok v zs:=by
 obtain ⟨h0,inner,ho,hr⟩:=bS h;exact ⟨fun k hk=>(h0 k hk).1,inner,ho,hr.1,fun j p hj=>d.M_mono (fun k hk=>⟨⟨hk.1.1.1,hk.1.2⟩,(hf k hk.1.1.1 hk.1.1.2.2.1).trans hk.2⟩) (hr.2 j p hj)⟩
end
section
variable {α β:Type} {d:Kd α} {d':Kd β} {e e' g:Nat} {w w1 W:World} {base b:Nat} {ok ok' okv oku:Nat→Prop} {u v:Value} {xs:List α} {ys:List β}
theorem vn (xs:List α) (p:α):(xs++[p]).zipIdx=xs.zipIdx++[(p,xs.length)]:=by rw [List.zipIdx_append];simp
end
section
open Classical in
theorem Ct {α:Type} {d:Kd α} {e base:Nat} {okv:Nat→Prop} {w:World} {v:Value} {xs:List α} (h:S d e w base okv v xs) (m:Nat) (okp:Nat→Prop) (hap:∀k,okp k→¬okv k):∃f,(∀k,okp k→f k=m)∧(tag f d).R e w base okv v xs.zipIdx:=by
 obtain ⟨f,h⟩:=h;exact ⟨fun k=>if okp k then m else f k,fun k hk=>if_pos hk,CU h (fun k hk _=>if_neg (fun h2=>hap k h2 hk))⟩
variable {P:Program} {ops:Array Oper} {rest:List Oper} {o:Oper} {a:Act} {Q:Exit→Act→World→Prop} {Kc:Act→World→Prop} {α:Type}
theorem vZ (d:Kd α) {w0 W:World} (base:Nat) (hgd:o.guard=none) (s x:Operand) (t e:TypeId) (z:Value) (bytes:Nat)
 (ho:o.op = .call { callee:= .builtin .append,args:=#[s,x],argTypes:=#[t,t] })
 (ht:P.underlying t=some (.slice e)) (hinfo:(P.info? e).map (fun i=>(i.zero,i.size,i.bytes))=some (some z,d.sz,bytes)) (hz:z.cells.size=d.sz) (hs0:0<d.sz) (hb0:0<bytes)
 (v:Value) (xs:List α) (p:α) (cs:List Value) (ok okp:Nat→Prop) (hs:a.eval s=v) (hx:a.eval x = .slice (some ⟨W.heap.size,0,none⟩) 1 1) (hp:d.M W base okp p cs) (hokp:∀k,okp k→ok k∧some k≠v.ownBlock) (hfresh:∀k,W.heap.size≤k→ok k)
 (HO:S d e W base (fun k=>ok k∧¬okp k) v xs) (HB:Below base w0 W) (hbase:base≤W.heap.size) (hl:(xs.length+1)*bytes≤140737488355328)
 (h:∀v1 w1,S d e w1 base ok v1 (xs++[p])→Below base w0 w1→W.grownBy w1 v.ownBlock→(v1.ownBlock=v.ownBlock∨∃b,v1.ownBlock=some b∧W.heap.size≤b)→wpList P ops Q rest (a.put o.dst v1) w1) :
 wpList P ops Q (o::rest) a (W.alloc (.cells cs.toArray e)):=by
 obtain ⟨f,hf,hR⟩:=Ct HO xs.length okp (fun _ hk h2=>h2.2 hk);refine cG (tag f d) base hgd s x t e z bytes ho ht hinfo hz hs0 hb0 v xs.zipIdx (p,xs.length) cs ok okp hs hx (d.M_mono (fun k hk=>⟨hk,hf k hk⟩) hp) hokp hfresh (bZ hR (fun _ hk=>hk.1)) HB hbase (by rw [List.length_zipIdx];exact hl) ?_;intro v1 w1 hr;rw [←vn] at hr;exact h v1 w1 ⟨f,hr⟩
end
def DD {α:Type} (f:Nat→Nat) (d:Kd α) (i:Nat) (c:List Value):Kd (α × Nat) where
 sz:=d.sz
 E:=d.E
 K:=fun w x cs=>(x.2=i→cs=c∧cs.length=d.sz∧∀u∈cs,u.oneCell'=true)∧(x.2≠i→d.K w x.1 cs)
 M:=fun w base ok x cs=>(x.2=i→cs=c∧cs.length=d.sz∧∀u∈cs,u.oneCell'=true)∧(x.2≠i→d.M w base (fun k=>ok k∧f k=x.2) x.1 cs)
 K_len:=fun {w x cs} h=>by
  by_cases hx:x.2=i
  ·exact (h.1 hx).2.1
  ·exact d.K_len (h.2 hx)
 K_one:=fun {w x cs} h=>by
  by_cases hx:x.2=i
  ·exact (h.1 hx).2.2
  ·exact d.K_one (h.2 hx)
 K_below:=fun hb h=>⟨h.1,fun hx=>d.K_below hb (h.2 hx)⟩
 K_of_M:=fun h=>⟨h.1,fun hx=>d.K_of_M (h.2 hx)⟩
 M_mono:=fun hok h=>⟨h.1,fun hx=>d.M_mono (fun k hk=>⟨hok k hk.1,hk.2⟩) (h.2 hx)⟩
 M_bound:=fun h=>⟨h.1,fun hx=>d.M_mono (fun _ hk=>⟨⟨hk.1.1,hk.2⟩,hk.1.2⟩) (d.M_bound (h.2 hx))⟩
 M_move:=fun hm h=>⟨h.1,fun hx=>d.M_move (fun k hk=>hm k hk.1) (h.2 hx)⟩
 M_lower:=fun hb h=>⟨h.1,fun hx=>d.M_lower hb (h.2 hx)⟩
def H {α:Type} (d:Kd α) (e:Nat) (w:World) (base:Nat) (ok:Nat→Prop) (v:Value) (xs:List α) (i:Int) (oki:Nat→Prop) (c:List Value):Prop:=
 (∀k,oki k→ok k)∧∃f,(DD f d i.toNat c).R e w base (fun k=>ok k∧¬oki k) v xs.zipIdx
end Kd
end Go.Proofs.ag.ax
namespace Go.Proofs.ag.ax
open Go.RowKit
namespace Kd
structure xO {α:Type} (d:Kd α):Prop where
 K:∀{w w1:World} {x:α} {cs:List Value},(∀k,k<w.heap.size→w1.heap[k]? = w.heap[k]?)→d.K w x cs→d.K w1 x cs
theorem tN {w w1:World} (hb:∀k,k<w.heap.size→w1.heap[k]? = w.heap[k]?) {a:Addr} {v:Value} (h:w.cell? a=some v):w1.cell? a=some v:=by
 have:=hb a.block (bJ w a h);simpa [World.cell?,this] using h
theorem xO.C {α:Type} {d:Kd α} (hd:xO d) {w w1:World} {A:Option Addr} {n:Nat} {xs:List α} (hb:∀k,k<w.heap.size→w1.heap[k]? = w.heap[k]?) (h:d.C w A n xs):d.C w1 A n xs:=
 ⟨h.1,h.2.1,fun hn=>by
  obtain ⟨ad,e,hc⟩:=h.2.2 hn;refine ⟨ad,e,fun j p hj=>?_⟩;obtain ⟨c,hs,hr,hcell⟩:=hc j p hj;exact ⟨c,hs,hd.K hb hr,fun i u hu=>tN hb (hcell i u hu)⟩⟩
theorem vG (k:IntKind):xO (Kd.int k):=⟨fun _ h=>h⟩
end Kd
end Go.Proofs.ag.ax
namespace Go.Proofs.ag.ax
open Go.RowKit
def Kept (w W:World) (S:Nat→Prop):Prop:=w.heap.size≤W.heap.size∧∀i,i<w.heap.size→¬S i→W.heap[i]? = w.heap[i]?
section
variable {w W W2:World} {S S2 S':Nat→Prop}
theorem Kept.refl (w:World) (S:Nat→Prop):Kept w w S:=⟨Nat.le_refl _,fun _ _ _=>rfl⟩
theorem Kept.cH (h:Below w.heap.size w W) (S:Nat→Prop):Kept w W S:=⟨h.size,fun i hi _=>h.block i hi⟩
theorem Kept.mono (h:Kept w W S) (hs:∀k,S k→S' k):Kept w W S':=⟨h.1,fun i hi hn=>h.2 i hi (fun hk=>hn (hs i hk))⟩
theorem Kept.oJ (h:Kept w W S) (k:Kept W W2 S2) (hs:∀k,S2 k→S k∨w.heap.size≤k):Kept w W2 S:=
 ⟨Nat.le_trans h.1 k.1,fun i hi hn=>(k.2 i (Nat.lt_of_lt_of_le hi h.1) (fun h2=>(hs i h2).elim hn (fun h3=>by omega))).trans (h.2 i hi hn)⟩
theorem Kept.fx {row:Option Nat} (hg:W.grownBy W2 row) (h:Kept w W S) (hr:∀k,row=some k→S k∨w.heap.size≤k):Kept w W2 S:=
 h.oJ (S2:=fun k=>row=some k) ⟨hg.size,fun i hi hn=>hg.block i hi (fun he=>hn he.symm)⟩ hr
theorem Kept.below (h:Kept w W S) (hb:Below W.heap.size W W2):Kept w W2 S:=h.oJ (Kept.cH hb (fun _=>False)) (fun _ hk=>hk.elim)
theorem Kept.alloc (h:Kept w W S) (o:Obj):Kept w (W.alloc o) S:=h.below (ah (Below.refl _ _) o)
theorem Kept.drew (h:Kept w W S):Kept w W.drew S:=h
theorem Kept.drewN (h:Kept w W S) (m:Nat):Kept w (W.drewN m) S:=h
theorem Kept.setCell (h:Kept w W S) {p:Addr} (hp:S p.block∨w.heap.size≤p.block) (u:Value):Kept w (W.setCell p u) S:=
 h.oJ (S2:=fun k=>k=p.block) ⟨by simp [World.setCell],fun i _ hn=>ij W p u i hn⟩ (fun k hk=>by rw [hk];exact hp)
theorem gu {g:Nat} {o:Obj} (hb:W.heap[g]? = some o) (hk:Kept W W2 S) (hne:¬S g):W2.heap[g]? = some o:=(hk.2 g (zH hb) hne).trans hb
end
namespace Kd
section
variable {α:Type} {d:Kd α} {e base n c:Nat} {ok oki S S2:Nat→Prop} {w w0 W W1 W2:World} {v:Value} {A:Option Addr} {xs:List α} {i:Int} {cs:List Value}
theorem qn (hd:xO d) (h:d.C w0 A n xs) (hb:Below w0.heap.size w0 W) (hS:∀k,S k→w0.heap.size≤k):∀W',Kept W W' S→d.C W' A n xs:=fun W' hk=>
 hd.C (fun k hlt=>(hk.2 k (Nat.lt_of_lt_of_le hlt hb.size) (fun h2=>by have:=hS k h2;omega)).trans (hb.block k hlt)) h
theorem rP (h:∀W',Kept w W' S→d.C W' A n xs) (hk:Kept w W S):d.C W A n xs:=h W hk
end
end Kd
end Go.Proofs.ag.ax
namespace Go.Proofs.ag.ax
open Go.RowKit
def lS (P:World→Prop) (W:World) (ok:Nat→Prop):Prop:=∀W':World,(∀k,ok k→k<W.heap.size→W'.heap[k]? = W.heap[k]?)→P W'
theorem yj {W W1:World} {k:Nat} (h:W1.heap[k]? = W.heap[k]?) (hlt:k<W.heap.size):k<W1.heap.size:=by
 rw [Array.getElem?_eq_getElem hlt] at h;exact (Array.getElem?_eq_some_iff.1 h).1
namespace lS
variable {P Q:World→Prop} {W W1:World} {ok ok':Nat→Prop}
theorem mono (h:lS P W ok) (hok:∀k,ok k→ok' k):lS P W ok':=fun W' hW=>h W' (fun k hk hlt=>hW k (hok k hk) hlt)
theorem bound (h:lS P W ok):lS P W (fun k=>ok k∧k<W.heap.size):=fun W' hW=>h W' (fun k hk hlt=>hW k ⟨hk,hlt⟩ hlt)
theorem step (h:lS P W ok) (hm:∀k,ok k→k<W.heap.size→W1.heap[k]? = W.heap[k]?):lS P W1 ok:=fun W' hW=>h W' (fun k hk hlt=>(hW k hk (yj (hm k hk hlt) hlt)).trans (hm k hk hlt))
theorem imp (h:lS P W ok) (hi:∀W',P W'→Q W'):lS Q W ok:=fun W' hW=>hi W' (h W' hW)
theorem old (h:lS P W ok) (hb:Below W.heap.size W W1):lS P W1 (fun k=>ok k∧k<W.heap.size):=(h.bound).step (fun k _ hlt=>hb.block k hlt)
end lS
namespace Kd
def F {α:Type} (d:Kd α) (W:World) (ok:Nat→Prop) (A:Option Addr) (n:Nat) (xs:List α):Prop:=lS (fun W=>d.C W A n xs) W ok
def FK {α:Type} (d:Kd α) (W:World) (ok:Nat→Prop) (x:α) (c:List Value):Prop:=lS (fun W=>d.K W x c) W ok
section
variable {α β:Type} {d:Kd α} {e base n n' cc g N:Nat} {ok ok' okp S:Nat→Prop} {w w0 w1 W W1:World} {A A':Option Addr} {u v v1:Value} {xs:List α} {xs':List β} {d':Kd β} {x:α} {c:List Value}
theorem Cn (d:Kd α) (W:World) (ok:Nat→Prop):F d W ok none ([]:List α).length []:=fun W' _=>sW d W'
theorem yx (h:d.M W base ok x c):FK d W ok x c:=fun _ hW=>d.K_of_M (vX h hW)
end
end Kd
end Go.Proofs.ag.ax
namespace Go.Proofs.ag.ax
open Go.RowKit
namespace Kd
def chunks (sz:Nat) (n:Nat) (inner:List Value):List (List Value):=(List.range n).map fun j=>(inner.drop (j*sz)).take sz
theorem gm (sz n:Nat) (inner:List Value):(chunks sz n inner).length=n:=by simp [chunks]
theorem tD {sz n:Nat} {inner:List Value} {j:Nat} (hj:j<n):(chunks sz n inner)[j]? = some ((inner.drop (j*sz)).take sz):=by simp [chunks,hj]
theorem nE {sz n:Nat} {inner:List Value} {j:Nat} {c:List Value} (h:(chunks sz n inner)[j]? = some c):c=(inner.drop (j*sz)).take sz:=by
 have hj:j<n:=by have:=(List.getElem?_eq_some_iff.1 h).1;rwa [gm] at this
 rw [tD hj] at h;injection h with h;exact h.symm
theorem Ff {α:Type} {Rr:α→List Value→Prop} {sz:Nat} {xs:List α} {inner:List Value} (h:dn Rr sz xs inner) (hR:∀x c,Rr x c→c.length=sz∧∀u∈c,u.oneCell'=true):dn (fun x cs=>cs=x∧cs.length=sz∧∀u∈cs,u.oneCell'=true) sz (chunks sz xs.length inner) inner:=by
 refine ⟨by rw [gm];exact h.1,fun j p hj=>?_⟩;have hjl:j<xs.length:=by have:=(List.getElem?_eq_some_iff.1 hj).1;rwa [gm] at this
 have hp:=nE hj;exact ⟨hp.symm,hR _ _ (h.2 j _ (List.getElem?_eq_getElem hjl))⟩
section
variable {α:Type} {d:Kd α} {e base n cc g:Nat} {ok ok' okp S:Nat→Prop} {w w1 W W1:World} {A:Option Addr} {u v v1:Value} {xs:List α} {x:α} {c:List Value}
def N {α:Type} (d:Kd α) (e:Nat) (w:World) (base:Nat) (ok:Nat→Prop) (v:Value) (xs:List α):Prop:=
 (∀k,v.ownBlock=some k→ok k)∧∃rows:List (List Value),rows.length=xs.length∧(raw d.sz).R e w base (fun k=>some k=v.ownBlock) v rows∧∀(j:Nat) (x:α) (c:List Value),xs[j]? = some x→rows[j]? = some c→FK d w (fun k=>ok k∧some k≠v.ownBlock) x c
theorem DB (h:d.R e w base ok v xs):N d e w base ok v xs:=by
 obtain ⟨h0,inner,ho,hr⟩:=h;refine ⟨h0,chunks d.sz xs.length inner,gm _ _ _,⟨fun k hk=>hk.symm,inner,by rw [gm];exact ho,Ff hr (fun x c hp=>⟨d.K_len (d.K_of_M hp),d.K_one (d.K_of_M hp)⟩)⟩,fun j x c hx hc=>?_⟩;rw [nE hc];exact yx (hr.2 j x hx)
theorem sw (d:Kd α) (e:Nat) (w:World) (base:Nat) (ok:Nat→Prop):N d e w base ok (.slice none 0 0) []:=DB (cY _ _ _ _ _)
end
end Kd
end Go.Proofs.ag.ax
namespace Go.Proofs.ag.aU
open Go.RowKit ag.ax
namespace Kd
open ag.ax.Kd
end Kd
namespace Kd
open Go.Proofs.ag.ax.Kd
end Kd
end Go.Proofs.ag.aU
namespace Go.Proofs.ag.ax
open Go.RowKit
section
variable {P:Program} {ops:Array Oper} {rest:List Oper} {o:Oper} {a:Act} {Q:Exit→Act→World→Prop} {W:World}
theorem dB {f:FuncId} {DQ:Array Operand} {ts:Array TypeId} (_ho:o.op = .call { callee:= .value (.func f),args:=DQ,argTypes:=ts }) (h:wpList P ops Q (o::rest) a W):wpList P ops Q (o::rest) a W:=h
theorem aM {b:Builtin} {xs:Array Operand} {ts:Array TypeId} (_ho:o.op = .call { callee:= .builtin b,args:=xs,argTypes:=ts }) (h:wpList P ops Q (o::rest) a W):wpList P ops Q (o::rest) a W:=h
end
def shl (k:IntKind) (x y:Int):Int:=k.wrap (x*2 ^ min y.toNat k.bits)
def shr (k:IntKind) (x y:Int):Int:=x / 2 ^ min y.toNat k.bits
theorem uj {k:IntKind} {x y j:Int} (h:shl k x y=j) (hy:y≤k.bits):k.wrap (x*2 ^ y.toNat)=j:=by rw [←h];unfold shl;rw [Nat.min_eq_left (by omega)]
theorem iZ {k:IntKind} {x y j:Int} (h:shr k x y=j) (hy:y≤k.bits):x / 2 ^ y.toNat=j:=by rw [←h];unfold shr;rw [Nat.min_eq_left (by omega)]
namespace Kd
end Kd
end Go.Proofs.ag.ax
namespace Go.Proofs.ag.ax
open Go.RowKit
namespace Kd
def V {α:Type} (d:Kd α) (_e:Nat) (W:World) (_base:Nat) (ok:Nat→Prop) (v:Value) (xs:List α):Prop:=∃A c,v = .slice A xs.length c∧xs.length≤c∧F d W ok A xs.length xs
section
variable {α β:Type} {d:Kd α} {e base base' n m c g N' lo hi:Nat} {ok ok' S:Nat→Prop} {w W w1:World} {A:Option Addr} {ad:Addr} {u v v1:Value} {xs:List α}
theorem sZ (d:Kd α) (e:Nat) (W:World) (base:Nat) (ok:Nat→Prop):V d e W base ok (.slice none 0 0) []:=⟨none,0,rfl,Nat.le_refl _,Cn d W ok⟩
theorem AU {M:Nat→Prop} (h:d.R e w1 W.heap.size ok v xs) (hle:w.heap.size≤W.heap.size) (hM:∀k,w.heap.size≤k→M k):d.R e w1 W.heap.size (fun k=>M k∧ok k) v xs:=bZ (bS h) (fun k hk=>⟨hM k (Nat.le_trans hle hk.2.1),hk.1⟩)
end
end Kd
end Go.Proofs.ag.ax
namespace Go.Proofs.YtpekmdpbfjdjkaaGreat.fr
open Go.RowKit ag.ax ag.aV ag.aU
structure Mv (ts:List Nat) (w w':World):Prop where
 os:w'.os=w.os
 tape:w'.tape=w.tape
 output:w'.output=w.output
 size:w.heap.size≤w'.heap.size
 block:∀(k:Nat) (cs:Array Value) (t:TypeId) (f:Nat × Nat),w.heap[k]? = some (Obj.cells cs t f)→t∉ts→w'.heap[k]? = some (Obj.cells cs t f)
theorem Mv.refl (ts:List Nat) (w:World):Mv ts w w:=⟨rfl,rfl,rfl,Nat.le_refl _,fun _ _ _ _ h _=>h⟩
theorem Mv.trans {ts:List Nat} {a b c:World} (h:Mv ts a b) (k:Mv ts b c):Mv ts a c:=
 ⟨k.os.trans h.os,k.tape.trans h.tape,k.output.trans h.output,Nat.le_trans h.size k.size,fun i cs t f hi ht=>k.block i cs t f (h.block i cs t f hi ht) ht⟩
theorem Mv.mono {ts ts':List Nat} {a b:World} (h:Mv ts a b) (hs:∀k∈ts,k∈ts'):Mv ts' a b:=⟨h.os,h.tape,h.output,h.size,fun i cs t f hi ht=>h.block i cs t f hi (fun hm=>ht (hs t hm))⟩
theorem Mv.cH {ts:List Nat} {w w':World} (h:Below w.heap.size w w'):Mv ts w w':=
 ⟨h.os,h.tape,h.output,h.size,fun k cs t f hk _=>(h.block k (Array.getElem?_eq_some_iff.1 hk).1).trans hk⟩
theorem Mv.drew {ts:List Nat} {w w':World} (h:Mv ts w w'):Mv ts w w'.drew:=⟨h.os,h.tape,h.output,h.size,h.block⟩
theorem Mv.drewN {ts:List Nat} {w w':World} (h:Mv ts w w') (n:Nat):Mv ts w (w'.drewN n):=⟨h.os,h.tape,h.output,h.size,h.block⟩
theorem Mv.alloc {ts:List Nat} {w w':World} (h:Mv ts w w') (o:Obj):Mv ts w (w'.alloc o):=h.trans (Mv.cH (ah (Below.refl _ _) o))
theorem Mv.fx {ts:List Nat} {w w':World} {row:Option Nat} (hg:w.grownBy w' row) (hr:∀k,row=some k→∃cs t f,w.heap[k]? = some (Obj.cells cs t f)∧t∈ts):Mv ts w w':=
 ⟨hg.os,hg.tape,hg.output,hg.size,fun k cs t f hk ht=>(hg.block k (Array.getElem?_eq_some_iff.1 hk).1 (fun e=>by
  obtain ⟨cs',t',f',h1,h2⟩:=hr k e.symm;rw [h1] at hk;injection hk with hk;injection hk with _ hk _;exact ht (hk▸h2))).trans hk⟩
theorem Mv.fB {ts:List Nat} {w w':World} {α:Type} {d:Kd α} {e base:Nat} {ok:Nat→Prop} {v:Value} {xs:List α} (hg:w.grownBy w' v.ownBlock) (h:d.R e w base ok v xs) (ht:e∈ts):Mv ts w w':=
 Mv.fx hg fun k hk=>by
  obtain ⟨inner,ho⟩:=Kd.kB h;obtain ⟨cells,hc⟩:=gN ho k hk;exact ⟨cells,e,_,hc,ht⟩
theorem Mv.bG {ts:List Nat} {w w':World} {b t:Nat} {cs:Array Value} {f:Nat × Nat} (hg:w.grownBy w' (some b)) (hb:w.heap[b]? = some (Obj.cells cs t f)) (ht:t∈ts):Mv ts w w':=
 Mv.fx hg fun k hk=>by injection hk with hk;subst hk;exact ⟨cs,t,f,hb,ht⟩
theorem Mv.set {ts:List Nat} {w:World} {b j t:Nat} {cs:Array Value} {f:Nat × Nat} (hb:w.heap[b]? = some (Obj.cells cs t f)) (ht:t∈ts) (u:Value):Mv ts w (w.setCell ⟨b,j,none⟩ u):=
 ⟨rfl,rfl,rfl,by simp [World.setCell],fun k cs' t' f' hk ht'=>(ij w ⟨b,j,none⟩ u k (by
  rintro rfl;rw [hb] at hk;injection hk with hk;injection hk with _ hk _;exact ht' (hk▸ht))).trans hk⟩
theorem Mv.at {ts:List Nat} {w w':World} (h:Mv ts w w') {b t:Nat} {cs:Array Value} {f:Nat × Nat} (hb:w.heap[b]? = some (Obj.cells cs t f)) (ht:t∉ts):w'.heap[b]? = some (Obj.cells cs t f):=h.block b cs t f hb ht
theorem eV {α:Type} {d:Kd α} {e base:Nat} {ok:Nat→Prop} {w w':World} {v:Value} {xs:List α} {ts:List Nat} (h:d.R e w base ok v xs) (f:Mv ts w w') (ht:∀q,q∈e::d.E→q∉ts):d.R e w' base ok v xs:=
 Kd.bZ (Kd.lH (Kd.bS h) (fun k hk=>by
  obtain ⟨_,_,_,q,hq,cells,hc⟩:=hk;rw [hc];exact f.block k _ _ _ hc (ht q hq))) (fun _ hk=>hk.1)
theorem cell_of {w:World} {b:Nat} {cs:Array Value} {t:TypeId} {f:Nat × Nat} (h:w.heap[b]? = some (Obj.cells cs t f)) (j:Nat):w.cell? ⟨b,j,none⟩=cs[j]? :=by
 simp [World.cell?,h]
theorem tI {w:World} {b:Nat} {cs:Array Value} {t:TypeId} (h:w.heap[b]? = some (Obj.cells cs t (0,0))) (j:Nat):w.frozen? ⟨b,j,none⟩=false:=by
 simp [World.frozen?,h]
theorem ak {w:World} {b:Nat} {o:Obj} (h:w.heap[b]? = some o):b<w.heap.size:=(Array.getElem?_eq_some_iff.1 h).1
theorem aJ (w:World) (o:Obj):(w.alloc o).heap[w.heap.size]? = some o:=by
 show (w.heap.push o)[w.heap.size]? = _;simp
theorem fK (W:World) (g o:Nat) (vs:List Value):W.grownBy (W.setCells g o vs) (some g):=
 ⟨(fA g vs o W).1,(fA g vs o W).2.1,(fA g vs o W).2.2.1,kJ (fA g vs o W).2.2.2.symm,fun k _ hk=>iS vs o k (fun e=>hk (by rw [e]))⟩
theorem je {W:World} {g o:Nat} {vs:List Value} {cur cur':Array Value} {e:TypeId} (hh:W.heap[g]? = some (.cells cur e (0,0))) (hfit:o+vs.length≤cur.size) (hc:cur'.toList=cur.toList.take o++vs++cur.toList.drop (o+vs.length)) :
 (W.setCells g o vs).heap[g]? = some (.cells cur' e (0,0)):=by
 obtain ⟨c,h1,h2,h3⟩:=jT vs o W cur hh hfit;have:c=cur':=by apply Array.toList_inj.1;rw [h3,hc]
 rw [←this];exact h1
theorem dl {P:Program} {ops:Array Oper} {rest:List Oper} {o:Oper} {a:Act} {Q:Exit→Act→World→Prop} {W:World} (hN:o.dst=none) (hgd:o.guard=none) {t:TypeId} {p x:Operand} (ho:o.op = .store t p x) {g:Nat} {cur:Array Value} {e:TypeId} {u:Value} (seg:List Value)
 (haddr:a.eval p = .pointer (some ⟨g,0,none⟩)) (hx:a.eval x=u) (hh:W.heap[g]? = some (.cells cur e (0,0))) (hu:u.cells.toList=seg) (ht:(P.info? t).map (·.size)=some seg.length) (hfit:seg.length=cur.size) (h1:∀q∈seg,q.oneCell'=true)
 (h:∀W1,W1.heap[g]? = some (.cells seg.toArray e (0,0))→W.grownBy W1 (some g)→wpList P ops Q rest a W1):wpList P ops Q (o::rest) a W:=by
 refine fm hgd fun K hK=>?_;have hrun:(Instr.storeAt t (.pointer (some ⟨g,0,none⟩)) u).run P W = .ok () (W.setCells g 0 seg):=fy t u seg hh hu ht (by omega) h1;unfold Oper.wp execOp;simp only [ho,haddr,hx,Sem.run_bind,Sem.run_pure,Result.andThen_ok,hrun];show K (a.put o.dst undef) _;rw [hN];exact hK _ _ (h _ (je hh (by omega) (by simp [List.drop_eq_nil_of_le,hfit])) (fK W g 0 seg))
theorem fL {P:Program} {ops:Array Oper} {rest:List Oper} {o:Oper} {a:Act} {Q:Exit→Act→World→Prop} {W:World} (hgd:o.guard=none) {t:TypeId} {p:Operand} (ho:o.op = .load t p) {g:Nat} {cs:Array Value} {e:TypeId} {d:TypeDesc}
 (haddr:a.eval p = .pointer (some ⟨g,0,none⟩)) (hh:W.heap[g]? = some (.cells cs e (0,0))) (hu:P.underlying t=some d) (hd:d.isRow=true) (hi:(P.info? t).map (·.size)=some cs.size)
 (h:wpList P ops Q rest (a.put o.dst (.agg cs)) W):wpList P ops Q (o::rest) a W:=
 wpList_load_mid (op:=o) hgd t p ho g 0 haddr cs.toList d (fun j v hv=>by rw [fg,cell_of hh j];simpa using hv) hu hd (by simpa using hi) (by simpa using h)
theorem jk {P:Program} {ops:Array Oper} {rest:List Oper} {o:Oper} {a:Act} {Q:Exit→Act→World→Prop} {W:World} (hN:o.dst=none) (hgd:o.guard=none) {t:TypeId} {p x:Operand} (ho:o.op = .store t p x) {g j:Nat} {cur cur':Array Value} {e:TypeId} {u:Value}
 (haddr:a.eval p = .pointer (some ⟨g,j,none⟩)) (hx:a.eval x=u) (hh:W.heap[g]? = some (.cells cur e (0,0))) (hj:j<cur.size) (hc:u.cells.toList=[u]) (h1:u.oneCell'=true) (ht:(P.info? t).map (·.size)=some 1) (hcur:cur.setIfInBounds j u=cur')
 (h:∀W1,W1.heap[g]? = some (.cells cur' e (0,0))→W.grownBy W1 (some g)→wpList P ops Q rest a W1):wpList P ops Q (o::rest) a W:=by
 refine fm hgd fun K hK=>?_;have hrun:(Instr.storeAt t (.pointer (some ⟨g,j,none⟩)) u).run P W = .ok () (W.setCells g j [u]):=fy t u [u] hh hc ht (by simp only [List.length_singleton];omega) (fun q hq=>by rw [List.mem_singleton.1 hq];exact h1);unfold Oper.wp execOp;simp only [ho,haddr,hx,Sem.run_bind,Sem.run_pure,Result.andThen_ok,hrun];show K (a.put o.dst undef) _;rw [hN];exact hK _ _ (h _ (sO hh j u hcur) (fK W g j [u]))
theorem lU {P:Program} {fn:Func} {p q:Tmp} {ty:TypeId} (h:fn.results=#[.cell p ty, .tmp q]) (tmps:Array Value) (w:World) (g:Nat) (t:TypeId) (cs:Array Value) (fr:Nat × Nat) (d:TypeDesc)
 (hp:tmps.getD p undef = .pointer (some ⟨g,0,none⟩)) (hg:w.heap[g]? = some (.cells cs t fr)) (hu:P.underlying ty=some d) (hd:(match d with | .struct _ | .array _ _=>true|_=>false)=true) (hi:(P.info? ty).map (·.size)=some cs.size) {v:Value} (hv:tmps.getD q undef=v) :
 (results fn tmps).run P w = .ok (.tuple #[.agg cs,v]) w:=by
 have hp':tmps[p]?.getD undef = .pointer (some ⟨g,0,none⟩):=by simpa using hp
 have hv':tmps[q]?.getD undef=v:=by simpa using hv
 simp [results,h,hp',hv',asAddr,jm w g t ty cs fr d hg hu hd hi]
end Go.Proofs.YtpekmdpbfjdjkaaGreat.fr
namespace Go.Proofs.YtpekmdpbfjdjkaaGreat.iK
open Go
section
variable {P:Program} {ops:Array Oper} {Q:Exit→Act→World→Prop} {md:Region.Mode} {S:World→Prop} {n:Nat}
def kC (P:Program) (md:Region.Mode) (ops:Array Oper) (Q:Exit→Act→World→Prop) (S:World→Prop) (n:Nat):Nat→Array Bool→Act→World→Prop
 | 0,listed,a,w=>Region.ready md ops listed=[]∧Q .normal a w
 | fuel+1,listed,a,w=>
  (Region.ready md ops listed=[]→Q .normal a w)∧
  ∀i∈Region.ready md ops listed,wpOp P ops Q i (fun a' w'=>(i<n→S w→S w')∧kC P md ops Q S n fuel (listed.setIfInBounds i true) a' w') a w
theorem lD:∀(fuel:Nat) (listed:Array Bool) (a:Act) (w:World),kC P md ops Q S n fuel listed a w→wpAny P md ops Q fuel listed a w
 | 0,_,_,_,h=>h
 | fuel+1,_,_,_,h=>⟨h.1,fun i hi=>nr (fun a' w' h'=>lD fuel _ a' w' h'.2) (h.2 i hi)⟩
theorem mH {i:Nat} {o:Oper} {v:Value} {a:Act} (hi:ops[i]? = some o) (hy:YieldsIf P ops S o v a) {K:Act→World→Prop} {w:World} (hS:S w) (h:K (a.put o.dst v) w):wpOp P ops Q i K a w:=YieldsIf.wpOp hi hy hS h
theorem iT {i:Nat} {oi:Oper} {v:Value} {Sx:World→Prop} (hi:ops[i]? = some oi) (hsel:∀(j:Nat) (o:Oper) cs b,ops[j]? = some o→o.op≠ .select cs b)
 (hQ:∀c a w,Q (.panic c) (a.put oi.dst v) w→Q (.panic c) a w)
 (hx:∀j oj w w',ops[j]? = some oj→(∀e∈oj.after,Region.binds md e=true→e.on≠i)→(j<n→S w→S w')→Sx w→Sx w') :
 ∀(fuel:Nat) (listed:Array Bool) (a:Act) (w:World),
  (∀j oj,ops[j]? = some oj→j≠i→listed.getD j true=false→(∀e∈oj.after,Region.binds md e=true→e.on≠i)→oi.apart ops oj=true)→
  i∈Region.ready md ops listed→YieldsIf P ops Sx oi v a→Sx w→
  kC P md ops Q S n fuel (listed.setIfInBounds i true) (a.put oi.dst v) w→kC P md ops Q S n (fuel+1) listed a w:=by
 intro fuel;induction fuel with
 | zero=>
  intro listed a w hfree hr hy hS H;refine ⟨fun h=>(by rw [h] at hr;cases hr),fun j hj=>?_⟩;by_cases hji:j=i
  ·subst hji;exact mH hi hy hS ⟨fun _ h=>h,H⟩
  ·have:=ready_mono hj hji;rw [H.1] at this;cases this
 | succ fuel ih=>
  intro listed a w hfree hr hy hS H;refine ⟨fun h=>(by rw [h] at hr;cases hr),fun j hj=>?_⟩;by_cases hji:j=i
  ·subst hji;exact mH hi hy hS ⟨fun _ h=>h,H⟩
  ·have h1:=H.2 j (ready_mono hj hji);obtain ⟨hjun,oj,hoj,hall⟩:=mem_ready.1 hj;have hnot:∀e∈oj.after,Region.binds md e=true→e.on≠i:=fun e he hb heq=>by
    have h1:=hall e he hb;have h0:=(mem_ready.1 hr).1;rw [heq] at h1;rcases dg i listed.size with h'|h'
    ·simp [h'] at h0 h1;rw [h0] at h1;cases h1
    ·simp [Array.getElem?_eq_none h'] at h1
   have h2:=wpOp_putIf hoj (hfree j oj hoj hji hjun hnot) (fun cs b=>hsel i oi cs b hi) (fun cs b=>hsel j oj cs b hoj) hQ hy h1;have hfree':∀k ok,ops[k]? = some ok→k≠i→(listed.setIfInBounds j true).getD k true=false→
    (∀e∈ok.after,Region.binds md e=true→e.on≠i)→oi.apart ops ok=true:=fun k ok hk hki hun hno=>by
    refine hfree k ok hk hki ?_ hno
    by_cases hjk:j=k
    ·subst hjk;exact hjun
    ·rw [getD_set_ne true hjk] at hun;exact hun
   refine nr (fun a' w' h3=>⟨h3.2.1,ih (listed.setIfInBounds j true) a' w' hfree' (ready_mono hr (Ne.symm hji)) h3.1 (hx j oj w w' hoj hnot h3.2.1 hS) ?_⟩) h2;rw [Array.setIfInBounds_comm _ _ hji];exact h3.2.2
theorem k8:∀(l:List Oper) (k:Nat) (listed:Array Bool) (a:Act) (w:World),n≤k→(∀j,l[j]? = ops[k+j]?)→
 Region.seqB md ops l.length k listed=true→wpList P ops Q l a w→kC P md ops Q S n l.length listed a w
 | [],_,_,_,_,_,_,hB,h=>⟨by simpa [Region.seqB] using hB,h⟩
 | o::l,k,listed,a,w,hn,hl,hB,h=>by
  have h0:ops[k]? = some o:=by simpa using (hl 0).symm
  simp only [List.length_cons,Region.seqB,Bool.and_eq_true,decide_eq_true_eq] at hB;refine ⟨fun h1=>(by rw [hB.1] at h1;cases h1),fun i hi=>?_⟩;rw [hB.1] at hi;have hik:i=k:=by simpa using hi
  subst hik;have hw:wpOp P ops Q i (wpList P ops Q l) a w:=by unfold wpOp;simp only [h0];exact h
  exact nr (fun a' w' h'=>⟨fun hlt=>absurd hlt (by omega),k8 l (i+1) _ a' w' (by omega) (fun j=>by have:=hl (j+1);simpa [Nat.add_assoc,ik 1 j] using this) hB.2 h'⟩) hw
def waits (md:Region.Mode) (ops:Array Oper) (i j:Nat):Bool:=((ops[j]?).map fun o=>o.after.any fun e=>Region.binds md e&&e.on == i).getD true
theorem nW {i j:Nat} {oj:Oper} (h:waits md ops i j=true) (hj:ops[j]? = some oj) (hno:∀e∈oj.after,Region.binds md e=true→e.on≠i):False:=by
 simp only [waits,hj,dh,Option.getD_some,Array.any_eq_true] at h;obtain ⟨k,hk,h⟩:=h;simp only [Bool.and_eq_true,gw] at h;exact hno _ (Array.getElem_mem hk) h.1 h.2
def mM (md:Region.Mode) (ops:Array Oper) (n:Nat):List (Nat × Nat)→Array Bool→Bool
 | [],listed=>Region.seqB md ops (ops.size - n) n listed
 | (i,c)::r,listed=>decide (i<n)&&(match c with
  | 0=>(Region.ready md ops listed).contains i&&Region.free md ops listed i
  | 1=>(Region.ready md ops listed).contains i&&Region.free md ops listed i&&(List.range ops.size).all (fun j=>decide (j<n)||waits md ops i j)
  | _=>decide (Region.ready md ops listed=[i]))&&mM md ops n r (listed.setIfInBounds i true)
def CI (md:Region.Mode) (ops:Array Oper) (n:Nat) (hd:List (Nat × Nat)):Bool:=
 Region.noSelect ops&&decide (n≤ops.size)&&decide (hd.length=n)&&mM md ops n hd (Array.replicate ops.size false)
def bB (S:World→Prop) (R:Act→World→Prop) (Q:Exit→Act→World→Prop):Exit→Act→World→Prop
 | .normal,a,w=>S w∧R a w
 | e,a,w=>Q e a w
theorem bB.mk {S:World→Prop} {R:Act→World→Prop} {Q:Exit→Act→World→Prop} {a:Act} {w:World} (hS:S w) (h:S w→R a w):bB S R Q .normal a w:=⟨hS,h hS⟩
def ep (P:Program) (ops:Array Oper) (Q:Exit→Act→World→Prop) (S:World→Prop) (T:Act→World→Prop):List (Nat × Nat)→Act→World→Prop
 | [],a,w=>T a w
 | (i,0)::r,a,w=>∃o v,ops[i]? = some o∧YieldsIf P ops (fun _=>True) o v a∧ep P ops Q S T r (a.put o.dst v) w
 | (i,1)::r,a,w=>∃o v,ops[i]? = some o∧YieldsIf P ops S o v a∧ep P ops Q S T r (a.put o.dst v) w
 | (i,_)::r,a,w=>∃o,ops[i]? = some o∧wpList P ops (bB S (ep P ops Q S T r) Q) [o] a w
theorem iU {i:Nat} {o:Oper} {R:Act→World→Prop} {a:Act} {w:World} (hi:ops[i]? = some o) (h:wpList P ops (bB S R Q) [o] a w):wpOp P ops Q i (fun a' w'=>S w'∧R a' w') a w:=by
 unfold wpOp;simp only [hi];unfold wpList at h;split
 ·rename_i hw;simp only [hw,if_true] at h;refine h.imp (fun h=>?_) (fun h=>⟨h.1,h.2⟩);unfold Oper.wp at h ⊢;generalize (execOp a.eval o).run P w=r at h ⊢;cases r with
  | ok nx w'=>
   cases nx<;>simp only [Oper.upon] at h ⊢ <;>
    first
     | exact h
     | exact Calls.mono h (fun e w'' he=>by cases e<;>exact he)
     | exact Rows.mono h (fun _ _ he=>he)
  | halt x w'=>cases x<;>simp only [Oper.upon] at h ⊢ <;>exact h
 ·rename_i hw;simp only [hw,Bool.false_eq_true,if_false] at h;exact h
theorem kM (hQ:∀c a d v w,Q (.panic c) (Act.put a (some d) v) w→Q (.panic c) a w) (c:List PanicEntry) (a:Act) (d:Option Tmp) (v:Value) (w:World) (h:Q (.panic c) (a.put d v) w):Q (.panic c) a w:=by
 cases d with
 | none=>exact h
 | some d=>exact hQ c a d v w h
theorem fj (hsel:Region.noSelect ops=true) (hQ:∀c a d v w,Q (.panic c) (Act.put a (some d) v) w→Q (.panic c) a w) (hn:n≤ops.size) {l:List Oper} (hl:ops=l.toArray) :
 ∀(hd:List (Nat × Nat)) (listed:Array Bool) (a:Act) (w:World),mM md ops n hd listed=true→S w→ep P ops Q S (wpList P ops Q (l.drop n)) hd a w→
  kC P md ops Q S n (hd.length+(ops.size - n)) listed a w
 | [],listed,a,w,hB,hS,h=>by
  have hlen:(l.drop n).length=ops.size - n:=by rw [hl];simp
  rw [List.length_nil,fg,←hlen];exact k8 _ n listed a w (Nat.le_refl _) (fun j=>by rw [hl];simp [List.getElem?_drop]) (by rw [hlen];exact hB) h
 | (i,0)::r,listed,a,w,hB,hS,h=>by
  obtain ⟨o,v,ho,hy,h⟩:=h;simp only [mM,Bool.and_eq_true,decide_eq_true_eq] at hB;obtain ⟨⟨hin,hr,hf⟩,hB⟩:=hB;rw [List.length_cons,kK];exact iT ho (ko hsel) (fun c a w=>kM hQ c a _ _ w) (fun _ _ _ _ _ _ _ _=>trivial) _ listed a w (nu ho hf) (by simpa using hr) hy trivial
   (fj hsel hQ hn hl r _ _ w hB hS h)
 | (i,1)::r,listed,a,w,hB,hS,h=>by
  obtain ⟨o,v,ho,hy,h⟩:=h;simp only [mM,Bool.and_eq_true,decide_eq_true_eq] at hB;obtain ⟨⟨hin,⟨hr,hf⟩,hw⟩,hB⟩:=hB;rw [List.length_cons,kK];refine iT (Sx:=S) ho (ko hsel) (fun c a w=>kM hQ c a _ _ w) (fun j oj w w' hj hno hk hSw=>?_) _ listed a w (nu ho hf) (by simpa using hr) hy hS
   (fj hsel hQ hn hl r _ _ w hB hS h)
  have hjs:j<ops.size:=(Array.getElem?_eq_some_iff.1 hj).1;rcases dg j n with hjn|hjn
  ·exact hk hjn hSw
  ·have:=List.all_eq_true.1 hw j (List.mem_range.2 hjs);rw [Bool.or_eq_true,decide_eq_true_eq] at this;rcases this with h'|h'
   ·omega
   ·exact (nW h' hj hno).elim
 | (i,c+2)::r,listed,a,w,hB,hS,h=>by
  obtain ⟨o,ho,h⟩:=h;simp only [mM,Bool.and_eq_true,decide_eq_true_eq] at hB;obtain ⟨⟨hin,hr⟩,hB⟩:=hB;rw [List.length_cons,kK];refine ⟨fun h0=>(by rw [hr] at h0;cases h0),fun j hj=>?_⟩;rw [hr] at hj;obtain rfl:j=i:=by simpa using hj
  exact nr (fun a' w' h'=>⟨fun _ _=>h'.1,fj hsel hQ hn hl r _ _ w' hB h'.1 h'.2⟩) (iU ho h)
theorem qe {T:Act→World→Prop} {r:List (Nat × Nat)} {i:Nat} {o:Oper} {a:Act} {w:World} {v:Value} (ho:ops[i]? = some o) (hw:Region.wanted o (yielded ops a.tmps)=true) (hy:∀w,(execOp a.eval o).run P w = .ok (.value v) w) (h:ep P ops Q S T r (a.put o.dst v) w):ep P ops Q S T ((i,0)::r) a w:=⟨o,v,ho, .inl ⟨hw,fun w _=>hy w⟩,h⟩
theorem aQ {T:Act→World→Prop} {r:List (Nat × Nat)} {i:Nat} {o:Oper} {a:Act} {w:World} {v:Value} (ho:ops[i]? = some o) (hw:Region.wanted o (yielded ops a.tmps)=true) (hy:∀w,S w→(execOp a.eval o).run P w = .ok (.value v) w) (h:ep P ops Q S T r (a.put o.dst v) w):ep P ops Q S T ((i,1)::r) a w:=⟨o,v,ho, .inl ⟨hw,hy⟩,h⟩
theorem da {T:Act→World→Prop} {r:List (Nat × Nat)} {i:Nat} {o:Oper} {a:Act} {w:World} (ho:ops[i]? = some o) (hw:Region.wanted o (yielded ops a.tmps)=false) (h:ep P ops Q S T r (a.put o.dst undef) w):ep P ops Q S T ((i,0)::r) a w:=⟨o,undef,ho, .inr ⟨hw,rfl⟩,h⟩
theorem iQ {T:Act→World→Prop} {r:List (Nat × Nat)} {i:Nat} {o:Oper} {a:Act} {w:World} (ho:ops[i]? = some o) (hw:Region.wanted o (yielded ops a.tmps)=false) (h:ep P ops Q S T r (a.put o.dst undef) w):ep P ops Q S T ((i,1)::r) a w:=⟨o,undef,ho, .inr ⟨hw,rfl⟩,h⟩
theorem aT {T:Act→World→Prop} {r:List (Nat × Nat)} {i c:Nat} {o:Oper} {a:Act} {w:World} (ho:ops[i]? = some o) (h:wpList P ops (bB S (ep P ops Q S T r) Q) [o] a w):ep P ops Q S T ((i,c+2)::r) a w:=⟨o,ho,h⟩
theorem bC {T:Act→World→Prop} {a:Act} {w:World} (h:T a w):ep P ops Q S T [] a w:=h
theorem hY {id:Nat} {a:Act} {w:World} {l:List Oper} (S:World→Prop) (n:Nat) (hd:List (Nat × Nat)) (hm:P.follows .mixedOrders=true) (hB:CI .any l.toArray n hd=true) (hQ:∀c a d v w,Q (.panic c) (Act.put a (some d) v) w→Q (.panic c) a w)
 (hS:S w.drew) (h:ep P l.toArray Q S (wpList P l.toArray Q (l.drop n)) hd a w.drew):(Code.region id l.toArray true).wp P Q a w:=by
 simp only [CI,Bool.and_eq_true,decide_eq_true_eq] at hB;obtain ⟨⟨⟨hsel,hn⟩,hlen⟩,hB⟩:=hB;have H:=fj (md:= .any) hsel hQ hn rfl hd _ a w.drew hB hS h;rw [hlen,show n+(l.toArray.size - n)=l.toArray.size by omega] at H;exact wp_region_any hm (lD _ _ _ _ H)
end
end Go.Proofs.YtpekmdpbfjdjkaaGreat.iK
namespace Go
open Go.RowKit Go.Proofs.ag.ax Go.Proofs.ag.aU Go.Proofs.YtpekmdpbfjdjkaaGreat.fr Go.Proofs.YtpekmdpbfjdjkaaGreat.iK
theorem cS {α:Type}:(∀(xs:List α) (i:Nat) (h:i<xs.toArray.size),xs.toArray[i]=xs[i]'(by simpa using h))∧(∀(a:α) (DQ:List α) (i:Nat) (h:i+1<(a::DQ).length),(a::DQ)[i+1]=DQ[i]'(Nat.lt_of_succ_lt_succ h))∧(∀(a:α) (DQ:List α) (h:0<(a::DQ).length),(a::DQ)[0]=a)∧(∀(l:List α) (i:Nat) (a:α),l.toArray.setIfInBounds i a=(l.set i a).toArray)∧(∀(x:α) (xs:List α) (a:α),(x::xs).set 0 a=a::xs)∧(∀(x:α) (xs:List α) (n:Nat) (a:α),(x::xs).set (n+1) a=x::xs.set n a):=
 ⟨fun xs i h=>List.getElem_toArray h,fun a DQ i h=>List.getElem_cons_succ ..,fun a DQ h=>List.getElem_cons_zero ..,fun l i a=>List.setIfInBounds_toArray l i a,fun x xs a=>List.set_cons_zero,fun x xs n a=>List.set_cons_succ⟩
section
variable {P:Program} {ops:Array Oper} {rest:List Oper} {o:Oper} {a:Act} {Q:Exit→Act→World→Prop} {W:World}
theorem gS {t:TypeId} (p v:Tmp) (_ho:o.op = .store t (.tmp p) (.tmp v)) (h:wpList P ops Q (o::rest) a W):wpList P ops Q (o::rest) a W:=h
theorem flat {l:List Value} (h:l.all Value.oneCell'=true):∀q∈l,q.oneCell'=true:=List.all_eq_true.1 h
theorem sB {t:TypeId} {p x:Operand} {g:Nat} {cur:Array Value} {e:TypeId} (c:Array Value) (hh:W.heap[g]? = some (.cells cur e (0,0)))
 (h:∀W1,af (W1.heap[g]? = some (.cells c e (0,0)))→af (W.grownBy W1 (some g))→wpList P ops Q rest a W1)
 (hN:o.dst=none:=by exact rfl) (hgd:o.guard=none:=by exact rfl) (ho:o.op = .store t p x:=by exact rfl) (haddr:a.eval p = .pointer (some ⟨g,0,none⟩):=by exact rfl) (hx:a.eval x = .agg c:=by exact rfl) (ht:(P.info? t).map (·.size)=some c.toList.length:=by kernel_rfl) (hfit:c.toList.length=cur.size:=by exact rfl) (h1:c.toList.all Value.oneCell'=true:=by exact rfl):wpList P ops Q (o::rest) a W:=
 dl hN hgd ho c.toList haddr hx hh rfl ht hfit (flat h1) fun W1 h2 h3=>h W1 ⟨h2⟩ ⟨h3⟩
theorem s1 {t:TypeId} {p x:Operand} {g:Nat} {cur:Array Value} {e:TypeId} (u:Value) (hh:W.heap[g]? = some (.cells cur e (0,0)))
 (h:∀W1,af (W1.heap[g]? = some (.cells #[u] e (0,0)))→af (W.grownBy W1 (some g))→wpList P ops Q rest a W1)
 (hN:o.dst=none:=by exact rfl) (hgd:o.guard=none:=by exact rfl) (ho:o.op = .store t p x:=by exact rfl) (haddr:a.eval p = .pointer (some ⟨g,0,none⟩):=by exact rfl) (hx:a.eval x=u:=by exact rfl) (hc:u.cells.toList=[u]:=by exact rfl) (ht:(P.info? t).map (·.size)=some 1:=by kernel_rfl) (hfit:1=cur.size:=by exact rfl) (h1:u.oneCell'=true:=by exact rfl):wpList P ops Q (o::rest) a W:=
 dl hN hgd ho [u] haddr hx hh hc ht hfit (fun q hq=>by rw [List.mem_singleton.1 hq];exact h1) fun W1 h2 h3=>h W1 ⟨h2⟩ ⟨h3⟩
theorem lB {t:TypeId} {p:Operand} {g:Nat} {cs:Array Value} {e:TypeId} {d:TypeDesc} (hh:W.heap[g]? = some (.cells cs e (0,0))) (hu:P.underlying t=some d) (h:wpList P ops Q rest (a.put o.dst (.agg cs)) W)
 (hgd:o.guard=none:=by exact rfl) (ho:o.op = .load t p:=by exact rfl) (haddr:a.eval p = .pointer (some ⟨g,0,none⟩):=by exact rfl) (hd:d.isRow=true:=by exact rfl) (hi:(P.info? t).map (·.size)=some cs.size:=by kernel_rfl):wpList P ops Q (o::rest) a W:=
 fL hgd ho haddr hh hu hd hi h
theorem sC {t:TypeId} {p x:Operand} {g:Nat} {cur:Array Value} {e:TypeId} (j:Nat) (u:Value) (cur':Array Value) (hh:W.heap[g]? = some (.cells cur e (0,0)))
 (h:∀W1,af (W1.heap[g]? = some (.cells cur' e (0,0)))→af (W.grownBy W1 (some g))→wpList P ops Q rest a W1)
 (hN:o.dst=none:=by exact rfl) (hgd:o.guard=none:=by exact rfl) (ho:o.op = .store t p x:=by exact rfl) (haddr:a.eval p = .pointer (some ⟨g,j,none⟩):=by exact rfl) (hx:a.eval x=u:=by exact rfl) (hj:Nat.blt j cur.size=true:=by kernel_rfl) (hc:u.cells.toList=[u]:=by exact rfl) (h1:u.oneCell'=true:=by exact rfl) (ht:(P.info? t).map (·.size)=some 1:=by kernel_rfl) (hcur:cur.setIfInBounds j u=cur':=by exact rfl):wpList P ops Q (o::rest) a W:=
 jk hN hgd ho haddr hx hh (Nat.le_of_ble_eq_true hj) hc h1 ht hcur fun W1 h2 h3=>h W1 ⟨h2⟩ ⟨h3⟩
end
section
variable {P:Program} {ops:Array Oper} {Q:Exit→Act→World→Prop} {S:World→Prop} {T:Act→World→Prop} {r:List (Nat × Nat)} {i:Nat} {o:Oper} {a:Act} {w:World} {v:Value}
theorem eF (h:ep P ops Q S T r (a.put o.dst v) w) (ho:ops[i]? = some o:=by exact rfl) (hw:Region.wanted o (yielded ops a.tmps)=true:=by exact rfl) (hy:∀w,(execOp a.eval o).run P w = .ok (.value v) w:=by intro w;go_simp;try (with_reducible rfl)):ep P ops Q S T ((i,0)::r) a w:=qe ho hw hy h
end
section
variable {P:Program} {fn:Func} {R:Ending→World→Prop} {a:Act} {p q q2:Tmp} {ty:TypeId} {w:World} {g:Nat} {t:TypeId} {cs:Array Value} {fr:Nat × Nat} {d:TypeDesc} {v u:Value}
theorem l9 (hg:w.heap[g]? = some (.cells cs t fr)) (hu:P.underlying ty=some d) (hR:R (.returned (.tuple #[.agg cs,v])) w) (h:fn.results=#[.cell p ty, .tmp q]:=by exact rfl) (hp:a.tmps.getD p undef = .pointer (some ⟨g,0,none⟩):=by exact rfl) (hd:(match d with | .struct _ | .array _ _=>true|_=>false)=true:=by exact rfl) (hi:(P.info? ty).map (·.size)=some cs.size:=by kernel_rfl) (hv:a.tmps.getD q undef=v:=by exact rfl) (hdf:a.defers=[]:=by exact rfl):bodyPost P fn R .ret a w:=
 gO (lU h _ _ _ _ _ _ _ hp hg hu hd hi hv) hdf hR
theorem gK (hg:w.heap[g]? = some (.cells cs t fr)) (hu:P.underlying ty=some d) (hR:R (.returned (.tuple #[.agg cs,v,u])) w) (h:fn.results=#[.cell p ty, .tmp q, .tmp q2]:=by exact rfl) (hp:a.tmps.getD p undef = .pointer (some ⟨g,0,none⟩):=by exact rfl) (hd:(match d with | .struct _ | .array _ _=>true|_=>false)=true:=by exact rfl) (hi:(P.info? ty).map (·.size)=some cs.size:=by kernel_rfl) (hv:a.tmps.getD q undef=v:=by exact rfl) (hv2:a.tmps.getD q2 undef=u:=by exact rfl) (hdf:a.defers=[]:=by exact rfl):bodyPost P fn R .ret a w:=by
 refine gO (v:= .tuple #[.agg cs,v,u]) ?_ hdf hR;have hp':a.tmps[p]?.getD undef = .pointer (some ⟨g,0,none⟩):=by simpa using hp
 have hv':a.tmps[q]?.getD undef=v:=by simpa using hv
 have hu':a.tmps[q2]?.getD undef=u:=by simpa using hv2
 simp [results,h,hp',hv',hu',asAddr,jm w g t ty cs fr d hg hu hd hi]
theorem zM (hg:w.heap[g]? = some (.cells cs t fr)) (hu:P.underlying ty=some d) (hR:R (.returned (.agg cs)) w) (h:fn.results=#[.cell p ty]:=by exact rfl) (hp:a.tmps.getD p undef = .pointer (some ⟨g,0,none⟩):=by exact rfl) (hd:(match d with | .struct _ | .array _ _=>true|_=>false)=true:=by exact rfl) (hi:(P.info? ty).map (·.size)=some cs.size:=by kernel_rfl) (hdf:a.defers=[]:=by exact rfl):bodyPost P fn R .ret a w:=by
 refine gO (v:= .agg cs) ?_ hdf hR;have hp':a.tmps[p]?.getD undef = .pointer (some ⟨g,0,none⟩):=by simpa using hp
 simp [results,h,hp',asAddr,jm w g t ty cs fr d hg hu hd hi]
end
end Go
namespace Go.Proofs.YtpekmdpbfjdjkaaGreat.opens
open Go.RowKit ag.ax
def iB (P:Program) (t:TypeId) {α:Type} (d:Kd α) (wt:α→Nat) (good:α→Prop):Prop:=
 ∀(H:Type) (enc:TypeId × Value→H) (w:World) (base:Nat) (spare:Nat→Bool) (held:Bool) (fuel:Nat) (cs:List Value) (x:DataW H × List MemPlace),
  DataW.trod enc P w base spare held fuel t cs=some x→∃y:α,d.K w y cs∧wt y≤Rows.uptoBulk x.1∧good y
theorem one_le {H:Type} (d:DataW H):1≤Rows.uptoBulk d:=by
 cases d with
 | lit l=>cases l<;>simp [Rows.uptoBulk]
 | nil=>simp [Rows.uptoBulk]
 | ptr d=>simp [Rows.uptoBulk]
 | slice elems spare=>simp [Rows.uptoBulk]
 | agg parts=>simp [Rows.uptoBulk]
 | iface t d=>simp [Rows.uptoBulk]
 | map entries=>simp [Rows.uptoBulk]
 | held h=>simp [Rows.uptoBulk]
theorem qk {H:Type} (l r:List (DataW H)):Rows.uptoBulkAll (l++r)=Rows.uptoBulkAll l+Rows.uptoBulkAll r:=by
 induction l with
 | nil=>simp [Rows.uptoBulkAll]
 | cons x l ih=>simp only [List.cons_append,Rows.uptoBulkAll,ih];omega
theorem dW {P:Program} {t:TypeId} {k:IntKind} (ht:P.underlying t=some (.int k)):iB P t (Kd.int k) (fun _=>1) (fun n=>(Lit.int k n).wf=true):=by
 intro H enc w base spare held fuel cs x h;obtain ⟨n,rfl,rfl,hw⟩:=DataW.trod_int ht h;exact ⟨n,rfl,one_le _,hw⟩
theorem ue {w:World} {base:Nat} {a:Addr} {n:Nat} {cs:List Value} (h:w.cells? base a n=some cs):cs.length=n∧∀i u,cs[i]? = some u→w.cell? (a.add i)=some u:=by
 obtain ⟨_,hl,hc⟩:=World.cells?_some h;refine ⟨hl,fun i u hu=>?_⟩;have hi:i<n:=by rw [←hl];exact (List.getElem?_eq_some_iff.1 hu).1
 rw [hc i hi];exact hu
theorem fN {P:Program} {t e:TypeId} {α:Type} {d:Kd α} {wt:α→Nat} {good:α→Prop} (ht:P.underlying t=some (.slice e)) (hs:P.cellsOf e=d.sz) (ho:iB P e d wt good) :
 iB P t (Kd.slice e d) (fun xs=>(xs.map wt).sum+1) (fun xs=>∀x∈xs,good x):=by
 intro H enc w base spare held fuel cs x h;rcases Go.Deep.open_slice ht h with ⟨rfl,rfl⟩|⟨a,len,cap,m,n,D,Pl,rfl,hb,hl,hm,hmm,rfl,hx⟩
 ·exact ⟨[],⟨none,0,rfl,Nat.le_refl _,rfl,by simp,fun h0=>absurd h0 (by simp)⟩,one_le _,fun x hx=>by simp at hx⟩
 ·have hlm:len≤m:=by rw [hmm];split<;>omega
  have key:∀l,l≤len→∃xs:List α,xs.length=l∧(∀i y,xs[i]? = some y→∃c,c.length=d.sz∧d.K w y c∧∀j u,c[j]? = some u→w.cell? (a.add (i*d.sz+j))=some u)∧
   (xs.map wt).sum≤Rows.uptoBulkAll ((List.range l).map D)∧∀y∈xs,good y:=by
   intro l
   induction l with
   | zero=>exact fun _=>⟨[],rfl,fun i y hy=>by simp at hy,by simp,fun y hy=>by simp at hy⟩
   | succ l ih=>
    intro hle;obtain ⟨xs,h1,h2,h3,h4⟩:=ih (by omega);obtain ⟨cs',hc,htr⟩:=hx l (by omega);rw [hs] at hc;obtain ⟨hcl,hcg⟩:=ue hc;obtain ⟨y,hK,hw,hg⟩:=ho H enc w base spare held n cs' _ htr;refine ⟨xs++[y],by simp [h1],fun i z hz=>?_,?_,fun z hz=>?_⟩
    ·rcases dg i xs.length with hi|hi
     ·rw [cD hi] at hz;exact h2 i z hz
     ·have hi':i=xs.length:=by
       have:=(List.getElem?_eq_some_iff.1 hz).1;rw [List.length_append,List.length_singleton] at this;omega
      subst hi';obtain rfl:y=z:=by simpa using hz
      refine ⟨cs',hcl,hK,fun j u hu=>?_⟩;rw [h1];have:=hcg j u hu;rwa [Go.Deep.add_add] at this
    ·rw [List.map_append,List.sum_append,List.range_succ,List.map_append,qk];simp only [List.map_cons,List.map_nil,List.sum_cons,List.sum_nil,Rows.uptoBulkAll,Nat.add_zero];exact Nat.add_le_add h3 hw
    ·rcases List.mem_append.1 hz with hz|hz
     ·exact h4 z hz
     ·obtain rfl:=List.mem_singleton.1 hz;exact hg
  obtain ⟨xs,h1,h2,h3,h4⟩:=key len (Nat.le_refl _);refine ⟨xs,⟨some a,cap,by rw [h1],by omega,rfl,?_,fun _=>⟨a,rfl,h2⟩⟩,?_,h4⟩
  ·have:cap≤9223372036854775807:=by simpa [maxLen] using hm
   omega
  ·simp only [Rows.uptoBulk];omega
theorem gH {P:Program} {t:TypeId} {α:Type} {d:Kd α} {wt wt':α→Nat} {good good':α→Prop} (ho:iB P t d wt good) (hw:∀y,wt' y≤wt y) (hg:∀y,good y→good' y):iB P t d wt' good':=by
 intro H enc w base spare held fuel cs x h;obtain ⟨y,hK,h1,h2⟩:=ho H enc w base spare held fuel cs x h;exact ⟨y,hK,Nat.le_trans (hw y) h1,hg y h2⟩
theorem bound {H:Type} {l:List (DataW H)} (hk:Rows.uptoSmall H l=true):Rows.uptoBulkAll l≤1048576:=of_decide_eq_true hk
end Go.Proofs.YtpekmdpbfjdjkaaGreat.opens
namespace Go.Proofs.ag.ax
open Go.RowKit
section
variable {w w' u:World} {m B g:Nat} {o:Obj} {row:Option Nat} {S:Nat→Prop} {a:Addr} {v:Value}
theorem ju (hq:w.drewN m=w') (h:w.cell? a=some v):w'.cell? a=some v:=by subst hq;exact h
end
namespace Kd
end Kd
end Go.Proofs.ag.ax
namespace Go.Proofs.ag.ax
open Go.RowKit
section
variable {P:Program} {d:Nat} {xs ys:Array Value} {f:Field} {fs:List Field} {a b:Value} {r s:Bool} {w:World}
theorem qL (hn:(f.name == "_")=false) (ha:(part f.type xs f.offset).run P w = .ok a w) (hb:(part f.type ys f.offset).run P w = .ok b w) (he:(Op.equalIn d f.type a b).run P w = .ok r w):(Op.eqFields d xs ys [f]).run P w = .ok r w:=by
 have hn':f.name≠ "_" :=by simpa using hn
 simp only [Op.eqFields,if_pos hn',Sem.run_bind,ha,hb,he,Result.andThen_ok];cases r<;>simp
theorem l7 (hn:(f.name == "_")=false) (ha:(part f.type xs f.offset).run P w = .ok a w) (hb:(part f.type ys f.offset).run P w = .ok b w) (he:(Op.equalIn d f.type a b).run P w = .ok r w) (hr:(Op.eqFields d xs ys fs).run P w = .ok s w):(Op.eqFields d xs ys (f::fs)).run P w = .ok (r&&s) w:=by
 have hn':f.name≠ "_" :=by simpa using hn
 rw [Op.eqFields];simp only [if_pos hn',Sem.run_bind,ha,hb,he,Result.andThen_ok];cases r
 ·simp
 ·simpa using hr
theorem vL {t:TypeId} {fs:Array Field} (hu:P.underlying t=some (.struct fs)) (hp:P.stoodInHeld t=false) (h:(Op.eqFields d xs ys fs.toList).run P w = .ok r w):(Op.equalIn (d+1) t (.agg xs) (.agg ys)).run P w = .ok r w:=by
 have hf:P.fieldsOf t=fs:=by simp [Program.fieldsOf,hu]
 rw [run_equalIn_struct (P:=P) w d t xs ys (by rw [hf];exact hu) hp,hf];exact h
end
end Go.Proofs.ag.ax
namespace Go.Proofs.ag.ax
theorem dn.one {α:Type} {R:α→List Value→Prop} {ps:List α} {cs:List Value} {p:α} {v:Value} (hp:R p [v]) (h:dn R 1 ps cs):dn R 1 (p::ps) (v::cs):=by
 refine ⟨by simp [h.1],fun j q hq=>?_⟩;cases j with
 | zero=>
  simp only [List.getElem?_cons_zero,bP] at hq;subst hq;simpa using hp
 | succ j=>
  simp only [List.getElem?_cons_succ] at hq;have h1:=h.2 j q hq;simpa [Nat.mul_one] using h1
theorem dn.front {α:Type} {R:α→List Value→Prop} {size:Nat} {ps:List α} {cs c all:List Value} {p:α} (hp:R p c) (hc:c.length=size) (h:dn R size ps cs) (ha:c++cs=all):dn R size (p::ps) all:=by
 subst ha;refine ⟨by rw [List.length_append,hc,h.1,List.length_cons,dz,ik],fun j q hq=>?_⟩;cases j with
 | zero=>
  simp only [List.getElem?_cons_zero,bP] at hq;subst hq;rw [Nat.zero_mul,List.drop_zero,List.take_append_of_le_length (by omega),List.take_of_length_le (by omega)];exact hp
 | succ j=>
  simp only [List.getElem?_cons_succ] at hq;have h1:=h.2 j q hq;rw [dz,List.drop_append,List.drop_of_length_le (by rw [hc];exact Nat.le_add_left _ _),List.nil_append,hc,Nat.add_sub_cancel];exact h1
theorem dn.c2 {α:Type} {R:α→List Value→Prop} {ps:List α} {cs:List Value} {p:α} {va vb:Value} (hp:R p [va,vb]) (h:dn R 2 ps cs):dn R 2 (p::ps) (va::vb::cs):=dn.front hp rfl h rfl
theorem dn.c3 {α:Type} {R:α→List Value→Prop} {ps:List α} {cs:List Value} {p:α} {va vb vc:Value} (hp:R p [va,vb,vc]) (h:dn R 3 ps cs):dn R 3 (p::ps) (va::vb::vc::cs):=dn.front hp rfl h rfl
theorem dn.c4 {α:Type} {R:α→List Value→Prop} {ps:List α} {cs:List Value} {p:α} {va vb vc vd:Value} (hp:R p [va,vb,vc,vd]) (h:dn R 4 ps cs):dn R 4 (p::ps) (va::vb::vc::vd::cs):=dn.front hp rfl h rfl
theorem dn.c5 {α:Type} {R:α→List Value→Prop} {ps:List α} {cs:List Value} {p:α} {va vb vc vd ve:Value} (hp:R p [va,vb,vc,vd,ve]) (h:dn R 5 ps cs):dn R 5 (p::ps) (va::vb::vc::vd::ve::cs):=dn.front hp rfl h rfl
theorem dn.c6 {α:Type} {R:α→List Value→Prop} {ps:List α} {cs:List Value} {p:α} {va vb vc vd ve vf:Value} (hp:R p [va,vb,vc,vd,ve,vf]) (h:dn R 6 ps cs):dn R 6 (p::ps) (va::vb::vc::vd::ve::vf::cs):=dn.front hp rfl h rfl
theorem dn.c7 {α:Type} {R:α→List Value→Prop} {ps:List α} {cs:List Value} {p:α} {va vb vc vd ve vf vg:Value} (hp:R p [va,vb,vc,vd,ve,vf,vg]) (h:dn R 7 ps cs):dn R 7 (p::ps) (va::vb::vc::vd::ve::vf::vg::cs):=dn.front hp rfl h rfl
theorem dn.c8 {α:Type} {R:α→List Value→Prop} {ps:List α} {cs:List Value} {p:α} {va vb vc vd ve vf vg vh:Value} (hp:R p [va,vb,vc,vd,ve,vf,vg,vh]) (h:dn R 8 ps cs):dn R 8 (p::ps) (va::vb::vc::vd::ve::vf::vg::vh::cs):=dn.front hp rfl h rfl
theorem dn.c9 {α:Type} {R:α→List Value→Prop} {ps:List α} {cs:List Value} {p:α} {va vb vc vd ve vf vg vh vi:Value} (hp:R p [va,vb,vc,vd,ve,vf,vg,vh,vi]) (h:dn R 9 ps cs):dn R 9 (p::ps) (va::vb::vc::vd::ve::vf::vg::vh::vi::cs):=dn.front hp rfl h rfl
theorem dn.mO {α:Type} {R:α→List Value→Prop} {ps:List α} {cs:List Value} {p:α} {va vb vc vd ve vf vg vh vi vj:Value} (hp:R p [va,vb,vc,vd,ve,vf,vg,vh,vi,vj]) (h:dn R 10 ps cs):dn R 10 (p::ps) (va::vb::vc::vd::ve::vf::vg::vh::vi::vj::cs):=dn.front hp rfl h rfl
end Go.Proofs.ag.ax
namespace Go.Proofs.ag.ax
open Go.RowKit
section
variable {P:Program} {ops:Array Oper} {rest:List Oper} {o:Oper} {a:Act} {Q:Exit→Act→World→Prop} {W:World}
theorem lu (hw:Region.wanted o (yielded ops a.tmps)=true) (h:wpList P ops Q ({ o with guard:=none }::rest) a W):wpList P ops Q (o::rest) a W:=by
 have h1:Region.wanted { o with guard:=none } (yielded ops a.tmps)=true:=rfl;unfold wpList at h ⊢;rw [if_pos h1] at h;rw [if_pos hw];exact h
end
end Go.Proofs.ag.ax