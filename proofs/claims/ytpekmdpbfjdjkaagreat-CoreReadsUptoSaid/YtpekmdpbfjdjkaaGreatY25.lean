/- Part 25 of the proof that reading bytes answers as the document does. No condition. -/
import Derived.Test.YtpekmdpbfjdjkaaGreatY24
set_option maxHeartbeats 16000000
set_option maxRecDepth 100000
set_option linter.all false
namespace Go.Proofs.YtpekmdpbfjdjkaaGreat.ref
open Go Go.RowKit ag.ax ag.aV ag.aU aD fr iK cL plain fE
theorem rN {base br p:Nat} {l:List Int} {W:World} (h:Rg W base br l p 0) (hB:base≤W.heap.size):Calls Tryz.prog 190 #[.pointer (some ⟨br,0,none⟩), .int .i64 1, .int .i64 0] W (uc base br W l (dm 1 0 (l.drop p))):=nw 1 0 base br p l _ W h hB fun A c w hC hc=>As A c l p w hC hc h.hL h.Af h.hp
theorem Bw {base br p:Nat} {l:List Int} {W:World} (h:Rg W base br l p 0) (hB:base≤W.heap.size):Calls Tryz.prog 190 #[.pointer (some ⟨br,0,none⟩), .int .i64 4, .int .i64 0] W (uc base br W l (dm 4 0 (l.drop p))):=nw 4 0 base br p l _ W h hB fun A c w hC hc=>zF A c l p w hC hc h.hL h.Af h.hp
theorem nO {base br p:Nat} {l:List Int} {W:World} (h:Rg W base br l p 0) (hB:base≤W.heap.size):Calls Tryz.prog 190 #[.pointer (some ⟨br,0,none⟩), .int .i64 5, .int .i64 0] W (uc base br W l (dm 5 0 (l.drop p))):=nw 5 0 base br p l _ W h hB fun A c w hC hc=>AR A c l p w hC hc h.hL h.Af h.hp
theorem AH {base br p:Nat} {l:List Int} {W:World} (h:Rg W base br l p 0) (hB:base≤W.heap.size):Calls Tryz.prog 190 #[.pointer (some ⟨br,0,none⟩), .int .i64 7, .int .i64 0] W (uc base br W l (dm 7 0 (l.drop p))):=nw 7 0 base br p l _ W h hB fun A c w hC hc=>Al A c l p w hC hc h.hL h.Af h.hp
theorem nI (n:Nat) {base br p:Nat} {l:List Int} {W:World} (h:Rg W base br l p 0) (hB:base≤W.heap.size) (hn:n≤1000000):Calls Tryz.prog 190 #[.pointer (some ⟨br,0,none⟩), .int .i64 9, .int .i64 n] W (uc base br W l (dm 9 n (l.drop p))):=nw 9 n base br p l _ W h hB fun A c w hC hc=>AD A c l p n w hC hc h.hL h.Af h.hp hn
structure Zs where
 A:Option Addr
 n:Nat
 c:Nat
def Zs.v (z:Zs):Value:= .slice z.A z.n z.c
structure Zm where
 k:Int
 seq:Int
 key:Int
 hi:Int
 s4:Zs
 s5:Zs
 has:Bool
 of_:Int
 st:Int
 host:Int
 grant:Int
 bounds:Int
 mask:Int
 limit:Int
 s14:Zs
 s15:Zs
 s16:Zs
def aW (m:Zm):Array Value:=#[.int .u8 m.k, .int .u64 m.seq, .int .u64 m.key, .int .u64 m.hi,m.s4.v,m.s5.v, .bool m.has, .int .u8 m.of_, .int .u8 m.st, .int .u8 m.host, .int .u32 m.grant, .int .u32 m.bounds, .int .u64 m.mask, .int .u8 m.limit,m.s14.v,m.s15.v,m.s16.v]
def z0:Zs:=⟨none,0,0⟩
def zK (k:Int):Zm:=⟨k,0,0,0,z0,z0,false,0,0,0,0,0,0,0,z0,z0,z0⟩
structure pK (m:Zm):Prop where
 kk0:0≤m.k
 kk1:m.k≤255
 k0:0≤m.key
 k1:m.key≤18446744073709551615
 h0:0≤m.hi
 h1:m.hi≤18446744073709551615
def xB (lo:Nat) (w':World) (l:List Int) (o:Option (Th × List Int)) (x:Int) (f:Bool) (z:Zs) (q:Nat) (er:Int):Prop:=
 match o with
 | none=>er≠0
 | some (t,r)=>er=0∧x=t.n∧f=t.f∧r=l.drop q∧Kd.R (Kd.int .u8) 5 w' lo (fun _=>True) z.v t.b
theorem xB.var {lo:Nat} {w':World} {l r:List Int} {x:Int} {f:Bool} {z:Zs} {q:Nat} {er:Int} (h:xB lo w' l (dm 5 0 r) x f z q er) (hb:aq r):(er≠0∧df r=none)∨(er=0∧df r=some (x,l.drop q)∧0≤x∧x≤18446744073709551615):=by
 rw [show dm 5 0 r=(df r).map fun q=>((⟨5,q.1,false,[]⟩:Th),q.2) from rfl] at h;have hs:=Au (r,0) hb;cases hp:df r with
 | none=>rw [hp] at h;exact .inl ⟨h,rfl⟩
 | some y=>
  rw [hp] at h;obtain ⟨h1,h2, -,h4, -⟩:=h;have hy:y.1=(fQ (r,0)).1:=by
   have e:=hp;rw [df,pR] at e;split at e
   ·injection e with e;rw [←e]
   ·cases e
  simp only at h2 h4;exact .inr ⟨h1,by rw [h2,←h4],by rw [h2,hy];exact hs.1,by rw [h2,hy];omega⟩
theorem nT {n:Nat} {r rest:List Int} {x:Int} (h:dQ n r=some (x,rest)) (hb:aq r):0≤x∧x<256 ^ n:=by
 rw [kQ] at h;split at h
 ·cases h
 ·rename_i hn;injection h with h;injection h with h1 h2;have hv:=i7 (r.take n) (fun c hc=>hb c (List.mem_of_mem_take hc));rw [List.length_take,Nat.min_eq_left (by omega)] at hv;rw [←h1];exact hv
theorem xB.num {k n lo:Nat} (hk:∀r,dm k 0 r=(dQ n r).map fun q=>((⟨k,q.1,false,[]⟩:Th),q.2)) {w':World} {l r:List Int} {x:Int} {f:Bool} {z:Zs} {q:Nat} {er:Int} (h:xB lo w' l (dm k 0 r) x f z q er) (hb:aq r):(er≠0∧dQ n r=none)∨(er=0∧dQ n r=some (x,l.drop q)∧0≤x∧x<256 ^ n):=by
 rw [hk] at h;cases hp:dQ n r with
 | none=>rw [hp] at h;exact .inl ⟨h,rfl⟩
 | some y=>
  rw [hp] at h;obtain ⟨h1,h2, -,h4, -⟩:=h;simp only at h2 h4;have hy:=nT (x:=y.1) (rest:=y.2) hp hb;exact .inr ⟨h1,by rw [h2,←h4],by rw [h2];exact hy.1,by rw [h2];exact hy.2⟩
theorem xB.dI {n lo:Nat} {w':World} {l r:List Int} {x:Int} {f:Bool} {z:Zs} {q:Nat} {er:Int} (h:xB lo w' l (dm 9 n r) x f z q er):(er≠0∧fJ n r=none)∨∃b,er=0∧fJ n r=some (b,l.drop q)∧Kd.R (Kd.int .u8) 5 w' lo (fun _=>True) z.v b:=by
 rw [show dm 9 n r=(fJ n r).map fun q=>((⟨9,0,false,q.1⟩:Th),q.2) from rfl] at h;cases hp:fJ n r with
 | none=>rw [hp] at h;exact .inl ⟨h,rfl⟩
 | some y=>
  rw [hp] at h;obtain ⟨h1, -, -,h4,h5⟩:=h;simp only at h4 h5;exact .inr ⟨y.1,h1,by rw [←h4],h5⟩
theorem xB.flag {lo:Nat} {w':World} {l r:List Int} {x:Int} {f:Bool} {z:Zs} {q:Nat} {er:Int} (h:xB lo w' l (dm 7 0 r) x f z q er):(er≠0∧jH r=none)∨(er=0∧jH r=some (f,l.drop q)):=by
 rw [show dm 7 0 r=(jH r).map fun q=>((⟨7,0,q.1,[]⟩:Th),q.2) from rfl] at h;cases hp:jH r with
 | none=>rw [hp] at h;exact .inl ⟨h,rfl⟩
 | some y=>
  rw [hp] at h;obtain ⟨h1, -,h3,h4, -⟩:=h;simp only at h3 h4;exact .inr ⟨h1,by rw [h3,←h4]⟩
theorem uc.flat {base br:Nat} {W w':World} {l:List Int} {o:Option (Th × List Int)} {e:Ending} (h:uc base br W l o e w'):∃(a x:Int) (f:Bool) (z:Zs) (q:Nat) (er:Int),e = .returned (.agg (bF a x 0 f z.v))∧Mv TG W w'∧Below base W w'∧Rg w' base br l q er∧xB W.heap.size w' l o x f z q er:=by
 obtain ⟨h1,h2,h⟩:=h;cases o with
 | none=>obtain ⟨q,er,rfl,h3,h4⟩:=h;exact ⟨0,0,false,z0,q,er,rfl,h1,h2,h3,h4⟩
 | some y=>
  obtain ⟨t,r⟩:=y;obtain ⟨v,q,rfl,h3,h4,h5⟩:=h;obtain ⟨A,c,rfl⟩:=Kd.aG h5;exact ⟨t.k,t.n,t.f,⟨A,t.b.length,c⟩,q,0,rfl,h1,h2,h3,rfl,rfl,rfl,h4,h5⟩
theorem Rg.c2 {w:World} {base br p:Nat} {l:List Int} {e:Int} (h:Rg w base br l p e):w.cell? ⟨br,2,none⟩=some (.int .i64 p):=by
 obtain ⟨v,h1, -⟩:=h.dI;exact cell_of h1 2
theorem Rg.c3 {w:World} {base br p:Nat} {l:List Int} {e:Int} (h:Rg w base br l p e):w.cell? ⟨br,3,none⟩=some (.int .i64 e):=by
 obtain ⟨v,h1, -⟩:=h.dI;exact cell_of h1 3
theorem Rk.cr {base n:Nat} {W w:World} {bs:List (Nat × Nat × Array Value)} {br p:Nat} {l:List Int} {e:Int} (h:Rk base W w bs br l p e) (hs:w.heap.size=n) (t:Nat) (cs:Array Value) (h1:t≠275) (h2:t≠5):Rk base W (w.alloc (.cells cs t)) ((n,t,cs)::bs) br l p e:=hs▸h.push t cs h1 h2
def FR (base br:Nat) (W:World) (l:List Int) (m:Zm) (o:Option (Int × Int × List Int)) (e:Ending) (w':World):Prop:=Mv TG W w'∧Below base W w'∧∃(m':Zm) (at_ er:Int),e = .returned (.tuple #[.agg (aW m'), .int .i64 at_, .int .i64 er])∧(m'.k,m'.key,m'.hi,m'.of_,m'.st)=(m.k,m.key,m.hi,m.of_,m.st)∧
 match o with
 | none=>er≠0
 | some (key,hi,r)=>er=0∧m'.key=key∧m'.hi=hi∧∃q,Rg w' base br l q 0∧r=l.drop q
theorem FR.no {base br p:Nat} {W w:World} {l:List Int} {m m':Zm} {o:Option (Int × Int × List Int)} {bs:List (Nat × Nat × Array Value)} {e at_ er:Int} (K:Rk base W w bs br l p e) (hk:(m'.k,m'.key,m'.hi,m'.of_,m'.st)=(m.k,m.key,m.hi,m.of_,m.st)) (ho:none=o) (he:er≠0):FR base br W l m o (.returned (.tuple #[.agg (aW m'), .int .i64 at_, .int .i64 er])) w:=by
 subst ho;exact ⟨K.bk.mv,K.bk.bel,m',at_,er,rfl,hk,he⟩
theorem FR.ok {base br p:Nat} {W w:World} {l:List Int} {m m':Zm} {o:Option (Int × Int × List Int)} {bs:List (Nat × Nat × Array Value)} {at_:Int} (K:Rk base W w bs br l p 0) (hk:(m'.k,m'.key,m'.hi,m'.of_,m'.st)=(m.k,m.key,m.hi,m.of_,m.st)) (ho:some (m'.key,m'.hi,l.drop p)=o):FR base br W l m o (.returned (.tuple #[.agg (aW m'), .int .i64 at_, .int .i64 0])) w:=by
 subst ho;exact ⟨K.bk.mv,K.bk.bel,m',at_,0,rfl,hk,rfl,rfl,rfl,p,K.rg,rfl⟩
def oR (k:Int):Int:=if k=6 then 16 else 32
theorem wO (m:Zm) (hm:pK m) (W:World):Calls Tryz.prog 194 #[.agg (aW m)] W fun e w'=>e = .returned (.int .i64 (oR m.k))∧Below W.heap.size W w':=by
 go_in;have e0:(aW m)[0]? = some (.int .u8 m.k):=rfl;have hw:wrap64 m.k=m.k:=IntWalk.wrap64_in _ (by have:=hm.kk0;have:=hm.kk1;omega);have hw2:IntKind.i64.wrap m.k=m.k:=aA _ (by have:=hm.kk0;have:=hm.kk1;omega);by_cases g:m.k=6
 ·have gb:(m.k == 6)=true:=by rw [gw];exact g
  have ht:oR m.k=16:=if_pos g;rw [ht];go_wp2_with fail;go_ret;exact ⟨rfl,ah (Below.refl _ _) _⟩
 ·have gb:(m.k == 6)=false:=by rw [bi];exact g
  have ht:oR m.k=32:=if_neg g;rw [ht];go_wp2_with fail;go_ret;exact ⟨rfl,ah (Below.refl _ _) _⟩
theorem j8 {ts:List Nat} {w w':World} {lo:Nat} {v:Value} {ps:List iA} (h:Kd.R Ee 59 w lo (fun _=>True) v ps) (hm:Mv ts w w') (h1:59∉ts) (h2:5∉ts):Kd.R Ee 59 w' lo (fun _=>True) v ps:=
 eV h hm (fun q hq=>by
  rcases List.mem_cons.1 hq with rfl|hq
  ·exact h1
  ·have hq':q∈[5]:=hq;rw [List.mem_singleton] at hq';subst hq';exact h2)
theorem sJ (ps:List iA) (x:iA) (i:Nat) (h:ps.length=i):cF (ps++[x]) (i:Int)=x:=by
 subst h;simp [cF]
theorem Dh {n j:Nat} (h:j+1<n):n - ((j:Int)+1+1).toNat<n - (((j+1:Nat)):Int).toNat:=by omega
def ux (key hi:Int):Nat→Option Int→List Int→Option (List Int)
 | 0,_,r=>some r
 | n+1,prev,r=>(df r).bind fun q=>if prev=some 18446744073709551615 then none else
  if hi<(prev.map (· + 1)).getD key then none else if hi - (prev.map (· + 1)).getD key<q.1 then none else
  (fJ 64 q.2).bind fun b=>ux key hi n (some ((prev.map (· + 1)).getD key+q.1)) b.2
def Gj (k key hi:Int) (r:List Int):Option (Int × Int × List Int):=(df r).bind fun q=>if oR k<q.1 then none else (ux key hi q.1.toNat none q.2).map fun r'=>(key,hi,r')
theorem rB (m:Zm) (base br p:Nat) (l:List Int) (o:Option (Int × Int × List Int)) (W:World) (h:Rg W base br l p 0) (hB:base≤W.heap.size) (hm:pK m) (hO:Gj m.k m.key m.hi (l.drop p)=o) :
 Calls Tryz.prog 186 #[.pointer (some ⟨br,0,none⟩), .agg (aW m)] W (FR base br W l m o):=by
 have hu:=Tryz.underlying214;have HO:=aa hO;have HM:=aa hm;have K0:=aa (show Rk base W ((W.alloc (.cells (aW m) 214)).alloc (.cells #[.int .u8 0, .int .u64 0, .int .u64 0, .int .u64 0, .slice none 0 0, .slice none 0 0, .bool false, .int .u8 0, .int .u8 0, .int .u8 0, .int .u32 0, .int .u32 0, .int .u64 0, .int .u8 0, .slice none 0 0, .slice none 0 0, .slice none 0 0] 214)) [(W.heap.size+1,214,aW (zK 0)),(W.heap.size,214,aW m)] br l p 0 from ((Rk.new h hB).cr rfl 214 (aW m) (by decide) (by decide)).cr (aX W _) 214 (aW (zK 0)) (by decide) (by decide));have c2:=K0.1.rg.c2;clear hO hm h hB;go_in;go_wp2_with fail;clear c2;generalize World.alloc (World.alloc W _) _=w1 at K0 ⊢;refine (nO K0.1.rg K0.1.bk.hb).mono ?_;intro e w2 hT;obtain ⟨a,x,f,z,q,er,rfl,hM,hB,hR,hv⟩:=hT.flat;have K2:=aa (K0.1.read hR hM hB);have V2:=aa hv;clear hT hM hB hR hv K0;go_wp2_with (first|((with_reducible refine gS 8 20 rfl ?_);refine sB (bF a x 0 f z.v) (K2.1.push 308 dx (by decide) (by decide)).bk.cE ?_;intro wz hW hG;have K3:=aa (show Rk base W wz [(w2.heap.size,308,bF a x 0 f z.v),(W.heap.size+1,214,aW (zK 0)),(W.heap.size,214,aW m)] br l q er from (K2.1.push 308 dx (by decide) (by decide)).set (l1:=[]) hG.1 hW.1))|((with_reducible refine az (N:=21) rfl ?_);refine lB K3.1.bk.eS Tryz.underlying214 ?_));refine (wO m HM.1 wz).mono ?_;rintro e w4 ⟨rfl,hB4⟩;have K4:=aa (K3.1.grow hB4);clear hB4 K3 K2;generalize w2.heap.size=tb at K4 ⊢;have c3:=K4.1.rg.c3;have ct:w4.cell? ⟨tb,1,none⟩=some (.int .u64 x):=cell_of K4.1.bk.cE 1;have hby:aq (l.drop p):=fun c hc=>K4.1.rg.Af c (bh hc);have htp:16≤oR m.k∧oR m.k≤32:=by unfold oR;split<;>omega
 have hO0:=HO.1;rw [Gj] at hO0;generalize oR m.k=tp at htp hO0 ⊢;have hwt:IntKind.u64.wrap tp=tp:=IntWalk.u64_in _ (by omega);rcases V2.1.var hby with ⟨her,hv⟩|⟨rfl,hv,hx0,hx1⟩
 ·have gb:(er != 0)=true:=by rw [mq];exact her
  have HO2:=aa (show none=o by rw [←hO0,hv];rfl);clear hv V2 hby HO hO0;go_wp2_with (first|((with_reducible refine az (N:=35) rfl ?_);refine lB K4.1.bk.eS Tryz.underlying214 ?_)|((with_reducible refine gS 4 35 rfl ?_);refine sB (aW m) K4.1.bk.fu ?_;intro wz hW hG;have KZ:=aa (K4.1.set (l1:=[_]) hG.1 hW.1)));refine gK KZ.1.bk.fu hu ?_;exact FR.no KZ.1 rfl HO2.1 (by decide)
 rw [hv,aj] at hO0;clear hv V2 hby HO;by_cases g:tp<x
 ·have gb:decide (tp<x)=true:=decide_eq_true g;rw [if_pos g] at hO0;have HO2:=aa hO0;clear hO0;go_wp2_with (first|((with_reducible refine az (N:=35) rfl ?_);refine lB K4.1.bk.eS Tryz.underlying214 ?_)|((with_reducible refine gS 4 35 rfl ?_);refine sB (aW m) K4.1.bk.fu ?_;intro wz hW hG;have KZ:=aa (K4.1.set (l1:=[_]) hG.1 hW.1)));refine gK KZ.1.bk.fu hu ?_;exact FR.no KZ.1 rfl HO2.1 (by decide)
 have gb:decide (tp<x)=false:=decide_eq_false g;rw [if_neg g] at hO0;obtain ⟨n,rfl⟩:=Int.eq_ofNat_of_zero_le hx0;have hn32:n≤32:=by omega
 have OL:=aa (show (ux m.key m.hi n none (l.drop q)).map (fun r'=>(m.key,m.hi,r'))=o from hO0);clear hO0 hx0 hx1 htp;go_wp2_with fail;clear c3 ct gb g hwt;go_loopw [7,10,11,12,13,14] (fun v7 v10 v11 v12 v13 v14 wr=>∃(i:Nat) (a7:Int) (ps:List iA) (p':Nat) (prev:Option Int),v7 = .int .i64 a7∧v11 = .int .i64 i∧i≤n∧af (Rk base W wr [(tb,308,bF a (n:Int) 0 f z.v),(W.heap.size+1,214,aW (zK 0)),(W.heap.size,214,aW m)] br l p' 0)∧af (Kd.R Ee 59 wr W.heap.size (fun _=>True) v10 ps)∧af (ps.length=i)∧af ((ux m.key m.hi (n - i) prev (l.drop p')).map (fun r'=>(m.key,m.hi,r'))=o)∧af (∀j,i=j+1→prev=some (cF ps (j:Int)).f0∧0≤(cF ps (j:Int)).f0∧(cF ps (j:Int)).f0≤18446744073709551615)∧af (i=0→prev=none)) (fun _ _ v _ _ _ _=>n - (intOf v).toNat)
 case atStart=>exact ⟨0,_,[],q,none,rfl,rfl,aI _,K4,⟨Kd.cY _ _ _ _ _⟩,⟨rfl⟩,OL,⟨fun j h=>by omega⟩,⟨fun _=>rfl⟩⟩
 case round=>
  obtain ⟨i,a7,ps,p',prev,rfl,rfl,hi,K,R,LN,OI,PV,PZ⟩:=hrel;clear K4 OL;generalize wr=wl at K R ⊢;obtain ⟨Ap,cp,rfl⟩:=Kd.aG R.1;have hwi:IntKind.u64.wrap (i:Int)=(i:Int):=IntWalk.u64_in _ (by omega);have ct:wl.cell? ⟨tb,1,none⟩=some (.int .u64 (n:Int)):=cell_of K.1.bk.cE 1;have HN32:=aa hn32;by_cases hin:i<n
  case neg=>
   have gb:decide ((i:Int)<(n:Int))=false:=decide_eq_false (by omega);have hni:¬(i:Int)<(n:Int):=by omega
   have O2:=aa (show some (m.key,m.hi,l.drop p')=o by rw [←OI.1,show n - i=0 by omega];rfl);clear OI PV PZ hi hin;go_wp2_with (first|((with_reducible refine gS 116 115 rfl ?_);refine sC 14 (.slice Ap ps.length cp) (aW { m with s14:=⟨Ap,ps.length,cp⟩ }) K.1.bk.eS ?_;intro wz hW hG;have K5:=aa (show Rk base W wz [(tb,308,bF a (n:Int) 0 f z.v),(W.heap.size+1,214,aW (zK 0)),(W.heap.size,214,(aW { m with s14:=⟨Ap,ps.length,cp⟩ }))] br l p' 0 from K.1.set (l1:=[_,_]) hG.1 hW.1))|((with_reducible refine az (N:=117) rfl ?_);refine lB K5.1.bk.eS Tryz.underlying214 ?_)|((with_reducible refine gS 4 117 rfl ?_);refine sB (aW { m with s14:=⟨Ap,ps.length,cp⟩ }) K5.1.bk.fu ?_;intro wz hW hG;have KZ:=aa (K5.1.set (l1:=[_]) hG.1 hW.1)));refine gK KZ.1.bk.fu hu ?_;exact FR.ok KZ.1 rfl O2.1
  have gb:decide ((i:Int)<(n:Int))=true:=decide_eq_true (by omega);have hni:(i:Int)<(n:Int):=by omega
  have c2:=K.1.rg.c2;go_wp2_with fail;clear ct c2 gb hni hwi;refine (nO K.1.rg K.1.bk.hb).mono ?_;intro e w5 hT;obtain ⟨a1,x1,f1,z1,q1,e1,rfl,hM,hB,hR,hv⟩:=hT.flat;have K5:=aa (K.1.read hR hM hB);have R5:=aa (j8 R.1 hM (by decide) (by decide));have V5:=aa hv;have hb1:aq (l.drop p'):=fun c hc=>K5.1.rg.Af c (bh hc);have HI:=aa hin;have hO1:=OI.1;rw [show n - i=(n - (i+1))+1 by omega,ux] at hO1;clear hT hM hB hR hv K R OI;rcases V5.1.var hb1 with ⟨her,hv⟩|⟨rfl,hv,hx0,hx1⟩
  ·have gb:(e1 != 0)=true:=by rw [mq];exact her
   have HO2:=aa (show none=o by rw [←hO1,hv];rfl);clear hv V5 hb1 hO1;go_wp2_with (first|((with_reducible refine gS 12 49 rfl ?_);refine sB (bF a1 x1 0 f1 z1.v) (K5.1.push 308 dx (by decide) (by decide)).bk.cE ?_;intro w6 hW hG;have K6:=aa (show Rk base W w6 [(w5.heap.size,308,bF a1 x1 0 f1 z1.v),(tb,308,bF a (n:Int) 0 f z.v),(W.heap.size+1,214,aW (zK 0)),(W.heap.size,214,aW m)] br l q1 e1 from (K5.1.push 308 dx (by decide) (by decide)).set (l1:=[]) hG.1 hW.1);have c3:=K6.1.rg.c3)|((with_reducible refine az (N:=55) rfl ?_);refine lB K6.1.bk.jJ Tryz.underlying214 ?_)|((with_reducible refine gS 4 55 rfl ?_);refine sB (aW m) K6.1.bk.eS ?_;intro wz hW hG;have KZ:=aa (K6.1.set (l1:=[_,_]) hG.1 hW.1)));refine gK KZ.1.bk.eS hu ?_;exact FR.no KZ.1 rfl HO2.1 (by decide)
  rw [hv,aj] at hO1;clear hv V5 hb1;rcases Nat.eq_zero_or_pos i with rfl|hip
  ·rw [PZ.1 rfl] at hO1;simp only [Option.map_none,Option.getD_none,reduceCtorEq,if_false] at hO1;have LW:=aa (And.intro HM.1.k0 HM.1.k1);clear PV PZ hi hin;by_cases g1:m.hi<m.key
   ·have g1b:decide (m.hi<m.key)=true:=decide_eq_true g1;rw [if_pos g1] at hO1;have HO2:=aa (show none=o from hO1);clear hO1;go_wp2_with (first|((with_reducible refine gS 12 49 rfl ?_);refine sB (bF a1 x1 0 f1 z1.v) (K5.1.push 308 dx (by decide) (by decide)).bk.cE ?_;intro w6 hW hG;have K6:=aa (show Rk base W w6 [(w5.heap.size,308,bF a1 x1 0 f1 z1.v),(tb,308,bF a (n:Int) 0 f z.v),(W.heap.size+1,214,aW (zK 0)),(W.heap.size,214,aW m)] br l q1 0 from (K5.1.push 308 dx (by decide) (by decide)).set (l1:=[]) hG.1 hW.1);have c3:=K6.1.rg.c3;have R6:=aa (j8 R5.1 ((Mv.alloc (Mv.refl [308] _) _).trans (Mv.bG hG.1 (K5.1.push 308 dx (by decide) (by decide)).bk.cE (by simp))) (by decide) (by decide));have ck:w6.cell? ⟨W.heap.size,2,none⟩=some (.int .u64 m.key):=cell_of K6.1.bk.jJ 2;have ch:w6.cell? ⟨W.heap.size,3,none⟩=some (.int .u64 m.hi):=cell_of K6.1.bk.jJ 3;have cg:w6.cell? ⟨w5.heap.size,1,none⟩=some (.int .u64 x1):=cell_of K6.1.bk.cE 1)|((with_reducible refine az (N:=90) rfl ?_);refine lB K6.1.bk.jJ Tryz.underlying214 ?_)|((with_reducible refine gS 4 90 rfl ?_);refine sB (aW m) K6.1.bk.eS ?_;intro wz hW hG;have KZ:=aa (K6.1.set (l1:=[_,_]) hG.1 hW.1)));refine gK KZ.1.bk.eS hu ?_;exact FR.no KZ.1 rfl HO2.1 (by decide)
   have g1b:decide (m.hi<m.key)=false:=decide_eq_false g1;rw [if_neg g1] at hO1;have hsub:IntKind.u64.wrap (m.hi - m.key)=m.hi - m.key:=IntWalk.u64_in _ (by have:=HM.1.h1;have:=LW.1;omega);by_cases g2:m.hi - m.key<x1
   ·have g2b:decide (m.hi - m.key<x1)=true:=decide_eq_true g2;rw [if_pos g2] at hO1;have HO2:=aa (show none=o from hO1);clear hO1;go_wp2_with (first|((with_reducible refine gS 12 49 rfl ?_);refine sB (bF a1 x1 0 f1 z1.v) (K5.1.push 308 dx (by decide) (by decide)).bk.cE ?_;intro w6 hW hG;have K6:=aa (show Rk base W w6 [(w5.heap.size,308,bF a1 x1 0 f1 z1.v),(tb,308,bF a (n:Int) 0 f z.v),(W.heap.size+1,214,aW (zK 0)),(W.heap.size,214,aW m)] br l q1 0 from (K5.1.push 308 dx (by decide) (by decide)).set (l1:=[]) hG.1 hW.1);have c3:=K6.1.rg.c3;have R6:=aa (j8 R5.1 ((Mv.alloc (Mv.refl [308] _) _).trans (Mv.bG hG.1 (K5.1.push 308 dx (by decide) (by decide)).bk.cE (by simp))) (by decide) (by decide));have ck:w6.cell? ⟨W.heap.size,2,none⟩=some (.int .u64 m.key):=cell_of K6.1.bk.jJ 2;have ch:w6.cell? ⟨W.heap.size,3,none⟩=some (.int .u64 m.hi):=cell_of K6.1.bk.jJ 3;have cg:w6.cell? ⟨w5.heap.size,1,none⟩=some (.int .u64 x1):=cell_of K6.1.bk.cE 1)|((with_reducible refine az (N:=90) rfl ?_);refine lB K6.1.bk.jJ Tryz.underlying214 ?_)|((with_reducible refine gS 4 90 rfl ?_);refine sB (aW m) K6.1.bk.eS ?_;intro wz hW hG;have KZ:=aa (K6.1.set (l1:=[_,_]) hG.1 hW.1)));refine gK KZ.1.bk.eS hu ?_;exact FR.no KZ.1 rfl HO2.1 (by decide)
   have g2b:decide (m.hi - m.key<x1)=false:=decide_eq_false g2;rw [if_neg g2] at hO1;have hsum:IntKind.u64.wrap (m.key+x1)=m.key+x1:=IntWalk.u64_in _ (by have:=HM.1.h1;have:=LW.1;omega);have NL:=aa (show 0≤m.key+x1∧m.key+x1≤18446744073709551615 by have:=HM.1.h1;have:=LW.1;omega);have O1:=aa hO1;clear hO1;go_wp2_with ((with_reducible refine gS 12 49 rfl ?_);refine sB (bF a1 x1 0 f1 z1.v) (K5.1.push 308 dx (by decide) (by decide)).bk.cE ?_;intro w6 hW hG;have K6:=aa (show Rk base W w6 [(w5.heap.size,308,bF a1 x1 0 f1 z1.v),(tb,308,bF a (n:Int) 0 f z.v),(W.heap.size+1,214,aW (zK 0)),(W.heap.size,214,aW m)] br l q1 0 from (K5.1.push 308 dx (by decide) (by decide)).set (l1:=[]) hG.1 hW.1);have c3:=K6.1.rg.c3;have R6:=aa (j8 R5.1 ((Mv.alloc (Mv.refl [308] _) _).trans (Mv.bG hG.1 (K5.1.push 308 dx (by decide) (by decide)).bk.cE (by simp))) (by decide) (by decide));have ck:w6.cell? ⟨W.heap.size,2,none⟩=some (.int .u64 m.key):=cell_of K6.1.bk.jJ 2;have ch:w6.cell? ⟨W.heap.size,3,none⟩=some (.int .u64 m.hi):=cell_of K6.1.bk.jJ 3;have cg:w6.cell? ⟨w5.heap.size,1,none⟩=some (.int .u64 x1):=cell_of K6.1.bk.cE 1;have c2:=K6.1.rg.c2);clear c3 ck ch cg;refine (nI 64 K6.1.rg K6.1.bk.hb (by decide)).mono ?_;intro e w7 hT;obtain ⟨a2,x2,f2,z2,q2,e2,rfl,hM,hB,hR,hv⟩:=hT.flat;have K7:=aa (K6.1.read hR hM hB);have R7:=aa (j8 R6.1 hM (by decide) (by decide));have V7:=aa hv;have L6:=aa (Kd.xz R6.1);have S6:=aa K6.1.bk.size;clear hT hM hB hR hv K5 R5 K6 R6;rcases V7.1.dI with ⟨her,hv⟩|⟨b,rfl,hv,hrow⟩
   ·have gb:(e2 != 0)=true:=by rw [mq];exact her
    have HO2:=aa (show none=o by rw [←O1.1,hv];rfl);clear hv V7 O1;go_wp2_with (first|((with_reducible refine gS 14 97 rfl ?_);refine sB (bF a2 x2 0 f2 z2.v) (K7.1.push 308 dx (by decide) (by decide)).bk.cE ?_;intro w8 hW hG;have K8:=aa (show Rk base W w8 [(w7.heap.size,308,bF a2 x2 0 f2 z2.v),(w5.heap.size,308,bF a1 x1 0 f1 z1.v),(tb,308,bF a (n:Int) 0 f z.v),(W.heap.size+1,214,aW (zK 0)),(W.heap.size,214,aW m)] br l q2 e2 from (K7.1.push 308 dx (by decide) (by decide)).set (l1:=[]) hG.1 hW.1);have c3:=K8.1.rg.c3)|((with_reducible refine az (N:=103) rfl ?_);refine lB K8.1.bk.wZ Tryz.underlying214 ?_)|((with_reducible refine gS 4 103 rfl ?_);refine sB (aW m) K8.1.bk.jJ ?_;intro wz hW hG;have KZ:=aa (K8.1.set (l1:=[_,_,_]) hG.1 hW.1)));refine gK KZ.1.bk.jJ hu ?_;exact FR.no KZ.1 rfl HO2.1 (by decide)
   obtain ⟨zA,zn,zc⟩:=z2;obtain rfl:zn=b.length:=(Kd.bI hrow).1;have O2:=aa (show Option.map (fun r'=>(m.key,m.hi,r')) (ux m.key m.hi (n - (0+1)) (some (m.key+x1)) (l.drop q2))=o by rw [←O1.1,hv];rfl);have RB7:=aa (show Kd.R (Kd.int .u8) 5 w7 w6.heap.size (fun _=>True) (.slice zA b.length zc) b from hrow);have O8:=aa (show ∀k,w6.heap.size≤k→True∧some k≠(Value.slice Ap ps.length cp).ownBlock from fun k hk=>⟨trivial,fun e=>by have:=L6.1 k e.symm;omega⟩);clear hv V7 O1 hrow;go_wp2_with (first|((with_reducible refine gS 14 97 rfl ?_);refine sB (bF a2 x2 0 f2 (.slice zA b.length zc)) (K7.1.push 308 dx (by decide) (by decide)).bk.cE ?_;intro w8 hW hG;have K8:=aa (show Rk base W w8 [(w7.heap.size,308,bF a2 x2 0 f2 (.slice zA b.length zc)),(w5.heap.size,308,bF a1 x1 0 f1 z1.v),(tb,308,bF a (n:Int) 0 f z.v),(W.heap.size+1,214,aW (zK 0)),(W.heap.size,214,aW m)] br l q2 0 from (K7.1.push 308 dx (by decide) (by decide)).set (l1:=[]) hG.1 hW.1);have c3:=K8.1.rg.c3;have MV8:=(Mv.alloc (Mv.refl [308] w7) (.cells dx 308)).trans (Mv.bG hG.1 (K7.1.push 308 dx (by decide) (by decide)).bk.cE (by simp));have R8:=aa (j8 R7.1 MV8 (by decide) (by decide));have RB8:=uu RB7.1 MV8 (by decide);have M8:=aa (kT w8 W.heap.size (fun k=>w6.heap.size≤k) ⟨m.key+x1,b⟩ (Kd.cI (Kd.bZ (Kd.bS RB8) (fun k hk=>hk.2.1)) S6.1));have cv:w8.cell? ⟨w7.heap.size,4,none⟩=some (.slice zA b.length zc):=cell_of K8.1.bk.cE 4;have cg:w8.cell? ⟨w5.heap.size,1,none⟩=some (.int .u64 x1):=cell_of K8.1.bk.fu 1;clear MV8 RB8)|((with_reducible refine aM (b:= .append) (xs:=#[.tmp 105, .tmp 113]) rfl ?_);at_builtin;refine Kd.cG Ee (w0:=w8) W.heap.size rfl (.tmp 105) (.tmp 113) 24 59 (.agg #[.int .u64 0, .slice none 0 0]) 32 rfl Tryz.underlying24 lE rfl (by decide) (by omega) (.slice Ap ps.length cp) ps ⟨m.key+x1,b⟩ [.int .u64 (m.key+x1), .slice zA b.length zc] (fun _=>True) (fun k=>w6.heap.size≤k) rfl rfl M8.1 O8.1 (fun _ _=>trivial) R8.1 (Below.refl _ _) K8.1.bk.size (by have:=LN.1;have:=HN32.1;have:=HI.1;omega) ?_;intro v1 w9 h1 h2 h3 h4;have K9:=aa ((K8.1.row' h3 R8.1 (Nat.le_refl _) rfl (by decide) (by decide)).tail.tail);have R9:=aa h1;clear h1 h2 h3 h4));go_roundw
   case rel=>exact ⟨0+1,_,ps++[⟨m.key+x1,b⟩],q2,some (m.key+x1),rfl,rfl,by have:=HI.1;omega,K9,R9,⟨by rw [List.length_append,LN.1];rfl⟩,O2,⟨fun j' hj'=>by
    obtain rfl:j'=0:=by omega
    rw [sJ ps _ _ LN.1];exact ⟨rfl,NL.1.1,NL.1.2⟩⟩,⟨fun h=>by omega⟩⟩
   case measure=>
    simp only [intOf];have:=HI.1;simp;omega
  obtain ⟨j,rfl⟩:∃j,i=j+1:=⟨i - 1,by omega⟩;obtain ⟨hp,hy0,hy1⟩:=PV.1 j rfl;obtain ⟨ad,A9,c9,rfl, -, -, -, -⟩:=iG (Kd.bI R5.1).2.2 (j:Int) (by omega) (by have:=LN.1;omega);have CY:=aa (fun (w':World) (hr:Kd.R Ee 59 w' W.heap.size (fun _=>True) (.slice (some ad) ps.length cp) ps)=>(show w'.cell? (ad.add (j*2))=some (.int .u64 (cF ps (j:Int)).f0) from by
   obtain ⟨ad',A9,c9,e9,m0, -, -, -⟩:=iG (Kd.bI hr).2.2 (j:Int) (by omega) (by have:=LN.1;omega);injection e9 with e9;subst e9;exact m0))
  rw [hp] at hO1;generalize (cF ps (j:Int)).f0=y at hO1 hy0 hy1 CY;simp only [dh,Option.getD_some,bP] at hO1;have hwj:wrap64 (j:Int)=(j:Int):=IntWalk.wrap64_in _ (by omega);have HJJ:=aa (show wrap64 ((j:Int)+1+1)=(j:Int)+1+1 from IntWalk.wrap64_in _ (by omega));have hwj2:IntKind.i64.wrap (j:Int)=(j:Int):=aA _ (by omega);have hjl:(j:Int)<((ps.length:Nat):Int):=by have:=LN.1;omega
  have hjp:(0:Int)<((j+1:Nat):Int):=by omega
  have HI:=aa hin;clear PV PZ hp hi hin;by_cases g0:y=18446744073709551615
  ·have g0b:(y == 18446744073709551615)=true:=by rw [gw];exact g0
   rw [if_pos g0] at hO1;have HO2:=aa (show none=o from hO1);clear hO1;go_wp2_with (first|((with_reducible refine gS 12 49 rfl ?_);refine sB (bF a1 x1 0 f1 z1.v) (K5.1.push 308 dx (by decide) (by decide)).bk.cE ?_;intro w6 hW hG;have K6:=aa (show Rk base W w6 [(w5.heap.size,308,bF a1 x1 0 f1 z1.v),(tb,308,bF a (n:Int) 0 f z.v),(W.heap.size+1,214,aW (zK 0)),(W.heap.size,214,aW m)] br l q1 0 from (K5.1.push 308 dx (by decide) (by decide)).set (l1:=[]) hG.1 hW.1);have c3:=K6.1.rg.c3;have R6:=aa (j8 R5.1 ((Mv.alloc (Mv.refl [308] _) _).trans (Mv.bG hG.1 (K5.1.push 308 dx (by decide) (by decide)).bk.cE (by simp))) (by decide) (by decide));have ck:w6.cell? ⟨W.heap.size,2,none⟩=some (.int .u64 m.key):=cell_of K6.1.bk.jJ 2;have ch:w6.cell? ⟨W.heap.size,3,none⟩=some (.int .u64 m.hi):=cell_of K6.1.bk.jJ 3;have cg:w6.cell? ⟨w5.heap.size,1,none⟩=some (.int .u64 x1):=cell_of K6.1.bk.cE 1;have m0:=CY.1 w6 R6.1)|((with_reducible refine az (N:=75) rfl ?_);refine lB K6.1.bk.jJ Tryz.underlying214 ?_)|((with_reducible refine gS 4 75 rfl ?_);refine sB (aW m) K6.1.bk.eS ?_;intro wz hW hG;have KZ:=aa (K6.1.set (l1:=[_,_]) hG.1 hW.1)));refine gK KZ.1.bk.eS hu ?_;exact FR.no KZ.1 rfl HO2.1 (by decide)
  have g0b:(y == 18446744073709551615)=false:=by rw [bi];exact g0
  rw [if_neg g0] at hO1;have hsy:IntKind.u64.wrap (y+1)=y+1:=IntWalk.u64_in _ (by omega);have LW:=aa (show 0≤y+1∧y+1≤18446744073709551615 by omega);by_cases g1:m.hi<(y+1)
  ·have g1b:decide (m.hi<(y+1))=true:=decide_eq_true g1;rw [if_pos g1] at hO1;have HO2:=aa (show none=o from hO1);clear hO1;go_wp2_with (first|((with_reducible refine gS 12 49 rfl ?_);refine sB (bF a1 x1 0 f1 z1.v) (K5.1.push 308 dx (by decide) (by decide)).bk.cE ?_;intro w6 hW hG;have K6:=aa (show Rk base W w6 [(w5.heap.size,308,bF a1 x1 0 f1 z1.v),(tb,308,bF a (n:Int) 0 f z.v),(W.heap.size+1,214,aW (zK 0)),(W.heap.size,214,aW m)] br l q1 0 from (K5.1.push 308 dx (by decide) (by decide)).set (l1:=[]) hG.1 hW.1);have c3:=K6.1.rg.c3;have R6:=aa (j8 R5.1 ((Mv.alloc (Mv.refl [308] _) _).trans (Mv.bG hG.1 (K5.1.push 308 dx (by decide) (by decide)).bk.cE (by simp))) (by decide) (by decide));have ck:w6.cell? ⟨W.heap.size,2,none⟩=some (.int .u64 m.key):=cell_of K6.1.bk.jJ 2;have ch:w6.cell? ⟨W.heap.size,3,none⟩=some (.int .u64 m.hi):=cell_of K6.1.bk.jJ 3;have cg:w6.cell? ⟨w5.heap.size,1,none⟩=some (.int .u64 x1):=cell_of K6.1.bk.cE 1;have m0:=CY.1 w6 R6.1)|((with_reducible refine az (N:=90) rfl ?_);refine lB K6.1.bk.jJ Tryz.underlying214 ?_)|((with_reducible refine gS 4 90 rfl ?_);refine sB (aW m) K6.1.bk.eS ?_;intro wz hW hG;have KZ:=aa (K6.1.set (l1:=[_,_]) hG.1 hW.1)));refine gK KZ.1.bk.eS hu ?_;exact FR.no KZ.1 rfl HO2.1 (by decide)
  have g1b:decide (m.hi<(y+1))=false:=decide_eq_false g1;rw [if_neg g1] at hO1;have hsub:IntKind.u64.wrap (m.hi - (y+1))=m.hi - (y+1):=IntWalk.u64_in _ (by have:=HM.1.h1;have:=LW.1;omega);by_cases g2:m.hi - (y+1)<x1
  ·have g2b:decide (m.hi - (y+1)<x1)=true:=decide_eq_true g2;rw [if_pos g2] at hO1;have HO2:=aa (show none=o from hO1);clear hO1;go_wp2_with (first|((with_reducible refine gS 12 49 rfl ?_);refine sB (bF a1 x1 0 f1 z1.v) (K5.1.push 308 dx (by decide) (by decide)).bk.cE ?_;intro w6 hW hG;have K6:=aa (show Rk base W w6 [(w5.heap.size,308,bF a1 x1 0 f1 z1.v),(tb,308,bF a (n:Int) 0 f z.v),(W.heap.size+1,214,aW (zK 0)),(W.heap.size,214,aW m)] br l q1 0 from (K5.1.push 308 dx (by decide) (by decide)).set (l1:=[]) hG.1 hW.1);have c3:=K6.1.rg.c3;have R6:=aa (j8 R5.1 ((Mv.alloc (Mv.refl [308] _) _).trans (Mv.bG hG.1 (K5.1.push 308 dx (by decide) (by decide)).bk.cE (by simp))) (by decide) (by decide));have ck:w6.cell? ⟨W.heap.size,2,none⟩=some (.int .u64 m.key):=cell_of K6.1.bk.jJ 2;have ch:w6.cell? ⟨W.heap.size,3,none⟩=some (.int .u64 m.hi):=cell_of K6.1.bk.jJ 3;have cg:w6.cell? ⟨w5.heap.size,1,none⟩=some (.int .u64 x1):=cell_of K6.1.bk.cE 1;have m0:=CY.1 w6 R6.1)|((with_reducible refine az (N:=90) rfl ?_);refine lB K6.1.bk.jJ Tryz.underlying214 ?_)|((with_reducible refine gS 4 90 rfl ?_);refine sB (aW m) K6.1.bk.eS ?_;intro wz hW hG;have KZ:=aa (K6.1.set (l1:=[_,_]) hG.1 hW.1)));refine gK KZ.1.bk.eS hu ?_;exact FR.no KZ.1 rfl HO2.1 (by decide)
  have g2b:decide (m.hi - (y+1)<x1)=false:=decide_eq_false g2;rw [if_neg g2] at hO1;have hsum:IntKind.u64.wrap ((y+1)+x1)=(y+1)+x1:=IntWalk.u64_in _ (by have:=HM.1.h1;have:=LW.1;omega);have NL:=aa (show 0≤(y+1)+x1∧(y+1)+x1≤18446744073709551615 by have:=HM.1.h1;have:=LW.1;omega);have O1:=aa hO1;clear hO1;go_wp2_with ((with_reducible refine gS 12 49 rfl ?_);refine sB (bF a1 x1 0 f1 z1.v) (K5.1.push 308 dx (by decide) (by decide)).bk.cE ?_;intro w6 hW hG;have K6:=aa (show Rk base W w6 [(w5.heap.size,308,bF a1 x1 0 f1 z1.v),(tb,308,bF a (n:Int) 0 f z.v),(W.heap.size+1,214,aW (zK 0)),(W.heap.size,214,aW m)] br l q1 0 from (K5.1.push 308 dx (by decide) (by decide)).set (l1:=[]) hG.1 hW.1);have c3:=K6.1.rg.c3;have R6:=aa (j8 R5.1 ((Mv.alloc (Mv.refl [308] _) _).trans (Mv.bG hG.1 (K5.1.push 308 dx (by decide) (by decide)).bk.cE (by simp))) (by decide) (by decide));have ck:w6.cell? ⟨W.heap.size,2,none⟩=some (.int .u64 m.key):=cell_of K6.1.bk.jJ 2;have ch:w6.cell? ⟨W.heap.size,3,none⟩=some (.int .u64 m.hi):=cell_of K6.1.bk.jJ 3;have cg:w6.cell? ⟨w5.heap.size,1,none⟩=some (.int .u64 x1):=cell_of K6.1.bk.cE 1;have m0:=CY.1 w6 R6.1;have c2:=K6.1.rg.c2);clear c3 ck ch cg;refine (nI 64 K6.1.rg K6.1.bk.hb (by decide)).mono ?_;intro e w7 hT;obtain ⟨a2,x2,f2,z2,q2,e2,rfl,hM,hB,hR,hv⟩:=hT.flat;have K7:=aa (K6.1.read hR hM hB);have R7:=aa (j8 R6.1 hM (by decide) (by decide));have V7:=aa hv;have L6:=aa (Kd.xz R6.1);have S6:=aa K6.1.bk.size;clear hT hM hB hR hv K5 R5 K6 R6;rcases V7.1.dI with ⟨her,hv⟩|⟨b,rfl,hv,hrow⟩
  ·have gb:(e2 != 0)=true:=by rw [mq];exact her
   have HO2:=aa (show none=o by rw [←O1.1,hv];rfl);clear hv V7 O1;go_wp2_with (first|((with_reducible refine gS 14 97 rfl ?_);refine sB (bF a2 x2 0 f2 z2.v) (K7.1.push 308 dx (by decide) (by decide)).bk.cE ?_;intro w8 hW hG;have K8:=aa (show Rk base W w8 [(w7.heap.size,308,bF a2 x2 0 f2 z2.v),(w5.heap.size,308,bF a1 x1 0 f1 z1.v),(tb,308,bF a (n:Int) 0 f z.v),(W.heap.size+1,214,aW (zK 0)),(W.heap.size,214,aW m)] br l q2 e2 from (K7.1.push 308 dx (by decide) (by decide)).set (l1:=[]) hG.1 hW.1);have c3:=K8.1.rg.c3)|((with_reducible refine az (N:=103) rfl ?_);refine lB K8.1.bk.wZ Tryz.underlying214 ?_)|((with_reducible refine gS 4 103 rfl ?_);refine sB (aW m) K8.1.bk.jJ ?_;intro wz hW hG;have KZ:=aa (K8.1.set (l1:=[_,_,_]) hG.1 hW.1)));refine gK KZ.1.bk.jJ hu ?_;exact FR.no KZ.1 rfl HO2.1 (by decide)
  obtain ⟨zA,zn,zc⟩:=z2;obtain rfl:zn=b.length:=(Kd.bI hrow).1;have O2:=aa (show Option.map (fun r'=>(m.key,m.hi,r')) (ux m.key m.hi (n - ((j+1)+1)) (some ((y+1)+x1)) (l.drop q2))=o by rw [←O1.1,hv];rfl);have RB7:=aa (show Kd.R (Kd.int .u8) 5 w7 w6.heap.size (fun _=>True) (.slice zA b.length zc) b from hrow);have O8:=aa (show ∀k,w6.heap.size≤k→True∧some k≠(Value.slice (some ad) ps.length cp).ownBlock from fun k hk=>⟨trivial,fun e=>by have:=L6.1 k e.symm;omega⟩);clear hv V7 O1 hrow;go_wp2_with (first|((with_reducible refine gS 14 97 rfl ?_);refine sB (bF a2 x2 0 f2 (.slice zA b.length zc)) (K7.1.push 308 dx (by decide) (by decide)).bk.cE ?_;intro w8 hW hG;have K8:=aa (show Rk base W w8 [(w7.heap.size,308,bF a2 x2 0 f2 (.slice zA b.length zc)),(w5.heap.size,308,bF a1 x1 0 f1 z1.v),(tb,308,bF a (n:Int) 0 f z.v),(W.heap.size+1,214,aW (zK 0)),(W.heap.size,214,aW m)] br l q2 0 from (K7.1.push 308 dx (by decide) (by decide)).set (l1:=[]) hG.1 hW.1);have c3:=K8.1.rg.c3;have MV8:=(Mv.alloc (Mv.refl [308] w7) (.cells dx 308)).trans (Mv.bG hG.1 (K7.1.push 308 dx (by decide) (by decide)).bk.cE (by simp));have R8:=aa (j8 R7.1 MV8 (by decide) (by decide));have RB8:=uu RB7.1 MV8 (by decide);have M8:=aa (kT w8 W.heap.size (fun k=>w6.heap.size≤k) ⟨(y+1)+x1,b⟩ (Kd.cI (Kd.bZ (Kd.bS RB8) (fun k hk=>hk.2.1)) S6.1));have cv:w8.cell? ⟨w7.heap.size,4,none⟩=some (.slice zA b.length zc):=cell_of K8.1.bk.cE 4;have cg:w8.cell? ⟨w5.heap.size,1,none⟩=some (.int .u64 x1):=cell_of K8.1.bk.fu 1;clear MV8 RB8)|((with_reducible refine aM (b:= .append) (xs:=#[.tmp 105, .tmp 113]) rfl ?_);at_builtin;refine Kd.cG Ee (w0:=w8) W.heap.size rfl (.tmp 105) (.tmp 113) 24 59 (.agg #[.int .u64 0, .slice none 0 0]) 32 rfl Tryz.underlying24 lE rfl (by decide) (by omega) (.slice (some ad) ps.length cp) ps ⟨(y+1)+x1,b⟩ [.int .u64 ((y+1)+x1), .slice zA b.length zc] (fun _=>True) (fun k=>w6.heap.size≤k) rfl rfl M8.1 O8.1 (fun _ _=>trivial) R8.1 (Below.refl _ _) K8.1.bk.size (by have:=LN.1;have:=HN32.1;have:=HI.1;omega) ?_;intro v1 w9 h1 h2 h3 h4;have K9:=aa ((K8.1.row' h3 R8.1 (Nat.le_refl _) rfl (by decide) (by decide)).tail.tail);have R9:=aa h1;clear h1 h2 h3 h4));simp only [HJJ.1];go_roundw
  case rel=>exact ⟨(j+1)+1,_,ps++[⟨(y+1)+x1,b⟩],q2,some ((y+1)+x1),rfl,rfl,by have:=HI.1;omega,K9,R9,⟨by rw [List.length_append,LN.1];rfl⟩,O2,⟨fun j' hj'=>by
   obtain rfl:j'=(j+1):=by omega
   rw [sJ ps _ _ LN.1];exact ⟨rfl,NL.1.1,NL.1.2⟩⟩,⟨fun h=>by omega⟩⟩
  case measure=>
   simp only [intOf];exact Dh HI.1
end Go.Proofs.YtpekmdpbfjdjkaaGreat.ref