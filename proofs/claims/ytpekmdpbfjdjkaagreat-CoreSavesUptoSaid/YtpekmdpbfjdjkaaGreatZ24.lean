/- Part 24 of the proof that a state's bytes are the document's. No condition. -/
import Derived.Test.YtpekmdpbfjdjkaaGreatZ23
set_option maxHeartbeats 16000000
set_option maxRecDepth 100000
set_option linter.all false
namespace Go.Proofs.YtpekmdpbfjdjkaaGreat.ref
open Go Go.RowKit ag.ax ag.aV ag.aU aD fr iK cL plain fE dO
theorem oH {P:Program} {ops:Array Oper} {rest:List Oper} {o:Oper} {a:Act} {Q:Exit→Act→World→Prop} {W:World} (hN:o.dst=none) (hgd:o.guard=none) {t:TypeId} {p x:Operand} (ho:o.op = .store t p x) {g j:Nat} {cur:Array Value} {e:TypeId} {u:Value} (seg:List Value)
 (haddr:a.eval p = .pointer (some ⟨g,j,none⟩)) (hx:a.eval x=u) (hh:W.heap[g]? = some (.cells cur e (0,0))) (hu:u.cells.toList=seg) (ht:(P.info? t).map (·.size)=some seg.length) (hfit:j+seg.length≤cur.size) (h1:∀q∈seg,q.oneCell'=true)
 (h:∀W1,(∃cur',W1.heap[g]? = some (.cells cur' e (0,0))∧cur'.size=cur.size)→W.grownBy W1 (some g)→wpList P ops Q rest a W1):wpList P ops Q (o::rest) a W:=by
 refine fm hgd fun K hK=>?_;have hrun:(Instr.storeAt t (.pointer (some ⟨g,j,none⟩)) u).run P W = .ok () (W.setCells g j seg):=fy t u seg hh hu ht hfit h1;unfold Oper.wp execOp;simp only [ho,haddr,hx,Sem.run_bind,Sem.run_pure,Result.andThen_ok,hrun];show K (a.put o.dst undef) _;rw [hN];refine hK _ _ (h _ ⟨(cur.toList.take j++seg++cur.toList.drop (j+seg.length)).toArray,je hh hfit rfl,?_⟩ (fK W g j seg));simp;omega
def vC (self:Nat):Nat→List gX→Bool
 | _,[]=>true
 | i,x::r=>if i=self then (if tj x=true then vC self (i+1) r else false) else if AS x=true then vC self (i+1) r else false
def zU (self:Nat) (l:List gX):Bool:=if l.length<1∨16<l.length∨l.length≤self then false else vC self 0 l
structure zd (W w:World) (sb b P0 cap:Nat) (A:Option Addr) (n c:Nat) (ec:Array Value):Prop where
 bel:Below W.heap.size W w
 bx:w.heap[sb]? = some (.cells #[.slice A n c] 28 (0,0))
 be:w.heap[b]? = some (.cells ec 192 (0,0))
 row:∃cur,w.heap[P0]? = some (.cells cur 68 (0,0))∧cur.size=cap*6
theorem zd.below {W w w':World} {sb b P0 cap n c:Nat} {A:Option Addr} {ec:Array Value} (h:zd W w sb b P0 cap A n c ec) (hb:Below w.heap.size w w'):zd W w' sb b P0 cap A n c ec:=
 ⟨h.bel.trans (hb.mono h.bel.size),(hb.block sb (ak h.bx)).trans h.bx,(hb.block b (ak h.be)).trans h.be,by
  obtain ⟨cur,h1,h2⟩:=h.row;exact ⟨cur,(hb.block P0 (ak h1)).trans h1,h2⟩⟩
theorem zd.set {W w w':World} {sb b P0 cap n c:Nat} {A:Option Addr} {ec:Array Value} (h:zd W w sb b P0 cap A n c ec) (hG:w.grownBy w' (some P0)) (hr:∃cur,w'.heap[P0]? = some (.cells cur 68 (0,0))∧cur.size=cap*6) (hg:W.heap.size≤P0) (n1:P0≠sb) (n2:P0≠b):zd W w' sb b P0 cap A n c ec:=
 ⟨bt h.bel hG hg,(hG.block sb (ak h.bx) (fun e=>n1 (by injection e with e;exact e.symm))).trans h.bx,(hG.block b (ak h.be) (fun e=>n2 (by injection e with e;exact e.symm))).trans h.be,hr⟩
theorem Ce (self:Nat) (l:List gX) (A:Option Addr) (c:Nat) (W:World) (hs:self≤255) (hC:Kd.C ld W A l.length l) (hc:l.length≤c) (hL:l.length≤10000000) (hP:∀x∈l,qQ x) :
 Calls Tryz.prog 60 #[.int .i64 self, .int .i64 l.length, .int .i64 16, .int .i64 16, .agg #[.slice A l.length c]] W (qP W (zU self l)):=by
 have hu68:=Tryz.underlying68;have hu28:=Tryz.underlying28;have HC:=aa hC;have HP:=aa hP;generalize hO:zU self l=o;unfold zU at hO;have HO:=aa hO;clear hO hC hP;by_cases g:l.length<1∨16<l.length∨l.length≤self
 ·have HO2:=aa (show false=o by rw [←HO.1,if_pos g]);have NB:=aa (yo self l.length hs (W.alloc (.cells #[.slice A l.length c] 28)) g);have B1:=aa (ah (Below.refl _ W) (.cells #[.slice A l.length c] 28));clear HO g hs;go_in;go_wp2_with fail;generalize World.alloc W _=W1 at NB B1 ⊢;refine NB.1.mono ?_;rintro e w2 ⟨⟨v,rfl⟩,hB⟩;have B2:=aa (B1.1.trans (hB.mono B1.1.size));clear hB NB B1;go_wp2_with fail;go_ret2;exact qP.no HO2.1 (by decide) B2.1
 have g1:1≤l.length:=by omega
 have g2:l.length≤16:=by omega
 have g3:self<l.length:=by omega
 have HO2:=aa (show vC self 0 l=o by rw [←HO.1,if_neg g]);have NB:=aa (uW self l.length (W.alloc (.cells #[.slice A l.length c] 28)) g1 g2 g3);have B1:=aa (ah (Below.refl _ W) (.cells #[.slice A l.length c] 28));have X1:=aa (aJ W (.cells #[.slice A l.length c] 28));have SZ:=aa (show W.heap.size<(W.alloc (.cells #[.slice A l.length c] 28)).heap.size from ak X1.1);clear HO g hs g2;go_in;go_wp2_with fail;generalize World.alloc W _=W1 at NB B1 X1 SZ ⊢;refine NB.1.mono ?_;rintro e w2 ⟨b,v,rfl,hb,hbW,hR,hB⟩;obtain ⟨inner,_,⟨_,h0⟩|⟨P0,cap,cur,rfl,hg0,hh,hn,_,hsz,_⟩⟩:=Kd.kB hR
 ·rw [ey] at h0;omega
 have hne:=hR.1 P0 rfl;rw [ey] at hb hn;rw [ey] at hR;have NE:=aa (show P0≠b from hne);have NS:=aa (show P0≠W.heap.size by have:=SZ.1;omega);have GP:=aa (show W.heap.size≤P0 by have:=SZ.1;omega);have CN:=aa hn;have I2:=aa (zd.mk (B1.1.trans (hB.mono B1.1.size)) ((hB.block W.heap.size SZ.1).trans X1.1) hb ⟨cur,hh,hsz⟩);clear hb hbW hR hB hg0 hh hn hsz hne NB B1 X1 SZ;generalize W.heap.size=sb at NS I2 ⊢;have x00:w2.cell? ⟨sb,0,none⟩=some (.slice A l.length c):=cell_of I2.1.bx 0;go_wp2_with fail;clear x00;go_loopw [14] (fun v14 wr=>∃i:Nat,i≤l.length∧v14 = .int .i64 i∧af (vC self i (l.drop i)=o)∧af (zd W wr sb b P0 cap A l.length c #[.bool true, .int .i64 (self:Int), .int .i64 (l.length:Int), .int .i64 16, .int .i64 16, .slice (some ⟨P0,0,none⟩) l.length cap])) (fun v _=>l.length - (intOf v).toNat)
 case atStart=>exact ⟨0,aI _,rfl,HO2,I2⟩
 case round=>
  obtain ⟨i,hi,rfl,J0,IW⟩:=hrel;clear HO2 I2;have x0:wr.cell? ⟨sb,0,none⟩=some (.slice A l.length c):=cell_of IW.1.bx 0;by_cases hlt:i<l.length
  case neg=>
   have HO4:=aa (show true=o by have J:=J0.1;rw [List.drop_eq_nil_of_le (by omega),vC] at J;exact J);go_wp2_with fail;go_ret2;exact qP.ok HO4.1 IW.1.bel
  obtain ⟨ad,X2,d2,X5,d5,e1,m0,m1,m2,m3,m4,m5,l2,C2,l5,C5⟩:=jY (Kd.aN HC.1 IW.1.bel) (i:Int) (by omega) (by omega);subst e1;simp only [Int.toNat_natCast] at m0 m1 m2 m3 m4 m5 C2 C5;have hrd:cN l (i:Int)=l[i]:=by simp [cN,List.getD_eq_getElem?_getD,hlt]
  have PO:=aa (HP.1 _ (hrd▸List.getElem_mem hlt:cN l (i:Int)∈l));have J:=J0.1;rw [ap hlt,vC,←hrd] at J;generalize cN l (i:Int)=x at m0 m1 m2 m3 m4 m5 l2 C2 l5 C5 PO J;have J1:=aa J;have ZC:=aa (Cw x X2 X5 d2 d5 wr);unfold ew at ZC;have RC:=aa (zv b self l.length (.slice (some ⟨P0,0,none⟩) l.length cap) x X2 X5 d2 d5 wr IW.1.be C2 l2 C5 l5 PO.1);have TC:=aa (fun (W':World) (h:Below wr.heap.size wr W')=>wy x X2 X5 d2 d5 W' (Kd.aN C2 h) (Kd.aN C5 h) PO.1.toxA);unfold ew at TC;have MM:=aa (fun (W':World) (h:Below wr.heap.size wr W')=>And.intro (an h m0) (And.intro (an h m1) (And.intro (an h m2) (And.intro (an h m3) (And.intro (an h m4) (an h m5))))));have hn64:wrap64 ((i:Int)+1)=((i+1:Nat):Int):=IntWalk.wrap64_in _ (by omega);have HN:=aa hn64;clear J J0 hrd C2 C5 PO hn64;by_cases hs:i=self
  ·have hs1:((i:Int) == (self:Int))=true:=by rw [gw];omega
   have hs2:((i:Int) != (self:Int))=false:=by rw [ci];omega
   have HS:=aa hs;clear hs;go_wp2_with fail;refine ZC.1.mono ?_;rintro e w4 ⟨rfl,hB4⟩;have I4:=aa (IW.1.below hB4);have B4:=aa hB4;clear hB4 x0 m0 m1 m2 m3 m4 m5 ZC RC IW;cases hz:tj x with
   | false=>
    have HO4:=aa (show false=o by have J:=J1.1;rw [if_pos HS.1,hz] at J;exact J);clear J1 hz;go_wp2_with fail;go_ret2;exact qP.no HO4.1 (by decide) (ah I4.1.bel _)
   | true=>
    have HO4:=aa (show vC self (i+1) (l.drop (i+1))=o by have J:=J1.1;rw [if_pos HS.1,hz] at J;exact J);clear J1 hz;go_wp2_with fail;refine bl (fun W'=>W'.heap[b]? = some (.cells #[.bool true, .int .i64 (self:Int), .int .i64 (l.length:Int), .int .i64 16, .int .i64 16, .slice (some ⟨P0,0,none⟩) l.length cap] 192 (0,0))∧W'.heap[sb]? = some (.cells #[.slice (some ad) l.length c] 28 (0,0))∧Below wr.heap.size wr W') 11 [(0,0),(1,0),(2,0),(3,1),(4,0),(5,0),(6,1),(7,0),(8,0),(9,1),(10,2)] (by kernel_rfl) (by kernel_rfl) (fun _ _ _ _ _ h=>h) ⟨I4.1.be,I4.1.bx,B4.1.drew⟩ ?_;iterate 3 (refine eF ?_;simp only [cS,Act.put])
    (refine aQ (v:=?_) rfl rfl ?_ ?_;rotate_left 1;(focus (intro W' hSw;have M:=MM.1 W' hSw.2.2;have q5:W'.cell? ⟨b,5,none⟩=some (.slice (some ⟨P0,0,none⟩) l.length cap):=cell_of hSw.1 5;have q0:W'.cell? ⟨sb,0,none⟩=some (.slice (some ad) l.length c):=cell_of hSw.2.1 0;have n0:=M.1;have n1:=M.2.1;have n2:=M.2.2.1;have n3:=M.2.2.2.1;have n4:=M.2.2.2.2.1;have n5:=M.2.2.2.2.2;clear hSw M;go_simp;try (with_reducible rfl)));simp only [cS,Act.put]);iterate 2 (refine eF ?_;simp only [cS,Act.put])
    (refine aQ (v:=?_) rfl rfl ?_ ?_;rotate_left 1;(focus (intro W' hSw;have M:=MM.1 W' hSw.2.2;have q5:W'.cell? ⟨b,5,none⟩=some (.slice (some ⟨P0,0,none⟩) l.length cap):=cell_of hSw.1 5;have q0:W'.cell? ⟨sb,0,none⟩=some (.slice (some ad) l.length c):=cell_of hSw.2.1 0;have n0:=M.1;have n1:=M.2.1;have n2:=M.2.2.1;have n3:=M.2.2.2.1;have n4:=M.2.2.2.2.1;have n5:=M.2.2.2.2.2;clear hSw M;go_simp;try (with_reducible rfl)));simp only [cS,Act.put]);iterate 2 (refine eF ?_;simp only [cS,Act.put])
    (refine aQ (v:=?_) rfl rfl ?_ ?_;rotate_left 1;(focus (intro W' hSw;have M:=MM.1 W' hSw.2.2;have q5:W'.cell? ⟨b,5,none⟩=some (.slice (some ⟨P0,0,none⟩) l.length cap):=cell_of hSw.1 5;have q0:W'.cell? ⟨sb,0,none⟩=some (.slice (some ad) l.length c):=cell_of hSw.2.1 0;have n0:=M.1;have n1:=M.2.1;have n2:=M.2.2.1;have n3:=M.2.2.2.1;have n4:=M.2.2.2.2.1;have n5:=M.2.2.2.2.2;clear hSw M;go_simp;try (with_reducible rfl)));simp only [cS,Act.put]);refine aT rfl ?_;go_wp2_with fail;refine (TC.1 _ B4.1.drew).mono ?_;rintro e w5 ⟨vq,ve,rfl,hSq,hSe,hB5⟩;obtain ⟨Aq,cq,rfl⟩:=Kd.aG hSq;obtain ⟨Ae,ce,rfl⟩:=Kd.aG hSe;have I5:=aa ((I4.1.below (Below.refl _ _).drew).below hB5);have B5:=aa (B4.1.drew.trans (hB5.mono B4.1.drew.size));clear hSq hSe hB5 I4 B4;go_wp2_with fail;refine bB.mk ⟨I5.1.be,I5.1.bx,B5.1⟩ (fun hSw=>?_);clear hSw;refine bC ?_;simp only [aC,List.drop_zero];obtain ⟨cur,hrow,hsz⟩:=I5.1.row;have hfit:i*6+6≤cur.size:=by have:=CN.1;omega
    have HR5:=aa hrow;have HZ5:=aa hsz;have HF5:=aa hfit;clear hrow hsz hfit;go_wp2_with ((with_reducible refine gS 79 78 rfl ?_);refine oH (t:=68) (p:= .tmp 79) (x:= .tmp 78) (u:= .agg #[.int .u64 x.f0, .int .u64 x.f1, .slice Aq x.f2.length cq, .int .u64 x.f3, .int .u64 x.f4, .slice Ae x.f5.length ce]) rfl rfl rfl [.int .u64 x.f0, .int .u64 x.f1, .slice Aq x.f2.length cq, .int .u64 x.f3, .int .u64 x.f4, .slice Ae x.f5.length ce] rfl rfl HR5.1 rfl (by kernel_rfl) (by have:=HF5.1;simp only [Int.toNat_natCast,List.length_cons,List.length_nil];omega) (by intro q hq;simp only [List.mem_cons,List.not_mem_nil,or_false] at hq;rcases hq with rfl|rfl|rfl|rfl|rfl|rfl<;>rfl) ?_;intro wz hW hG;have I6:=aa (I5.1.set hG (by obtain ⟨c',h1,h2⟩:=hW;exact ⟨c',h1,by rw [h2];exact HZ5.1⟩) GP.1 NS.1 NE.1);clear hW hG;generalize wz=w6 at I6 ⊢);go_roundw
    case rel=>exact ⟨i+1,by omega,by go_num,HO4,I6⟩
    case measure=>
     show l.length - ((i:Int)+1).toNat<l.length - (i:Int).toNat;omega
  ·have hs1:((i:Int) == (self:Int))=false:=by rw [bi];omega
   have hs2:((i:Int) != (self:Int))=true:=by rw [b7];omega
   have HS:=aa hs;clear hs;go_wp2_with fail;refine RC.1.mono ?_;rintro e w4 ⟨rfl,hB4⟩;have I4:=aa (IW.1.below hB4);have B4:=aa hB4;clear hB4 x0 m0 m1 m2 m3 m4 m5 ZC RC IW;cases hz:AS x with
   | false=>
    have HO4:=aa (show false=o by have J:=J1.1;rw [if_neg HS.1,hz] at J;exact J);clear J1 hz;go_wp2_with fail;go_ret2;exact qP.no HO4.1 (by decide) (ah I4.1.bel _)
   | true=>
    have HO4:=aa (show vC self (i+1) (l.drop (i+1))=o by have J:=J1.1;rw [if_neg HS.1,hz] at J;exact J);clear J1 hz;go_wp2_with fail;refine bl (fun W'=>W'.heap[b]? = some (.cells #[.bool true, .int .i64 (self:Int), .int .i64 (l.length:Int), .int .i64 16, .int .i64 16, .slice (some ⟨P0,0,none⟩) l.length cap] 192 (0,0))∧W'.heap[sb]? = some (.cells #[.slice (some ad) l.length c] 28 (0,0))∧Below wr.heap.size wr W') 11 [(0,0),(1,0),(2,0),(3,1),(4,0),(5,0),(6,1),(7,0),(8,0),(9,1),(10,2)] (by kernel_rfl) (by kernel_rfl) (fun _ _ _ _ _ h=>h) ⟨I4.1.be,I4.1.bx,B4.1.drew⟩ ?_;iterate 3 (refine eF ?_;simp only [cS,Act.put])
    (refine aQ (v:=?_) rfl rfl ?_ ?_;rotate_left 1;(focus (intro W' hSw;have M:=MM.1 W' hSw.2.2;have q5:W'.cell? ⟨b,5,none⟩=some (.slice (some ⟨P0,0,none⟩) l.length cap):=cell_of hSw.1 5;have q0:W'.cell? ⟨sb,0,none⟩=some (.slice (some ad) l.length c):=cell_of hSw.2.1 0;have n0:=M.1;have n1:=M.2.1;have n2:=M.2.2.1;have n3:=M.2.2.2.1;have n4:=M.2.2.2.2.1;have n5:=M.2.2.2.2.2;clear hSw M;go_simp;try (with_reducible rfl)));simp only [cS,Act.put]);iterate 2 (refine eF ?_;simp only [cS,Act.put])
    (refine aQ (v:=?_) rfl rfl ?_ ?_;rotate_left 1;(focus (intro W' hSw;have M:=MM.1 W' hSw.2.2;have q5:W'.cell? ⟨b,5,none⟩=some (.slice (some ⟨P0,0,none⟩) l.length cap):=cell_of hSw.1 5;have q0:W'.cell? ⟨sb,0,none⟩=some (.slice (some ad) l.length c):=cell_of hSw.2.1 0;have n0:=M.1;have n1:=M.2.1;have n2:=M.2.2.1;have n3:=M.2.2.2.1;have n4:=M.2.2.2.2.1;have n5:=M.2.2.2.2.2;clear hSw M;go_simp;try (with_reducible rfl)));simp only [cS,Act.put]);iterate 2 (refine eF ?_;simp only [cS,Act.put])
    (refine aQ (v:=?_) rfl rfl ?_ ?_;rotate_left 1;(focus (intro W' hSw;have M:=MM.1 W' hSw.2.2;have q5:W'.cell? ⟨b,5,none⟩=some (.slice (some ⟨P0,0,none⟩) l.length cap):=cell_of hSw.1 5;have q0:W'.cell? ⟨sb,0,none⟩=some (.slice (some ad) l.length c):=cell_of hSw.2.1 0;have n0:=M.1;have n1:=M.2.1;have n2:=M.2.2.1;have n3:=M.2.2.2.1;have n4:=M.2.2.2.2.1;have n5:=M.2.2.2.2.2;clear hSw M;go_simp;try (with_reducible rfl)));simp only [cS,Act.put]);refine aT rfl ?_;go_wp2_with fail;refine (TC.1 _ B4.1.drew).mono ?_;rintro e w5 ⟨vq,ve,rfl,hSq,hSe,hB5⟩;obtain ⟨Aq,cq,rfl⟩:=Kd.aG hSq;obtain ⟨Ae,ce,rfl⟩:=Kd.aG hSe;have I5:=aa ((I4.1.below (Below.refl _ _).drew).below hB5);have B5:=aa (B4.1.drew.trans (hB5.mono B4.1.drew.size));clear hSq hSe hB5 I4 B4;go_wp2_with fail;refine bB.mk ⟨I5.1.be,I5.1.bx,B5.1⟩ (fun hSw=>?_);clear hSw;refine bC ?_;simp only [aC,List.drop_zero];obtain ⟨cur,hrow,hsz⟩:=I5.1.row;have hfit:i*6+6≤cur.size:=by have:=CN.1;omega
    have HR5:=aa hrow;have HZ5:=aa hsz;have HF5:=aa hfit;clear hrow hsz hfit;go_wp2_with ((with_reducible refine gS 79 78 rfl ?_);refine oH (t:=68) (p:= .tmp 79) (x:= .tmp 78) (u:= .agg #[.int .u64 x.f0, .int .u64 x.f1, .slice Aq x.f2.length cq, .int .u64 x.f3, .int .u64 x.f4, .slice Ae x.f5.length ce]) rfl rfl rfl [.int .u64 x.f0, .int .u64 x.f1, .slice Aq x.f2.length cq, .int .u64 x.f3, .int .u64 x.f4, .slice Ae x.f5.length ce] rfl rfl HR5.1 rfl (by kernel_rfl) (by have:=HF5.1;simp only [Int.toNat_natCast,List.length_cons,List.length_nil];omega) (by intro q hq;simp only [List.mem_cons,List.not_mem_nil,or_false] at hq;rcases hq with rfl|rfl|rfl|rfl|rfl|rfl<;>rfl) ?_;intro wz hW hG;have I6:=aa (I5.1.set hG (by obtain ⟨c',h1,h2⟩:=hW;exact ⟨c',h1,by rw [h2];exact HZ5.1⟩) GP.1 NS.1 NE.1);clear hW hG;generalize wz=w6 at I6 ⊢);go_roundw
    case rel=>exact ⟨i+1,by omega,by go_num,HO4,I6⟩
    case measure=>
     show l.length - ((i:Int)+1).toNat<l.length - (i:Int).toNat;omega
def gP (e j:Nat):Bool:=(e == 59&&j % 2 == 1)||e == 32||(e == 99&&j % 2 == 1)||(e == 68&&(j % 6 == 2||j % 6 == 5))
def kW (e:Nat) (cur cur':Array Value):Prop:=cur'.size=cur.size∧∀j u,cur'[j]? = some u→cur[j]? = some u∨(u.oneCell'=true∧(gP e j=true→u = .slice none 0 0))
theorem kW.refl (e:Nat) (cur:Array Value):kW e cur cur:=⟨rfl,fun _ _ h=>Or.inl h⟩
theorem kW.trans {e:Nat} {a b c:Array Value} (h:kW e a b) (k:kW e b c):kW e a c:=
 ⟨k.1.trans h.1,fun j u hu=>(k.2 j u hu).elim (fun h2=>h.2 j u h2) Or.inr⟩
structure Sp (N:Nat) (M:Nat→Prop) (W W':World):Prop where
 os:W'.os=W.os
 tape:W'.tape=W.tape
 output:W'.output=W.output
 size:W.heap.size≤W'.heap.size
 nh:∀k,k<N→¬M k→W'.heap[k]? = W.heap[k]?
 near:∀k,k<N→M k→∀cur e,W.heap[k]? = some (.cells cur e (0,0))→∃cur',W'.heap[k]? = some (.cells cur' e (0,0))∧kW e cur cur'
theorem Sp.refl (N:Nat) (M:Nat→Prop) (W:World):Sp N M W W:=⟨rfl,rfl,rfl,Nat.le_refl _,fun _ _ _=>rfl,fun _ _ _ cur e h=>⟨cur,h,kW.refl _ _⟩⟩
theorem Sp.trans {N:Nat} {M:Nat→Prop} {a b c:World} (h:Sp N M a b) (k:Sp N M b c):Sp N M a c:=
 ⟨k.os.trans h.os,k.tape.trans h.tape,k.output.trans h.output,Nat.le_trans h.size k.size,fun i hi hm=>(k.nh i hi hm).trans (h.nh i hi hm),fun i hi hm cur e hc=>by
  obtain ⟨c1,h1,o1⟩:=h.near i hi hm cur e hc;obtain ⟨c2,h2,o2⟩:=k.near i hi hm c1 e h1;exact ⟨c2,h2,o1.trans o2⟩⟩
theorem Sp.below {N:Nat} {M:Nat→Prop} {a b c:World} (h:Sp N M a b) (hb:Below b.heap.size b c) (hN:N≤b.heap.size):Sp N M a c:=
 h.trans ⟨hb.os,hb.tape,hb.output,hb.size,fun i hi _=>hb.block i (by omega),fun i hi _ cur e hc=>⟨cur,(hb.block i (by omega)).trans hc,kW.refl _ _⟩⟩
theorem Sp.step {N:Nat} {M:Nat→Prop} {W0 W W1:World} {v:Value} (h:Sp N M W0 W) (hN:N≤W.heap.size) (hG:W.grownBy W1 v.ownBlock) (hg:∀g,v.ownBlock=some g→g<N→M g)
 (hc:∀g cur e,v.ownBlock=some g→W.heap[g]? = some (.cells cur e (0,0))→∃cur',W1.heap[g]? = some (.cells cur' e (0,0))∧kW e cur cur'):Sp N M W0 W1:=
 h.trans ⟨hG.os,hG.tape,hG.output,hG.size,fun i hi hm=>hG.block i (by omega) (fun e=>hm (hg i e.symm hi)),fun i hi hm cur e hcur=>by
  by_cases he:v.ownBlock=some i
  ·exact hc i cur e he hcur
  ·exact ⟨cur,(hG.block i (by omega) (fun q=>he q.symm)).trans hcur,kW.refl _ _⟩⟩
theorem Sp.weaken {N N':Nat} {M M':Nat→Prop} {W W':World} (h:Sp N' M' W W') (hN:N≤N') (hM:∀k,k<N→(M k↔M' k)):Sp N M W W':=
 ⟨h.os,h.tape,h.output,h.size,fun i hi hm=>h.nh i (by omega) (fun q=>hm ((hM i hi).2 q)),fun i hi hm=>h.near i (by omega) ((hM i hi).1 hm)⟩
def Row (e sz:Nat) (W:World) (v:Value) (n:Nat):Prop:=(v = .slice none 0 0∧n=0)∨∃g cap cur,v = .slice (some ⟨g,0,none⟩) n cap∧W.heap[g]? = some (.cells cur e (0,0))∧n≤cap∧cap≤maxLen∧cur.size=cap*sz
theorem Row.nil (e sz:Nat) (W:World):Row e sz W (.slice none 0 0) 0:=Or.inl ⟨rfl,rfl⟩
theorem Row.jh {α:Type} {d:Kd α} {e base:Nat} {W:World} {ok:Nat→Prop} {v:Value} {xs:List α} (h:d.R e W base ok v xs):Row e d.sz W v xs.length:=by
 obtain ⟨inner,_,⟨rfl,h0⟩|⟨g,cap,cur,rfl,_,hh,hn,hm,hs,_⟩⟩:=Kd.kB h
 ·exact Or.inl ⟨rfl,h0⟩
 ·exact Or.inr ⟨g,cap,cur,rfl,hh,hn,hm,hs⟩
theorem Row.shape {e sz n:Nat} {W:World} {v:Value} (h:Row e sz W v n):∃A c,v = .slice A n c:=by
 rcases h with ⟨rfl,rfl⟩|⟨g,cap,cur,rfl,_⟩
 ·exact ⟨_,_,rfl⟩
 ·exact ⟨_,_,rfl⟩
def In (N:Nat) (M:Nat→Prop) (v:Value):Prop:=∀g,v.ownBlock=some g→g<N∧M g
theorem In.nil (N:Nat) (M:Nat→Prop):In N M (.slice none 0 0):=fun g h=>by simp [Value.ownBlock] at h
theorem In.jh {α:Type} {d:Kd α} {e base:Nat} {W:World} {ok:Nat→Prop} {v:Value} {xs:List α} {M:Nat→Prop} (h:d.R e W base ok v xs) (hM:∀k,base≤k→k<W.heap.size→M k):In W.heap.size M v:=fun g hg=>by
 have:=(Kd.bS h).1 g hg;exact ⟨this.2.2.1,hM g this.2.1 this.2.2.1⟩
theorem Row.sp {e sz n N:Nat} {M:Nat→Prop} {W W':World} {v:Value} (h:Row e sz W v n) (hi:In N M v) (hs:Sp N M W W'):Row e sz W' v n:=by
 rcases h with h|⟨g,cap,cur,rfl,hh,hn,hm,hz⟩
 ·exact Or.inl h
 ·obtain ⟨h1,h2⟩:=hi g rfl;obtain ⟨cur',h3,h4⟩:=hs.near g h1 h2 cur e hh;exact Or.inr ⟨g,cap,cur',rfl,h3,hn,hm,h4.1.trans hz⟩
theorem Row.other {e sz n:Nat} {W W':World} {v:Value} {b:Option Nat} (h:Row e sz W v n) (hG:W.grownBy W' b) (hne:∀g,v.ownBlock=some g→some g≠b):Row e sz W' v n:=by
 rcases h with h|⟨g,cap,cur,rfl,hh,r⟩
 ·exact Or.inl h
 ·exact Or.inr ⟨g,cap,cur,rfl,(hG.block g (ak hh) (hne g rfl)).trans hh,r⟩
theorem Row.type {e sz n g:Nat} {W:World} {v:Value} (h:Row e sz W v n) (hg:v.ownBlock=some g):∃cur,W.heap[g]? = some (.cells cur e (0,0)):=by
 rcases h with ⟨rfl,_⟩|⟨g',cap,cur,rfl,hh,_⟩
 ·simp [Value.ownBlock] at hg
 ·have:g'=g:=by simpa [Value.ownBlock] using hg
  subst this;exact ⟨cur,hh⟩
theorem Row.ne {e e' sz sz' n n':Nat} {W:World} {v v':Value} (h:Row e sz W v n) (h':Row e' sz' W v' n') (he:e≠e'):∀g,v.ownBlock=some g→some g≠v'.ownBlock:=fun g hg hq=>by
 obtain ⟨c1,h1⟩:=h.type hg;obtain ⟨c2,h2⟩:=h'.type hq.symm;rw [h1] at h2;injection h2 with h2;injection h2 with _ h2;exact he h2
theorem p8 (e j:Nat) (cur:Array Value) (seg:List Value) (hfit:j+seg.length≤cur.size) (hone:∀q∈seg,q.oneCell'=true) (hslot:∀i q,seg[i]? = some q→gP e (j+i)=true→q = .slice none 0 0):kW e cur (cur.toList.take j++seg++cur.toList.drop (j+seg.length)).toArray:=by
 have hl:cur.toList.length=cur.size:=by simp
 refine ⟨by simp;omega,fun i u hu=>?_⟩;simp only [List.getElem?_toArray] at hu;rcases dg i j with h1|h1
 ·left;rw [List.append_assoc,cD (by rw [List.length_take];omega),List.getElem?_take_of_lt h1] at hu;simpa using hu
 ·rcases dg i (j+seg.length) with h2|h2
  ·right;rw [List.append_assoc,di (by rw [List.length_take];omega),List.length_take,Nat.min_eq_left (by omega),cD (by omega)] at hu;exact ⟨hone u (List.mem_of_getElem? hu),fun hs=>hslot (i - j) u hu (by rw [Nat.add_sub_cancel' h1];exact hs)⟩
  ·left;rw [di (by simp only [List.length_append,List.length_take];omega)] at hu;simp only [List.length_append,List.length_take,Nat.min_eq_left (show j≤cur.toList.length by omega),List.getElem?_drop] at hu;rw [show j+seg.length+(i - (j+seg.length))=i by omega] at hu;simpa using hu
def El (N:Nat) (M:Nat→Prop) (e sz off:Nat) (p:World→Value→Prop) (W:World) (v:Value) (n:Nat):Prop:=Row e sz W v n∧In N M v∧n≤100000000∧∀g c,v = .slice (some ⟨g,0,none⟩) n c→∀i,i<n→∃u,W.cell? ⟨g,i*sz+off,none⟩=some u∧p W u
theorem El.sp {N:Nat} {M:Nat→Prop} {e sz off n:Nat} {p:World→Value→Prop} {W W':World} {v:Value} (h:El N M e sz off p W v n) (hs:Sp N M W W') (hp:∀u,p W u→p W' u) (hnil:p W' (.slice none 0 0)) (hslot:∀i,gP e (i*sz+off)=true) (hoff:off<sz):El N M e sz off p W' v n:=by
 refine ⟨h.1.sp h.2.1 hs,h.2.1,h.2.2.1,fun g c hv i hi=>?_⟩;obtain ⟨u,hu,hpu⟩:=h.2.2.2 g c hv i hi;have h1:=h.1;rcases h1 with ⟨he,h0⟩|⟨g',cap,cur,he,hh,hnc,_,hz⟩
 ·omega
 rw [he] at hv;injection hv with hg _ hc;injection hg with hg;injection hg with hg;subst hg;obtain ⟨hgN,hgM⟩:=h.2.1 g' (by rw [he];rfl);obtain ⟨cur',hh',hz',ho⟩:=hs.near g' hgN hgM cur e hh;rw [cell_of hh] at hu;have hlt:i*sz+off<cur'.size:=by
  rw [hz',hz]
  calc i*sz+off<i*sz+sz:=by omega
   _=(i+1)*sz:=by rw [dz]
   _≤cap*sz:=Nat.mul_le_mul_right _ (by omega)
 have hu':cur'[i*sz+off]? = some cur'[i*sz+off]:=Array.getElem?_eq_getElem hlt;rcases ho _ _ hu' with h5|⟨_,h5⟩
 ·rw [hu] at h5;injection h5 with h5;exact ⟨u,by rw [cell_of hh',hu',h5],hp u hpu⟩
 ·exact ⟨.slice none 0 0,by rw [cell_of hh',hu',h5 (hslot i)],hnil⟩
def B5 (N:Nat) (M:Nat→Prop) (W:World) (u:Value):Prop:=∃m,Row 5 1 W u m∧In N M u∧m≤100000000
theorem B5.nil (N:Nat) (M:Nat→Prop) (W:World):B5 N M W (.slice none 0 0):=⟨0,Row.nil _ _ _,In.nil _ _,by omega⟩
theorem B5.sp {N:Nat} {M:Nat→Prop} {W W':World} (hs:Sp N M W W') (u:Value) (h:B5 N M W u):B5 N M W' u:=by
 obtain ⟨m,h1,h2,h3⟩:=h;exact ⟨m,h1.sp h2 hs,h2,h3⟩
def Qs (N:Nat) (M:Nat→Prop) (W:World) (u:Value):Prop:=∃m,El N M 32 1 0 (B5 N M) W u m
def Fs (N:Nat) (M:Nat→Prop) (W:World) (u:Value):Prop:=∃m,El N M 99 2 1 (B5 N M) W u m
theorem El.nil (N:Nat) (M:Nat→Prop) (e sz off:Nat) (p:World→Value→Prop) (W:World):El N M e sz off p W (.slice none 0 0) 0:=⟨Row.nil _ _ _,In.nil _ _,by omega,fun g c h=>by cases h⟩
theorem Qs.sp {N:Nat} {M:Nat→Prop} {W W':World} (hs:Sp N M W W') (u:Value) (h:Qs N M W u):Qs N M W' u:=by
 obtain ⟨m,h⟩:=h;exact ⟨m,h.sp hs (B5.sp hs) (B5.nil _ _ _) (fun i=>by simp [gP]) (by omega)⟩
theorem Fs.sp {N:Nat} {M:Nat→Prop} {W W':World} (hs:Sp N M W W') (u:Value) (h:Fs N M W u):Fs N M W' u:=by
 obtain ⟨m,h⟩:=h;exact ⟨m,h.sp hs (B5.sp hs) (B5.nil _ _ _) (fun i=>by simp [gP]) (by omega)⟩
def rO (sz:Nat) (W:World) (v:Value) (n:Nat):Prop:=∀g c,v = .slice (some ⟨g,0,none⟩) n c→∀j,j<n*sz→∃u,W.cell? ⟨g,j,none⟩=some u∧u.oneCell'=true
theorem rO.sp {N:Nat} {M:Nat→Prop} {e sz n:Nat} {W W':World} {v:Value} (h:rO sz W v n) (hr:Row e sz W v n) (hi:In N M v) (hs:Sp N M W W'):rO sz W' v n:=by
 intro g c hv j hj;obtain ⟨u,hu,h1⟩:=h g c hv j hj;rcases hr with ⟨he,h0⟩|⟨g',cap,cur,he,hh,hnc,_,hz⟩
 ·subst h0;omega
 rw [he] at hv;injection hv with hg _ hc;injection hg with hg;injection hg with hg;subst hg;obtain ⟨hgN,hgM⟩:=hi g' (by rw [he];rfl);obtain ⟨cur',hh',hz',ho⟩:=hs.near g' hgN hgM cur e hh;rw [cell_of hh] at hu;have hlt:j<cur'.size:=by
  rw [hz',hz];exact bf hj (Nat.mul_le_mul_right _ hnc)
 have hu':cur'[j]? = some cur'[j]:=Array.getElem?_eq_getElem hlt;rcases ho _ _ hu' with h5|⟨h5,_⟩
 ·rw [hu] at h5;injection h5 with h5;exact ⟨u,by rw [cell_of hh',hu',h5],h1⟩
 ·exact ⟨_,by rw [cell_of hh',hu'],h5⟩
theorem rO.jh {α:Type} {d:Kd α} {e base:Nat} {W:World} {ok:Nat→Prop} {v:Value} {xs:List α} (h:d.R e W base ok v xs):rO d.sz W v xs.length:=by
 intro g c hv j hj;subst hv;have hsz:0<d.sz:=by
  rcases Nat.eq_zero_or_pos d.sz with h0|h0
  ·rw [h0,Nat.mul_zero] at hj;omega
  ·exact h0
 have hi:j / d.sz<xs.length:=(gQ hsz).2 hj;obtain ⟨cs,hl,hM,hc,_⟩:=Kd.vF h xs[j / d.sz] ((j / d.sz:Nat):Int) (Int.natCast_nonneg _) (Int.ofNat_lt.2 hi);have hr:j % d.sz<cs.length:=by rw [hl];exact Nat.mod_lt _ hsz
 have hq:=hc (j % d.sz) cs[j % d.sz] (List.getElem?_eq_getElem hr);rw [Int.toNat_natCast,ek,Nat.div_add_mod] at hq;exact ⟨_,hq,d.K_one (d.K_of_M hM) _ (List.getElem_mem hr)⟩
section
variable {P:Program} {ops:Array Oper} {rest:List Oper} {o:Oper} {a:Act} {Q:Exit→Act→World→Prop} {W:World}
theorem jd (hN:o.dst=none) (hgd:o.guard=none) {t:TypeId} {p x:Operand} (ho:o.op = .store t p x) {g j:Nat} {cur:Array Value} {e:TypeId} {u:Value} (seg:List Value)
 (haddr:a.eval p = .pointer (some ⟨g,j,none⟩)) (hx:a.eval x=u) (hh:W.heap[g]? = some (.cells cur e (0,0))) (hu:u.cells.toList=seg) (ht:(P.info? t).map (·.size)=some seg.length) (hfit:j+seg.length≤cur.size) (h1:∀q∈seg,q.oneCell'=true)
 (hslot:∀i q,seg[i]? = some q→gP e (j+i)=true→q = .slice none 0 0)
 (h:∀W1,W.grownBy W1 (some g)→(∀N M W0,Sp N M W0 W→N≤W.heap.size→(g<N→M g)→Sp N M W0 W1)→wpList P ops Q rest a W1):wpList P ops Q (o::rest) a W:=by
 refine fm hgd fun K hK=>?_;have hrun:(Instr.storeAt t (.pointer (some ⟨g,j,none⟩)) u).run P W = .ok () (W.setCells g j seg):=fy t u seg hh hu ht hfit h1;unfold Oper.wp execOp;simp only [ho,haddr,hx,Sem.run_bind,Sem.run_pure,Result.andThen_ok,hrun];show K (a.put o.dst undef) _;rw [hN];have hG:=fK W g j seg;refine hK _ _ (h _ hG fun N M W0 hs hNW hg=>Sp.step (v:= .slice (some ⟨g,0,none⟩) 0 0) hs hNW hG (fun g' e'=>?_) (fun g' c' e' he hc=>?_))
 ·have:g=g':=by simpa [Value.ownBlock] using e'
  subst this;exact hg
 ·have:g=g':=by simpa [Value.ownBlock] using he
  subst this;rw [hh] at hc;injection hc with hc;injection hc with h2 h3;subst h2;subst h3;exact ⟨_,je hh hfit rfl,p8 _ _ _ _ hfit h1 hslot⟩
theorem oX (hgd:o.guard=none) (s x:Operand) (t e:TypeId) (z:Value) (size bytes:Nat)
 (ho:o.op = .call { callee:= .builtin .append,args:=#[s,x],argTypes:=#[t,t] })
 (ht:P.underlying t=some (.slice e)) (hinfo:(P.info? e).map (fun i=>(i.zero,i.size,i.bytes))=some (some z,size,bytes)) (hz:z.cells.size=size) (hs0:0<size) (hb0:0<bytes)
 (v:Value) (n:Nat) (ys:List Value) (hs:a.eval s=v) (hx:a.eval x = .slice (some ⟨W.heap.size,0,none⟩) 1 1) (hys:ys.length=size) (h1:∀u∈ys,u.oneCell'=true)
 (HR:Row e size W v n) (hl:(n+1)*bytes≤140737488355328) (hslot:∀i q,ys[i]? = some q→gP e (n*size+i)=true→q = .slice none 0 0)
 (h:∀v1 w1,Row e size w1 v1 (n+1)→W.grownBy w1 v.ownBlock→(v1.ownBlock=v.ownBlock∨∃b,v1.ownBlock=some b∧W.heap.size≤b)→(∀N M W0,Sp N M W0 W→N≤W.heap.size→(∀g,v.ownBlock=some g→g<N→M g)→Sp N M W0 w1)→wpList P ops Q rest (a.put o.dst v1) w1) :
 wpList P ops Q (o::rest) a (W.alloc (.cells ys.toArray e)):=by
 obtain ⟨i,hi,hzz⟩:=Option.map_eq_some_iff.1 hinfo;simp only [cC] at hzz;obtain ⟨hz0,hz1,hz2⟩:=hzz;subst hz1;subst hz2;have hlen:n+1≤140737488355328:=Nat.le_trans (fW _ hb0) hl;have hn63:n+1≤maxLen:=by simp only [maxLen];omega
 have hnew:∀j u,ys[j]? = some u→(W.alloc (.cells ys.toArray e)).cell? ((⟨W.heap.size,0,none⟩:Addr).add j)=some u:=by
  simpa using World.news_of_block (cs:=ys.toArray) (t:=e) (fr:=(0,0)) (lK W (.cells ys.toArray e))
 have fin:∀v1 w1,(Builtin.append_ #[t,t] o.type #[v, .slice (some ⟨W.heap.size,0,none⟩) 1 1]).run P (W.alloc (.cells ys.toArray e)) = .ok v1 w1→Row e i.size w1 v1 (n+1)→W.grownBy w1 v.ownBlock→(v1.ownBlock=v.ownBlock∨∃b,v1.ownBlock=some b∧W.heap.size≤b)→
  (∀g cur e',v.ownBlock=some g→W.heap[g]? = some (.cells cur e' (0,0))→∃cur',w1.heap[g]? = some (.cells cur' e' (0,0))∧kW e' cur cur')→wpList P ops Q (o::rest) a (W.alloc (.cells ys.toArray e)):=by
  intro v1 w1 hr hR hG hat hc
  refine fm hgd fun K hK=>?_
  unfold Oper.wp execOp
  simp only [ho,resolve,invoke,builtin,Sem.run_bind,Sem.run_pure,Result.andThen_ok,List.map_toArray,List.map_cons,List.map_nil,hs,hx,hr]
  exact hK _ _ (h v1 w1 hR hG hat fun N M W0 hsp hNW hg=>Sp.step hsp hNW hG hg hc)
 have hB:Below W.heap.size W (W.alloc (.cells ys.toArray e)):=ah (Below.refl _ W) _;have grown:∀(row:Option Nat) (cs:Array Value),W.grownBy ((W.alloc (.cells ys.toArray e)).drew.alloc (.cells cs e)) row:=fun row cs=>
  have hb:=hB.drew.trans ((ah (Below.refl _ (W.alloc (.cells ys.toArray e)).drew) (.cells cs e)).mono hB.drew.size)
  ⟨hb.os,hb.tape,hb.output,hb.size,fun k hk _=>hb.block k hk⟩
 have hsize:W.heap.size≤(W.alloc (.cells ys.toArray e)).heap.size:=hB.size;have hmul:∀c m:Nat,m≤c→m*i.size+(c - m)*i.size=c*i.size:=fun c m h=>by rw [←j6,Nat.add_sub_cancel' h]
 have hkeep:∀(g:Nat) (cur:Array Value) (e':TypeId) (cs:Array Value),W.heap[g]? = some (Obj.cells cur e' (0,0))→∃cur':Array Value,((W.alloc (.cells ys.toArray e)).drew.alloc (.cells cs e)).heap[g]? = some (Obj.cells cur' e' (0,0))∧kW e' cur cur':=fun g cur e' cs hh=>
  ⟨cur,((grown none cs).block g (ak hh) (fun q=>by cases q)).trans hh,kW.refl _ _⟩
 rcases HR with ⟨rfl,rfl⟩|⟨g,cap,cur,rfl,hh,hnc,hcm,hcs⟩
 ·have hr:=run_append_nil (P:=P) (W.alloc (.cells ys.toArray e)) t o.type e i z ht hi hz0 ⟨W.heap.size,0,none⟩ 1 1 ys (by omega) hnew (by omega) (by omega) (by omega);refine fin _ _ hr (Or.inr ⟨_,_,_,rfl,lK _ _,grownCap_ge _ _ _ _,grownCap_le_maxLen _ _ _ _ hn63,?_⟩) (grown _ _) (Or.inr ⟨_,rfl,hsize⟩) (fun g cur e' he=>by simp [Value.ownBlock] at he);have hc:=grownCap_ge (W.alloc (.cells ys.toArray e)) 1 0 e;simp only [Array.size_append,List.size_toArray,size_zeroCells,hz,hys];have:=hmul _ 1 hc;omega
 ·have hhw:(W.alloc (.cells ys.toArray e)).heap[g]? = some (.cells cur e (0,0)):=(hB.block g (ak hh)).trans hh;have htl:(cur.toList.take (n*i.size)).length=n*i.size:=by
   rw [List.length_take,iD,hcs];exact Nat.min_eq_left (Nat.mul_le_mul_right _ hnc)
  by_cases hroom:n+1≤cap
  ·have hfit:n*i.size+ys.length≤cur.size:=by
    rw [hys,hcs,←dz];exact Nat.mul_le_mul_right _ hroom
   have hr:=run_append_room (P:=P) (W.alloc (.cells ys.toArray e)) t o.type e i ht hi g n cap cur hhw ⟨W.heap.size,0,none⟩ 1 1 ys (by omega) hnew h1 hroom hfit;have hrow:=setRow_heap (W.alloc (.cells ys.toArray e)) g cur (cur.toList.take (n*i.size)++ys++cur.toList.drop (n*i.size+ys.length)).toArray e (0,0) hhw;have hov:=p8 e (n*i.size) cur ys hfit h1 hslot;refine fin _ _ hr (Or.inr ⟨g,cap,_,rfl,hrow,hroom,hcm,hov.1.trans hcs⟩) ⟨rfl,rfl,rfl,by simp,fun k hk hne=>?_⟩ (Or.inl rfl) (fun g' c' e' he hc=>?_)
   ·exact (setRow_other _ g k _ (fun q=>hne (by simp [Value.ownBlock,q]))).trans (hB.block k hk)
   ·have:g=g':=by simpa [Value.ownBlock] using he
    subst this;rw [hh] at hc;injection hc with hc;injection hc with h2 h3;subst h2;subst h3;exact ⟨_,hrow,hov⟩
  ·have holds:∀j u,(cur.toList.take (n*i.size))[j]? = some u→(W.alloc (.cells ys.toArray e)).cell? ((⟨g,0,none⟩:Addr).add j)=some u:=by
    intro j u hj;have hc:=cell_of hhw j;rw [show (⟨g,0,none⟩:Addr).add j=⟨g,j,none⟩ by rw [Addr.add_lit,fg],hc];have hlt:j<n*i.size:=by
     rcases dg j (n*i.size) with h5|h5
     ·exact h5
     ·rw [dX (by rw [htl];exact h5)] at hj;cases hj
    rw [List.getElem?_take_of_lt hlt] at hj;simpa using hj
   have hr:=run_append_grow (P:=P) (W.alloc (.cells ys.toArray e)) t o.type e i z ht hi hz0 ⟨g,0,none⟩ n cap (cur.toList.take (n*i.size)) htl holds ⟨W.heap.size,0,none⟩ 1 1 ys (by omega) hnew (by omega) (by omega) (growslice_fits (by omega) hl);refine fin _ _ hr (Or.inr ⟨_,_,_,rfl,lK _ _,grownCap_ge _ _ _ _,grownCap_le_maxLen _ _ _ _ hn63,?_⟩) (grown _ _) (Or.inr ⟨_,rfl,hsize⟩) (fun g' c' e' he hc=>hkeep g' c' e' _ hc);have hc:=grownCap_ge (W.alloc (.cells ys.toArray e)) (n+1) cap e;simp only [Array.size_append,List.size_toArray,size_zeroCells,hz,hys,htl];have h3:=hmul _ (n+1) hc;rw [dz] at h3;exact h3
end
theorem pn {N:Nat} {M:Nat→Prop} {v v1:Value} {W:World} (h:∀g,v.ownBlock=some g→g<N→M g) (hN:N≤W.heap.size) (hat:v1.ownBlock=v.ownBlock∨∃b,v1.ownBlock=some b∧W.heap.size≤b):∀g,v1.ownBlock=some g→g<N→M g:=fun g hg hlt=>by
 rcases hat with hat|⟨b,hb,hle⟩
 ·exact h g (hat▸hg) hlt
 ·rw [hb] at hg;injection hg with hg;omega
theorem iy (N:Nat) (M:Nat→Prop) (v:Value) (n:Nat) (W:World) (hr:Row 5 1 W v n) (hi:In N M v) (hN:N≤W.heap.size) (hn:n≤100000000) :
 Calls Tryz.prog 12 #[v] W fun e w'=>e = .returned (.tuple #[])∧Sp N M W w':=by
 obtain ⟨A,c,rfl⟩:=hr.shape;have HR:=aa hr;have HI:=aa hi;have HN:=aa hN;have S0:=aa (Sp.refl N M W);clear hr hi hN;go_in;go_wp2_with fail;go_loopw [2] (fun v2 wr=>∃i:Nat,i≤n∧v2 = .int .i64 i∧af (Sp N M W wr)) (fun v _=>n - (intOf v).toNat)
 case atStart=>exact ⟨0,aI _,rfl,S0⟩
 case round=>
  obtain ⟨i,hi,rfl,S1⟩:=hrel;clear S0;by_cases hlt:i<n
  ·obtain ⟨_,h0⟩|⟨g,cap,cur,he,hh,hnc,_,hcs⟩:=HR.1.sp HI.1 S1.1
   ·omega
   injection he with he _ hcap;subst he;subst hcap;have HH:=aa hh;have FIT:=aa (show i+1≤cur.size by omega);have NW:=aa (Nat.le_trans HN.1 S1.1.size);clear hh hnc hcs;go_wp2_with ((with_reducible refine fq (t:=5) (p:=12) (v:= .const (.int .u8 119)) rfl ?_);refine jd (t:=5) (p:= .tmp 12) (x:= .const (.int .u8 119)) (u:= .int .u8 119) rfl rfl rfl [.int .u8 119] rfl rfl HH.1 rfl (by kernel_rfl) (by have:=FIT.1;simp only [List.length_cons,List.length_nil,Int.toNat_natCast];omega) (by intro q hq;simp only [List.mem_cons,List.not_mem_nil,or_false] at hq;rcases hq with rfl<;>rfl) (fun i q _ hs=>absurd hs (by simp [gP])) ?_;intro wz hG hS;have S2:=aa (hS N M W S1.1 NW.1 (fun _=>(HI.1 g rfl).2));clear hG hS;generalize wz=w2 at S2 ⊢);go_roundw
   case rel=>exact ⟨i+1,by omega,by go_num,S2⟩
   case measure=>
    show n - ((i:Int)+1).toNat<n - (i:Int).toNat;omega
  have R0:=aa (HR.1.sp HI.1 S1.1);have K0:=aa (show ∀g,(Value.slice A n c).ownBlock=some g→g<N→M g from fun g hg _=>(HI.1 g hg).2);go_wp2_with fail;clear hlt hi;go_loopw [0,3] (fun v0 v3 wr=>∃k m:Nat,k≤9∧m≤n+k∧v3 = .int .i64 k∧af (Row 5 1 wr v0 m)∧af (∀g,v0.ownBlock=some g→g<N→M g)∧af (Sp N M W wr)) (fun _ v _=>9 - (intOf v).toNat)
  case atStart=>exact ⟨0,n,by omega,by omega,rfl,R0,K0,S1⟩
  case round=>
   obtain ⟨k,m,hk,hm,rfl,R1,K1,S2⟩:=hrel;clear R0 K0 S1;have NW:=aa (Nat.le_trans HN.1 S2.1.size);by_cases hlt:k<9
   ·have hkb:decide ((k:Int)<9)=true:=decide_eq_true (by omega);go_wp2_with ((with_reducible refine aM (b:= .append) (xs:=#[.tmp 17, .tmp 18]) rfl ?_);at_builtin;refine oX rfl (.tmp 17) (.tmp 18) 32 5 (.int .u8 0) 1 1 rfl Tryz.underlying32 ff rfl (by decide) (by omega) u0 m [.int .u8 120] rfl rfl rfl (by intro q hq;simp only [List.mem_cons,List.not_mem_nil,or_false] at hq;rcases hq with rfl<;>rfl) R1.1 (by omega) (fun i q _ hs=>absurd hs (by simp [gP])) ?_;intro vz wz hR hG hat hS;have S3:=aa (hS N M W S2.1 NW.1 K1.1);have R2:=aa hR;have K2:=aa (pn K1.1 NW.1 hat);clear hG hS hR hat;generalize wz=w3 at S3 R2 ⊢);go_roundw
    case rel=>exact ⟨k+1,m+1,by omega,by omega,by go_num,R2,K2,S3⟩
    case measure=>
     show 9 - ((k:Int)+1).toNat<9 - (k:Int).toNat;omega
   have hkb:decide ((k:Int)<9)=false:=decide_eq_false (by omega);go_wp2_with fail;first|go_end0|((try simp only [Exit.inBlock,Exit.then]);refine gO (results_none rfl _ _ _) rfl ?_)
   exact ⟨rfl,S2.1⟩
theorem B5.jh {W:World} {base:Nat} {ok:Nat→Prop} {u:Value} {xs:List Int} {M:Nat→Prop} (h:Kd.R (Kd.int .u8) 5 W base ok u xs) (hM:∀k,base≤k→k<W.heap.size→M k) (hl:xs.length≤100000000):B5 W.heap.size M W u:=
 ⟨xs.length,Row.jh h,In.jh h hM,hl⟩
theorem El.jh {α:Type} {d:Kd α} {e off base:Nat} {W:World} {ok:Nat→Prop} {v:Value} {xs:List α} {M:Nat→Prop} {p:World→Value→Prop} (h:d.R e W base ok v xs) (hM:∀k,base≤k→k<W.heap.size→M k) (hl:xs.length≤100000000)
 (hoff:off<d.sz) (hp:∀x∈xs,∀cs ok',d.M W base ok' x cs→∃u,cs[off]? = some u∧p W u):El W.heap.size M e d.sz off p W v xs.length:=by
 refine ⟨Row.jh h,In.jh h hM,hl,fun g c hv i hi=>?_⟩;subst hv;obtain ⟨cs,hcl,hX,hc,_⟩:=Kd.vF h xs[i] (i:Int) (Int.natCast_nonneg _) (Int.ofNat_lt.2 hi);rw [Int.toNat_natCast] at hX hc;have hget:xs.getD i xs[i]=xs[i]:=by simp [List.getD_eq_getElem?_getD,hi]
 rw [hget] at hX;obtain ⟨u,hu,hpu⟩:=hp xs[i] (List.getElem_mem hi) cs _ hX;exact ⟨u,hc off u hu,hpu⟩
structure wW (N:Nat) (M:Nat→Prop) (W:World) (v1 v2 v3 v6:Value) (n1 n2 n3 n6:Nat):Prop where
 r1:Row 76 3 W v1 n1
 i1:In N M v1
 l1:n1≤100000000
 r2:El N M 59 2 1 (B5 N M) W v2 n2
 r3:Row 62 3 W v3 n3
 i3:In N M v3
 l3:n3≤100000000
 q6:El N M 68 6 2 (Qs N M) W v6 n6
 f6:El N M 68 6 5 (Fs N M) W v6 n6
 o6:rO 6 W v6 n6
theorem wW.sp {N:Nat} {M:Nat→Prop} {W W':World} {v1 v2 v3 v6:Value} {n1 n2 n3 n6:Nat} (h:wW N M W v1 v2 v3 v6 n1 n2 n3 n6) (hs:Sp N M W W'):wW N M W' v1 v2 v3 v6 n1 n2 n3 n6:=
 ⟨h.r1.sp h.i1 hs,h.i1,h.l1,h.r2.sp hs (B5.sp hs) (B5.nil _ _ _) (fun i=>by simp [gP]) (by omega),h.r3.sp h.i3 hs,h.i3,h.l3,
  h.q6.sp hs (Qs.sp hs) ⟨0,El.nil _ _ _ _ _ _ _⟩ (fun i=>by simp [gP]) (by omega),h.f6.sp hs (Fs.sp hs) ⟨0,El.nil _ _ _ _ _ _ _⟩ (fun i=>by simp [gP]) (by omega),h.o6.sp h.q6.1 h.q6.2.1 hs⟩
theorem wW.Bx {W:World} {base:Nat} {s:Hs} {v1 v2 v3 v6:Value} {M:Nat→Prop} (h:zw W base s v1 v2 v3 v6) (hb:oO s) (hM:∀k,base≤k→k<W.heap.size→M k):wW W.heap.size M W v1 v2 v3 v6 s.table.length s.pairs.length s.ses.length s.peers.length:=by
 have h1:=hb.b1.1;have h2:=hb.b2.1;have h3:=hb.b3.1;have h6:=hb.b6.1;refine ⟨Row.jh h.r1,In.jh h.r1 hM,by omega,El.jh (off:=1) h.r2 hM (by omega) (by decide) (fun x hx cs ok' hX=>?_),Row.jh h.r3,In.jh h.r3 hM,by omega,El.jh (off:=2) h.r6 hM (by omega) (by decide) (fun x hx cs ok' hX=>?_),El.jh (off:=5) h.r6 hM (by omega) (by decide) (fun x hx cs ok' hX=>?_),rO.jh h.r6⟩
 ·obtain ⟨u,rfl,hR⟩:=uk hX;exact ⟨u,rfl,B5.jh hR hM (hb.b2.2 x hx).2.1⟩
 ·obtain ⟨u,u5,rfl,hR,_⟩:=oz hX;have hB:=hb.b6.2 x hx;refine ⟨u,rfl,x.f2.length,El.jh (off:=0) hR hM hB.l2 (by decide) (fun y hy cs ok' hY=>?_)⟩;obtain ⟨w,rfl,hR2⟩:=hY;exact ⟨w,rfl,B5.jh hR2 hM (hB.b2 y hy)⟩
 ·obtain ⟨u2,u,rfl,_,hR⟩:=oz hX;have hB:=hb.b6.2 x hx;refine ⟨u,rfl,x.f5.length,El.jh (off:=1) hR hM hB.l5 (by decide) (fun y hy cs ok' hY=>?_)⟩;obtain ⟨w,rfl,hR2⟩:=tU hY;exact ⟨w,rfl,B5.jh hR2 hM (hB.b5 y hy)⟩
theorem In.mono {N N':Nat} {M:Nat→Prop} {v:Value} (h:In N M v) (hN:N≤N'):In N' M v:=fun g hg=>⟨bf (h g hg).1 hN,(h g hg).2⟩
theorem B5.mono {N N':Nat} {M:Nat→Prop} {W:World} {v:Value} (h:B5 N M W v) (hN:N≤N'):B5 N' M W v:=by
 obtain ⟨m,h1,h2,h3⟩:=h;exact ⟨m,h1,h2.mono hN,h3⟩
theorem El.mono {N N':Nat} {M:Nat→Prop} {e sz off n:Nat} {p p':World→Value→Prop} {W:World} {v:Value} (h:El N M e sz off p W v n) (hN:N≤N') (hp:∀u,p W u→p' W u):El N' M e sz off p' W v n:=
 ⟨h.1,h.2.1.mono hN,h.2.2.1,fun g c hv i hi=>by
  obtain ⟨u,h1,h2⟩:=h.2.2.2 g c hv i hi;exact ⟨u,h1,hp u h2⟩⟩
theorem Qs.mono {N N':Nat} {M:Nat→Prop} {W:World} {v:Value} (h:Qs N M W v) (hN:N≤N'):Qs N' M W v:=by
 obtain ⟨m,h⟩:=h;exact ⟨m,h.mono hN (fun u hu=>hu.mono hN)⟩
theorem Fs.mono {N N':Nat} {M:Nat→Prop} {W:World} {v:Value} (h:Fs N M W v) (hN:N≤N'):Fs N' M W v:=by
 obtain ⟨m,h⟩:=h;exact ⟨m,h.mono hN (fun u hu=>hu.mono hN)⟩
theorem wW.mono {N N':Nat} {M:Nat→Prop} {W:World} {v1 v2 v3 v6:Value} {n1 n2 n3 n6:Nat} (h:wW N M W v1 v2 v3 v6 n1 n2 n3 n6) (hN:N≤N'):wW N' M W v1 v2 v3 v6 n1 n2 n3 n6:=
 ⟨h.r1,h.i1.mono hN,h.l1,h.r2.mono hN (fun u hu=>hu.mono hN),h.r3,h.i3.mono hN,h.l3,h.q6.mono hN (fun u hu=>hu.mono hN),h.f6.mono hN (fun u hu=>hu.mono hN),h.o6⟩
end Go.Proofs.YtpekmdpbfjdjkaaGreat.ref