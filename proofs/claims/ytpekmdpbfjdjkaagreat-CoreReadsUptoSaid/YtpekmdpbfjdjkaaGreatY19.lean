/- Part 19 of the proof that reading bytes answers as the document does. No condition. -/
import Derived.Test.YtpekmdpbfjdjkaaGreatY14
set_option maxHeartbeats 16000000
set_option maxRecDepth 100000
set_option linter.all false
namespace Go.Proofs.YtpekmdpbfjdjkaaGreat.aD
open Go.RowKit ag.ax ag.aV ag.aU
mutual
def au.j1:Nat→List Int→Int→Int→Option (Int × Int × Int)
 | 0,_,_,_=>none
 | k+1,x0,x1,x7=>if x7=(x0.length:Int) then (some (0,0,21)) else (if x7=(wrap64 (x1+9)) then (if 0≤x7 then (if x7<(x0.length:Int) then (au.j2 k x0 x1 x7 (decide ((rd x0 x7)>1))) else (none)) else (none)) else (au.j2 k x0 x1 x7 false))
def au.j2:Nat→List Int→Int→Int→Bool→Option (Int × Int × Int)
 | 0,_,_,_,_=>none
 | k+1,x0,x1,x7,x45=>if x45=true then (some (0,0,23)) else (au.l1 k x0 x1 x7 0 x7)
def au.l1:Nat→List Int→Int→Int→Int→Int→Option (Int × Int × Int)
 | 0,_,_,_,_,_=>none
 | k+1,x0,x1,x7,x8,x9=>if x9≥x1 then (if 0≤x9 then (if x9<(x0.length:Int) then (au.l1 k x0 x1 x7 (IntKind.u64.wrap ((IntKind.u64.wrap (x8*128))+(IntKind.u64.wrap (Int.tmod (rd x0 x9) 128)))) (wrap64 (x9 - 1))) else (none)) else (none)) else ((bn.f k x8).bind fun t348=>(if (t348.length:Int)=(wrap64 ((wrap64 (x7+1)) - x1)) then (some (x8,(t348.length:Int),0)) else (some (0,0,22))))
def au.l0:Nat→List Int→Int→Int→Option (Int × Int × Int)
 | 0,_,_,_=>none
 | k+1,x0,x1,x7=>if x7<(x0.length:Int) then (if x7<(wrap64 (x1+9)) then (if 0≤x7 then (if (rd x0 x7)≥128 then (au.l0 k x0 x1 (wrap64 (x7+1))) else (au.j1 k x0 x1 x7)) else (none)) else (au.j1 k x0 x1 x7)) else (au.j1 k x0 x1 x7)
end
def au.f (k:Nat) (l0:List Int) (a1:Int):Option (Int × Int × Int):=au.l0 k l0 a1 a1
theorem au.calls (k:Nat) (A0:Option Addr) (c0:Nat) (l0:List Int) (a1:Int) (r1:Int) (r2:Int) (r3:Int) (w:World) (hr0:Kd.C (Kd.int .u8) w A0 l0.length l0) (hc0:l0.length≤c0) (h:au.f k l0 a1=some (r1,r2,r3)) :
 Calls Tryz.prog 201 #[.slice A0 l0.length c0, .int .i64 a1] w fun e w'=>e = .returned (.tuple #[.int .u64 r1, .int .i64 r2, .int .i64 r3])∧Below w.heap.size w w':=by
 have HR0:=aa hr0;have HC0:=aa hc0;clear hr0 hc0;have HB:=aa (Below.refl w.heap.size w);have H:(au.l0 k l0 a1 a1)=some (r1,r2,r3):=h;clear h;have HC3:=aa H;clear H;go_in;go_upto_block 0 with (fail);go_cut [7] (fun v7 wc=>∃(kq:Nat) (x7_2:Int),v7 = .int .i64 x7_2∧af (au.j1 kq l0 a1 x7_2=some (r1,r2,r3))∧af (kq≤k)∧af (Below w.heap.size w wc))
 case first=>
  have H:=HC3.1;clear HC3;have H':=aa H;clear H;go_wp2;go_loopg [7] k (fun kq v7 w'=>∃(x7_1:Int),v7 = .int .i64 x7_1∧af (au.l0 kq l0 a1 x7_1=some (r1,r2,r3))∧af (kq≤k)∧af (Below w.heap.size w w'))
  case atStart=>exact ⟨(a1),(by first|rfl|(simp;done)|(simp [*];done)),H',⟨Nat.le_refl _⟩,⟨by repeat (first|(with_reducible first|exact HB.1|apply ah|apply ai|apply ay)|exact HB.1)⟩⟩
  case round=>
   clear H';try clear c2
   try clear p2
   obtain ⟨x7_1,rfl,HA,HK1,HB⟩:=hrel;cases gk with
   | zero=>exact absurd HA.1 (by simp [au.l0])
   | succ k1=>
    have H:=HA.1;clear HA;simp only [au.l0] at H;by_cases c4:x7_1<(l0.length:Int)
    ·rw [if_pos c4] at H;have c4b0:decide (x7_1<(l0.length:Int))=true:=decide_eq_true c4;clear c4;(first|rw [c4b0]|(simp only [lj,oL];rw [c4b0])|skip);by_cases c5:x7_1<(wrap64 (a1+9))
     ·rw [if_pos c5] at H;have c5b0:decide (x7_1<(wrap64 (a1+9)))=true:=decide_eq_true c5;clear c5;by_cases c6:0≤x7_1
      ·rw [if_pos c6] at H;have c6b0:decide (0≤x7_1)=true:=decide_eq_true c6;clear c6;by_cases c7:(rd l0 x7_1)≥128
       ·rw [if_pos c7] at H;have c7b0:decide (128≤(rd l0 x7_1))=true:=decide_eq_true c7;clear c7;have H':=aa H;clear H;have p345:0≤(x7_1:Int):=of_decide_eq_true (by first|(with_reducible assumption)|assumption);have q345:x7_1<(l0.length:Int):=of_decide_eq_true (by first|(with_reducible assumption)|assumption);obtain ⟨ad345,e345,hx345_0⟩:=Kd.ig HR0.1 x7_1 p345 q345;cases e345
        replace hx345_0:=(HB.1.cell (bJ w _ hx345_0)).trans hx345_0;replace p345:=a8 p345;replace q345:=a8 q345;go_wp2;go_roundg k1
        case measure=>have:=HK1.1;omega
        case rel=>exact ⟨(wrap64 (x7_1+1)),(by first|rfl|(simp;done)|(simp [*];done)),H',⟨by have:=HK1.1;omega⟩,⟨by repeat (first|(with_reducible first|exact HB.1|apply ah|apply ai|apply ay)|exact HB.1)⟩⟩
       ·rw [if_neg c7] at H;have c7b0:decide (128≤(rd l0 x7_1))=false:=decide_eq_false c7;clear c7;have H':=aa H;clear H;have p345:0≤(x7_1:Int):=of_decide_eq_true (by first|(with_reducible assumption)|assumption);have q345:x7_1<(l0.length:Int):=of_decide_eq_true (by first|(with_reducible assumption)|assumption);obtain ⟨ad345,e345,hx345_0⟩:=Kd.ig HR0.1 x7_1 p345 q345;cases e345
        replace hx345_0:=(HB.1.cell (bJ w _ hx345_0)).trans hx345_0;replace p345:=a8 p345;replace q345:=a8 q345;go_wp2;go_meet
        case rel=>exact ⟨_,(x7_1),(by first|rfl|(simp;done)|(simp [*];done)),H',⟨by have:=HK1.1;first|omega|exact Nat.le_refl _⟩,⟨by repeat (first|(with_reducible first|exact HB.1|apply ah|apply ai|apply ay)|exact HB.1)⟩⟩
      ·rw [if_neg c6] at H;exact absurd H (by simp)
     ·rw [if_neg c5] at H;have c5b0:decide (x7_1<(wrap64 (a1+9)))=false:=decide_eq_false c5;clear c5;have H':=aa H;clear H;go_wp2;go_meet
      case rel=>exact ⟨_,(x7_1),(by first|rfl|(simp;done)|(simp [*];done)),H',⟨by have:=HK1.1;first|omega|exact Nat.le_refl _⟩,⟨by repeat (first|(with_reducible first|exact HB.1|apply ah|apply ai|apply ay)|exact HB.1)⟩⟩
    ·rw [if_neg c4] at H;have c4b0:decide (x7_1<(l0.length:Int))=false:=decide_eq_false c4;clear c4;(first|rw [c4b0]|(simp only [lj,oL];rw [c4b0])|skip);have H':=aa H;clear H;go_wp2;go_meet
     case rel=>exact ⟨_,(x7_1),(by first|rfl|(simp;done)|(simp [*];done)),H',⟨by have:=HK1.1;first|omega|exact Nat.le_refl _⟩,⟨by repeat (first|(with_reducible first|exact HB.1|apply ah|apply ai|apply ay)|exact HB.1)⟩⟩
 case rest=>
  clear HC3;try clear c2
  try clear p2
  try clear p3
  try clear q3
  try clear hx3
  try clear c4
  try clear c4b0
  try clear c5
  try clear c5b0
  try clear c6
  try clear c6b0
  try clear p6
  try clear c7
  try clear c7b0
  try clear hx345_0
  try clear p2
  try clear p345
  try clear q345
  obtain ⟨kq,x7_2,rfl,HA,HJ2,HB⟩:=hcut;cases kq with
  | zero=>exact absurd HA.1 (by simp [au.j1])
  | succ kj2=>
   have H:=HA.1;clear HA;simp only [au.j1] at H;by_cases c8:x7_2=(l0.length:Int)
   ·rw [if_pos c8] at H;have c8b0:(x7_2 == (l0.length:Int))=true:=gw.mpr c8;have c8b1:(x7_2 != (l0.length:Int))=false:=ci.mpr c8;clear c8;simp only [bP,cC] at H;obtain ⟨rfl,rfl,rfl⟩:=H;go_wp2;go_ret3;exact ⟨by first|rfl|(simp [bO,bN]<;>rfl)|(simp [*,bO,bN]<;>rfl),by repeat (first|(with_reducible first|exact HB.1|apply ah|apply ai|apply ay)|exact HB.1)⟩
   ·rw [if_neg c8] at H;have c8b0:(x7_2 == (l0.length:Int))=false:=bi.mpr c8;have c8b1:(x7_2 != (l0.length:Int))=true:=mq.mpr c8;have HC9:=aa H;clear H;go_upto_region 6 with (fail);go_cut [45] (fun v45 wc=>∃(kq:Nat) (x45_8:Bool),v45 = .bool x45_8∧af (au.j2 kq l0 a1 x7_2 x45_8=some (r1,r2,r3))∧af (kq≤kj2)∧af (Below w.heap.size w wc))
    case first=>
     have H:=HC9.1;clear HC9;by_cases mO:x7_2=(wrap64 (a1+9))
     ·rw [if_pos mO] at H;have c10b0:(x7_2 == (wrap64 (a1+9)))=true:=gw.mpr mO;have c10b1:(x7_2 != (wrap64 (a1+9)))=false:=ci.mpr mO;clear mO;(first|rw [c10b0]|(simp only [lj,oL];rw [c10b0])|skip);by_cases c11:0≤x7_2
      ·rw [if_pos c11] at H;have c11b0:decide (0≤x7_2)=true:=decide_eq_true c11;clear c11;by_cases c12:x7_2<(l0.length:Int)
       ·rw [if_pos c12] at H;have c12b0:decide (x7_2<(l0.length:Int))=true:=decide_eq_true c12;clear c12;have H':=aa H;clear H;have p346:0≤(x7_2:Int):=of_decide_eq_true (by first|(with_reducible assumption)|assumption);have q346:x7_2<(l0.length:Int):=of_decide_eq_true (by first|(with_reducible assumption)|assumption);obtain ⟨ad346,e346,hx346_0⟩:=Kd.ig HR0.1 x7_2 p346 q346;cases e346
        replace hx346_0:=(HB.1.cell (bJ w _ hx346_0)).trans hx346_0;replace p346:=a8 p346;replace q346:=a8 q346;go_wp2;go_meet
        case rel=>exact ⟨_,(decide ((rd l0 x7_2)>1)),(by first|rfl|(simp;done)|(simp [*];done)),H',⟨by have:=HJ2.1;first|omega|exact Nat.le_refl _⟩,⟨by repeat (first|(with_reducible first|exact HB.1|apply ah|apply ai|apply ay)|exact HB.1)⟩⟩
       ·rw [if_neg c12] at H;exact absurd H (by simp)
      ·rw [if_neg c11] at H;exact absurd H (by simp)
     ·rw [if_neg mO] at H;have c10b0:(x7_2 == (wrap64 (a1+9)))=false:=bi.mpr mO;have c10b1:(x7_2 != (wrap64 (a1+9)))=true:=mq.mpr mO;(first|rw [c10b0]|(simp only [lj,oL];rw [c10b0])|skip);have H':=aa H;clear H;go_wp2;go_meet
      case rel=>exact ⟨_,(false),(by first|rfl|(simp;done)|(simp [*];done)),H',⟨by have:=HJ2.1;first|omega|exact Nat.le_refl _⟩,⟨by repeat (first|(with_reducible first|exact HB.1|apply ah|apply ai|apply ay)|exact HB.1)⟩⟩
    case rest=>
     clear HC9;try clear c1
     try clear c2
     try clear p2
     try clear p3
     try clear q3
     try clear hx3
     try clear c4
     try clear c4b0
     try clear c5
     try clear c5b0
     try clear c6
     try clear c6b0
     try clear p6
     try clear c7
     try clear c7b0
     try clear c8
     try clear c8b0
     try clear c8b1
     try clear mO
     try clear c10b0
     try clear c10b1
     try clear c11
     try clear c11b0
     try clear c12
     try clear c12b0
     try clear hx345_0
     try clear hx346_0
     try clear p2
     try clear p3
     try clear p345
     try clear p346
     try clear p6
     try clear q3
     try clear q345
     try clear q346
     obtain ⟨kq,x45_8,rfl,HA,HJ8,HB⟩:=hcut;cases kq with
     | zero=>exact absurd HA.1 (by simp [au.j2])
     | succ kj8=>
      have H:=HA.1;clear HA;simp only [au.j2] at H;by_cases c13:x45_8=true
      ·subst c13;have H1:(some (0,0,23))=some (r1,r2,r3):=by rw [if_pos rfl] at H;exact H
       clear H;have H:=H1;clear H1;simp only [bP,cC] at H;obtain ⟨rfl,rfl,rfl⟩:=H;go_wp2;go_ret3;exact ⟨by first|rfl|(simp [bO,bN]<;>rfl)|(simp [*,bO,bN]<;>rfl),by repeat (first|(with_reducible first|exact HB.1|apply ah|apply ai|apply ay)|exact HB.1)⟩
      ·replace c13:=Bool.eq_false_iff.mpr c13;subst c13;have H1:(au.l1 kj8 l0 a1 x7_2 0 x7_2)=some (r1,r2,r3):=by rw [if_neg (show ¬(false=true) by decide)] at H;exact H
       clear H;have H:=H1;clear H1;have H':=aa H;clear H;go_wp2;go_loopg [8,9] kj8 (fun kq v8 v9 w'=>∃(x8_3:Int) (x9_3:Int),v8 = .int .u64 x8_3∧v9 = .int .i64 x9_3∧af (au.l1 kq l0 a1 x7_2 x8_3 x9_3=some (r1,r2,r3))∧af (kq≤kj8)∧af (Below w.heap.size w w'))
       case atStart=>exact ⟨(0),(x7_2),(by first|rfl|(simp;done)|(simp [*];done)),(by first|rfl|(simp;done)|(simp [*];done)),H',⟨Nat.le_refl _⟩,⟨by repeat (first|(with_reducible first|exact HB.1|apply ah|apply ai|apply ay)|exact HB.1)⟩⟩
       case round=>
        clear H';try clear c1
        try clear c2
        try clear p2
        try clear p3
        try clear q3
        try clear hx3
        try clear c4
        try clear c4b0
        try clear c5
        try clear c5b0
        try clear c6
        try clear c6b0
        try clear p6
        try clear c7
        try clear c7b0
        try clear c8
        try clear c8b0
        try clear c8b1
        try clear mO
        try clear c10b0
        try clear c10b1
        try clear c11
        try clear c11b0
        try clear c12
        try clear c12b0
        try clear c13
        try clear hx345_0
        try clear hx346_0
        try clear p2
        try clear p3
        try clear p345
        try clear p346
        try clear p6
        try clear q3
        try clear q345
        try clear q346
        obtain ⟨x8_3,x9_3,rfl,rfl,HA,HK3,HB⟩:=hrel;cases gk with
        | zero=>exact absurd HA.1 (by simp [au.l1])
        | succ k3=>
         have H:=HA.1;clear HA;simp only [au.l1] at H;by_cases c14:x9_3≥a1
         ·rw [if_pos c14] at H;have c14b0:decide (a1≤x9_3)=true:=decide_eq_true c14;clear c14;by_cases c15:0≤x9_3
          ·rw [if_pos c15] at H;have c15b0:decide (0≤x9_3)=true:=decide_eq_true c15;clear c15;by_cases c16:x9_3<(l0.length:Int)
           ·rw [if_pos c16] at H;have c16b0:decide (x9_3<(l0.length:Int))=true:=decide_eq_true c16;clear c16;have H':=aa H;clear H;have p347:0≤(x9_3:Int):=of_decide_eq_true (by first|(with_reducible assumption)|assumption);have q347:x9_3<(l0.length:Int):=of_decide_eq_true (by first|(with_reducible assumption)|assumption);obtain ⟨ad347,e347,hx347_0⟩:=Kd.ig HR0.1 x9_3 p347 q347;cases e347
            replace hx347_0:=(HB.1.cell (bJ w _ hx347_0)).trans hx347_0;replace p347:=a8 p347;replace q347:=a8 q347;go_wp2;go_roundg k3
            case measure=>have:=HJ2.1;have:=HJ8.1;have:=HK3.1;omega
            case rel=>exact ⟨(IntKind.u64.wrap ((IntKind.u64.wrap (x8_3*128))+(IntKind.u64.wrap (Int.tmod (rd l0 x9_3) 128)))),(wrap64 (x9_3 - 1)),(by first|rfl|(simp;done)|(simp [*];done)),(by first|rfl|(simp;done)|(simp [*];done)),H',⟨by have:=HJ2.1;have:=HJ8.1;have:=HK3.1;omega⟩,⟨by repeat (first|(with_reducible first|exact HB.1|apply ah|apply ai|apply ay)|exact HB.1)⟩⟩
           ·rw [if_neg c16] at H;exact absurd H (by simp)
          ·rw [if_neg c15] at H;exact absurd H (by simp)
         ·rw [if_neg c14] at H;have c14b0:decide (a1≤x9_3)=false:=decide_eq_false c14;clear c14;replace H:=Option.bind_eq_some_iff.mp H;obtain ⟨t348,A170,H⟩:=H;replace H:(if (t348.length:Int)=(wrap64 ((wrap64 (x7_2+1)) - a1)) then (some (x8_3,(t348.length:Int),0)) else (some (0,0,22)))=some (r1,r2,r3):=H;have A17:=aa A170;clear A170;by_cases c18:(t348.length:Int)=(wrap64 ((wrap64 (x7_2+1)) - a1))
          ·rw [if_pos c18] at H;have c18b0:((t348.length:Int) == (wrap64 ((wrap64 (x7_2+1)) - a1)))=true:=gw.mpr c18;have c18b1:((t348.length:Int) != (wrap64 ((wrap64 (x7_2+1)) - a1)))=false:=ci.mpr c18;clear c18;simp only [bP,cC] at H;obtain ⟨rfl,rfl,rfl⟩:=H;go_wp2_with (first|((with_reducible refine dB (f:=123) rfl ?_);refine gW (some 62) rfl rfl Tryz.func123 (by kernel_rfl) rfl #[.int .u64 x8_3] rfl (by (try simp only [List.map_toArray,List.map_cons,List.map_nil]);first|done|rfl|(simp only [List.length_drop,List.length_take];rfl)) ?_;(with_reducible refine (bn.calls k3 x8_3 t348 _ A17.1).mono ?_);rintro e w19 ⟨v349,rfl,ho0,hb⟩;refine ⟨_,rfl,?_⟩;have n0_:=aa (Kd.cI ho0 (cP (by repeat (first|(with_reducible first|exact HB.1|apply ah|apply ai|apply ay)|exact HB.1))));have n1_:=aa (fO (by repeat (first|(with_reducible first|exact HB.1|apply ah|apply ai|apply ay)|exact HB.1)) hb);clear HB;have HO350:=n0_;have HB:=n1_;clear n0_ n1_;(try clear hb);(try clear hb2);(try clear hk);(try clear hi);(try clear ho0);obtain ⟨Ao20,co20,eo20⟩:=Kd.aG HO350.1;subst eo20));go_ret3;exact ⟨by first|rfl|(simp [bO,bN]<;>rfl)|(simp [*,bO,bN]<;>rfl),by repeat (first|(with_reducible first|exact HB.1|apply ah|apply ai|apply ay)|exact HB.1)⟩
          ·rw [if_neg c18] at H;have c18b0:((t348.length:Int) == (wrap64 ((wrap64 (x7_2+1)) - a1)))=false:=bi.mpr c18;have c18b1:((t348.length:Int) != (wrap64 ((wrap64 (x7_2+1)) - a1)))=true:=mq.mpr c18;simp only [bP,cC] at H;obtain ⟨rfl,rfl,rfl⟩:=H;go_wp2_with (first|((with_reducible refine dB (f:=123) rfl ?_);refine gW (some 62) rfl rfl Tryz.func123 (by kernel_rfl) rfl #[.int .u64 x8_3] rfl (by (try simp only [List.map_toArray,List.map_cons,List.map_nil]);first|done|rfl|(simp only [List.length_drop,List.length_take];rfl)) ?_;(with_reducible refine (bn.calls k3 x8_3 t348 _ A17.1).mono ?_);rintro e w21 ⟨v349,rfl,ho0,hb⟩;refine ⟨_,rfl,?_⟩;have n0_:=aa (Kd.cI ho0 (cP (by repeat (first|(with_reducible first|exact HB.1|apply ah|apply ai|apply ay)|exact HB.1))));have n1_:=aa (fO (by repeat (first|(with_reducible first|exact HB.1|apply ah|apply ai|apply ay)|exact HB.1)) hb);clear HB;have HO350:=n0_;have HB:=n1_;clear n0_ n1_;(try clear hb);(try clear hb2);(try clear hk);(try clear hi);(try clear ho0);obtain ⟨Ao22,co22,eo22⟩:=Kd.aG HO350.1;subst eo22));go_ret3;exact ⟨by first|rfl|(simp [bO,bN]<;>rfl)|(simp [*,bO,bN]<;>rfl),by repeat (first|(with_reducible first|exact HB.1|apply ah|apply ai|apply ay)|exact HB.1)⟩
end Go.Proofs.YtpekmdpbfjdjkaaGreat.aD
namespace Go.Proofs.YtpekmdpbfjdjkaaGreat.ref
open Go Go.RowKit ag.ax ag.aV ag.aU aD fr iK cL plain
def zE (w:World) (r:List Int) (e:Ending) (w':World):Prop:=∃v,e = .returned v∧Kd.R (Kd.int .u8) 5 w' w.heap.size (fun _=>True) v r∧Below w.heap.size w w'
theorem zf (A0:Option Addr) (c0:Nat) (l0:List Int) (A1:Option Addr) (c1:Nat) (l1:List Int) (w:World) (h0:Kd.C (Kd.int .u8) w A0 l0.length l0) (hc0:l0.length≤c0) (h1:Kd.C (Kd.int .u8) w A1 l1.length l1) (hc1:l1.length≤c1) (hL0:l0.length≤100000000) (hL1:l1.length≤100000000) :
 Calls Tryz.prog 185 #[.slice A0 l0.length c0, .slice A1 l1.length c1] w (zE w (l0++l1)):=by
 obtain ⟨i0,hi,hz0,hz1,hz2⟩:=info_parts ff;have HC0:=aa h0;have HC1:=aa h1;clear h0 h1;have hsum:wrap64 ((l0.length:Int)+l1.length)=((l0.length+l1.length:Nat):Int):=by rw [IntWalk.wrap64_in _ (by omega)];omega
 have hsum2:IntKind.i64.wrap ((l0.length:Int)+l1.length)=((l0.length+l1.length:Nat):Int):=by rw [aA _ (by omega)];omega
 go_in;go_wp2_with (at_make;refine wpList_make_own _ rfl _ _ 32 rfl w.heap.size 5 i0 (.int .u8 0) 1 Tryz.underlying32 hi hz0 hz1 .i64 .i64 ((l0.length+l1.length:Nat):Int) (l0.length+l1.length) rfl rfl rfl ?b2 ?b3 ?b4 ?_;(case b2=>rw [hz2];omega);(case b3=>unfold maxLen;omega);(case b4=>simp);intro wm hown hgrow;have R0:=aa (show Kd.R (Kd.int .u8) 5 wm w.heap.size (fun _=>True) (.slice (some ⟨w.heap.size,0,none⟩) 0 (l0.length+l1.length)) [] from ⟨fun _ _=>trivial,[],hown,dn.none _ _⟩);have B0:=aa ((Below.refl w.heap.size w).grown hgrow (Nat.le_refl _) (fun k e=>by cases e));clear hown hgrow hi hz0 hz1 hz2);go_loopw [5,6] (fun v5 vi wr=>∃(i:Nat),i≤l0.length∧vi = .int .i64 i∧af (Kd.R (Kd.int .u8) 5 wr w.heap.size (fun _=>True) v5 (l0.take i))∧af (Below w.heap.size w wr)) (fun _ v _=>l0.length - (intOf v).toNat)
 case atStart=>exact ⟨0,aI _,rfl,⟨by rw [k7];exact R0.1⟩,B0⟩
 case round=>
  obtain ⟨i,hi,rfl,HR,HB⟩:=hrel;clear R0 B0;obtain ⟨Av,cv,rfl⟩:=Kd.aG HR.1;by_cases hlt:i<l0.length
  ·obtain ⟨ad,e1,hx⟩:=Kd.ig HC0.1 (i:Int) (by omega) (by omega);subst e1;replace hx:=(HB.1.cell (bJ w _ hx)).trans hx;simp only [Int.toNat_natCast] at hx;have hT:=aa (show (l0.take i)++[rd l0 (i:Int)]=l0.take (i+1) by
    rw [bz hlt];simp [rd,hlt])
   have hlen:(l0.take i).length<140737488355328:=by rw [List.length_take];have:=Nat.min_le_right i l0.length;omega
   generalize l0.take i=ys at HR hT hlen ⊢;generalize rd l0 (i:Int)=x at hx hT ⊢;have hwi:IntKind.i64.wrap ((i:Int)+1)=(i:Int)+1:=aA _ (by omega);have hwj:wrap64 ((i:Int)+1)=(i:Int)+1:=IntWalk.wrap64_in _ (by omega);go_wp2_with ((with_reducible refine aM (b:= .append) (xs:=#[.tmp 20, .tmp 25]) rfl ?_);at_builtin;refine Kd.cG (Kd.int .u8) (w0:=w) w.heap.size rfl (.tmp 20) (.tmp 25) 32 5 (.int .u8 0) 1 rfl Tryz.underlying32 ff rfl (by decide) (by omega) (.slice Av ys.length cv) ys x [.int .u8 x] (fun _=>True) (fun _=>False) rfl rfl ?aP (fun _ hk=>hk.elim) (fun _ _=>trivial) ?aO ?aB ?aS ?aL ?_;(case aP=>exact rfl);(case aO=>exact HR.1);(case aB=>exact HB.1);(case aS=>exact HB.1.size);(case aL=>have:=hlen;omega);intro v1 w1 h1 h2 h3 h4;obtain ⟨A1_,k1_,hv⟩:=Kd.aG h1;rw [List.length_append,List.length_singleton] at hv;subst hv;have R1:=aa h1;have B1:=aa h2;clear h1 h2 h3 h4);go_roundw
   case rel=>exact ⟨i+1,by omega,by go_num,⟨by rw [←hT.1];exact R1.1⟩,B1⟩
   case measure=>
    show l0.length - ((i:Int)+1).toNat<l0.length - (i:Int).toNat;omega
  ·have e:i=l0.length:=by omega
   subst e;simp only [jL] at HR ⊢;have HX:=HR;have HXB:=HB;clear HR HB;go_wp2_with fail;go_loopw [5,7] (fun v5 vi wr=>∃(i:Nat),i≤l1.length∧vi = .int .i64 i∧af (Kd.R (Kd.int .u8) 5 wr w.heap.size (fun _=>True) v5 (l0++l1.take i))∧af (Below w.heap.size w wr)) (fun _ v _=>l1.length - (intOf v).toNat)
   case atStart=>exact ⟨0,aI _,rfl,⟨by rw [k7];rw [bM];exact HX.1⟩,HXB⟩
   case round=>
    obtain ⟨i,hi,rfl,HR,HB⟩:=hrel;clear HX HXB;obtain ⟨Av,cv,rfl⟩:=Kd.aG HR.1;by_cases hlt:i<l1.length
    ·obtain ⟨ad,e1,hx⟩:=Kd.ig HC1.1 (i:Int) (by omega) (by omega);subst e1;replace hx:=(HB.1.cell (bJ w _ hx)).trans hx;simp only [Int.toNat_natCast] at hx;have hT:=aa (show (l0++l1.take i)++[rd l1 (i:Int)]=l0++l1.take (i+1) by
      rw [List.append_assoc,bz hlt];simp [rd,hlt])
     have hlen:(l0++l1.take i).length<140737488355328:=by rw [List.length_append,List.length_take];have:=Nat.min_le_right i l1.length;omega
     generalize l0++l1.take i=ys at HR hT hlen ⊢;generalize rd l1 (i:Int)=x at hx hT ⊢;have hwi:IntKind.i64.wrap ((i:Int)+1)=(i:Int)+1:=aA _ (by omega);have hwj:wrap64 ((i:Int)+1)=(i:Int)+1:=IntWalk.wrap64_in _ (by omega);go_wp2_with ((with_reducible refine aM (b:= .append) (xs:=#[.tmp 33, .tmp 38]) rfl ?_);at_builtin;refine Kd.cG (Kd.int .u8) (w0:=w) w.heap.size rfl (.tmp 33) (.tmp 38) 32 5 (.int .u8 0) 1 rfl Tryz.underlying32 ff rfl (by decide) (by omega) (.slice Av ys.length cv) ys x [.int .u8 x] (fun _=>True) (fun _=>False) rfl rfl ?aP (fun _ hk=>hk.elim) (fun _ _=>trivial) ?aO ?aB ?aS ?aL ?_;(case aP=>exact rfl);(case aO=>exact HR.1);(case aB=>exact HB.1);(case aS=>exact HB.1.size);(case aL=>have:=hlen;omega);intro v1 w1 h1 h2 h3 h4;obtain ⟨A1_,k1_,hv⟩:=Kd.aG h1;rw [List.length_append,List.length_singleton] at hv;subst hv;have R1:=aa h1;have B1:=aa h2;clear h1 h2 h3 h4);go_roundw
     case rel=>exact ⟨i+1,by omega,by go_num,⟨by rw [←hT.1];exact R1.1⟩,B1⟩
     case measure=>
      show l1.length - ((i:Int)+1).toNat<l1.length - (i:Int).toNat;omega
    ·have e:i=l1.length:=by omega
     subst e;simp only [jL] at HR ⊢;have HY:=HR;have HYB:=HB;clear HR HB;go_wp2_with fail;go_ret;exact ⟨_,rfl,HY.1,HYB.1⟩
end Go.Proofs.YtpekmdpbfjdjkaaGreat.ref
namespace Go.Proofs.YtpekmdpbfjdjkaaGreat.aD
open Go.RowKit ag.ax ag.aV ag.aU
def fM.f (l0:List Int) (l1:List Int):Option (List Int):=if ([]:List Int).length+l0.length<140737488355328 then ((some (([]:List Int)++l0:List Int)).bind fun y296=>(if y296.length+l1.length<140737488355328 then (some (y296++l1)) else (none))) else (none)
theorem fM.calls (A0:Option Addr) (c0:Nat) (l0:List Int) (A1:Option Addr) (c1:Nat) (l1:List Int) (r:List Int) (w:World) (hr0:Kd.C (Kd.int .u8) w A0 l0.length l0) (hc0:l0.length≤c0) (hr1:Kd.C (Kd.int .u8) w A1 l1.length l1) (hc1:l1.length≤c1) (h:fM.f l0 l1=some r) :
 Calls Tryz.prog 184 #[.slice A0 l0.length c0, .slice A1 l1.length c1] w fun e w'=>∃v0_:Value,e = .returned (v0_)∧Kd.R (Kd.int .u8) 5 w' w.heap.size (fun _=>True) v0_ r∧Below w.heap.size w w':=by
 have HR0:=aa hr0;have HC0:=aa hc0;clear hr0 hc0;have HR1:=aa hr1;have HC1:=aa hc1;clear hr1 hc1;have HB:=aa (Below.refl w.heap.size w);have H:(if ([]:List Int).length+l0.length<140737488355328 then ((some (([]:List Int)++l0:List Int)).bind fun y296=>(if y296.length+l1.length<140737488355328 then (some (y296++l1)) else (none))) else (none))=some r:=h;clear h;by_cases c3:([]:List Int).length+l0.length<140737488355328
 ·rw [if_pos c3] at H;have LMc3:=aa c3;clear c3;obtain ⟨y296,hy296⟩:∃y_:List Int,y_=(([]:List Int)++l0):=⟨_,rfl⟩;replace H:(if y296.length+l1.length<140737488355328 then (some (y296++l1)) else (none))=some r:=by first|(rw [hy296];with_reducible exact H)|(have H2_:=(aj _ _).symm.trans H;rw [hy296];with_reducible exact H2_)|(have H2_:=(aj _ _).symm.trans H;with_reducible exact H2_)|with_reducible exact H|(rw [hy296];exact H)|exact H
  have Ny296:=aa hy296;clear hy296;by_cases c4:y296.length+l1.length<140737488355328
  ·rw [if_pos c4] at H;have LMc4:=aa c4;clear c4;obtain ⟨y299,hy299⟩:∃y_:List Int,y_=(y296++l1):=⟨_,rfl⟩;replace H:(some y299)=some r:=by first|(rw [hy299];with_reducible exact H)|(have H2_:=(aj _ _).symm.trans H;rw [hy299];with_reducible exact H2_)|(have H2_:=(aj _ _).symm.trans H;with_reducible exact H2_)|with_reducible exact H|(rw [hy299];exact H)|exact H
   have Ny299:=aa hy299;clear hy299;obtain rfl:=ar H;go_in;go_wp2_with (first|((with_reducible refine aM (b:= .append) (xs:=#[.tmp 6, .tmp 7]) rfl ?_);at_builtin;refine Kd.dr (Kd.int .u8) (w0:=w) w.heap.size rfl (.tmp 6) (.tmp 7) 32 5 (.int .u8 0) 1 rfl Tryz.underlying32 ff rfl (by decide) (by omega) (.slice none 0 0) ([]:List Int) l0 _ _ _ (fun _=>True) (fun _=>False) rfl rfl ?aO ?aR (fun _ _ h=>h) (fun _ h=>h.elim) ?aF ?aB ?aS ?aL ?_;(case aR=>repeat (first|exact HR0.1|(with_reducible refine Kd.eU ?_ _)|(with_reducible refine Kd.dZ ?_ _)|(with_reducible refine Kd.jU ?_)));(case aB=>exact (by repeat (first|(with_reducible first|exact HB.1|apply ah|apply ai|apply ay)|exact HB.1)));(case aF=>exact (fun _ _=>trivial));(case aO=>exact ((Kd.cY _ _ _ _ (fun _=>True))));(case aS=>exact (cP (by repeat (first|(with_reducible first|exact HB.1|apply ah|apply ai|apply ay)|exact HB.1))));(case aL=>have:=LMc3.1;omega);intro v297 w5 ho hb hg hat;rw [←Ny296.1] at ho;have n0_:=aa (hb);have n1_:=aa (ho);clear HB;have HB:=n0_;have HO298:=n1_;clear n0_ n1_;clear ho hb hg hat)|((with_reducible refine aM (b:= .append) (xs:=#[.tmp 9, .tmp 10]) rfl ?_);at_builtin;refine Kd.dr (Kd.int .u8) (w0:=w) w.heap.size rfl (.tmp 9) (.tmp 10) 32 5 (.int .u8 0) 1 rfl Tryz.underlying32 ff rfl (by decide) (by omega) v297 y296 l1 _ _ _ (fun _=>True) (fun _=>False) rfl rfl ?aO ?aR (fun _ _ h=>h) (fun _ h=>h.elim) ?aF ?aB ?aS ?aL ?_;(case aR=>repeat (first|exact (Kd.aN HR1.1 HB.1)|(with_reducible refine Kd.eU ?_ _)|(with_reducible refine Kd.dZ ?_ _)|(with_reducible refine Kd.jU ?_)));(case aB=>exact (by repeat (first|(with_reducible first|exact HB.1|apply ah|apply ai|apply ay)|exact HB.1)));(case aF=>exact (fun _ _=>trivial));(case aO=>exact (by (with_reducible repeat (first|apply Kd.cM|apply Kd.cQ|apply Kd.dc));exact HO298.1));(case aS=>exact (cP (by repeat (first|(with_reducible first|exact HB.1|apply ah|apply ai|apply ay)|exact HB.1))));(case aL=>have:=LMc4.1;omega);intro v300 w6 ho hb hg hat;rw [←Ny299.1] at ho;have n0_:=aa (hb);have n1_:=aa (ho);clear HB;clear HO298;have HB:=n0_;have HO301:=n1_;clear n0_ n1_;clear ho hb hg hat));go_ret;exact ⟨_,by first|rfl|(simp [bO,bN]<;>rfl)|(simp [*,bO,bN]<;>rfl),by (with_reducible repeat (first|apply Kd.cM|apply Kd.cQ|apply Kd.dc));exact HO301.1,by repeat (first|(with_reducible first|exact HB.1|apply ah|apply ai|apply ay)|exact HB.1)⟩
  ·rw [if_neg c4] at H;exact absurd H (by simp)
 ·rw [if_neg c3] at H;exact absurd H (by simp)
def gD.f (a0:Int):Option (Int):=if a0=1 then (some 1) else (if a0=2 then (some 2) else (if a0=3 then (some 4) else (some 8)))
theorem gD.calls (a0:Int) (r:Int) (w:World) (h:gD.f a0=some r) :
 Calls Tryz.prog 199 #[.int .i64 a0] w fun e w'=>e = .returned (.int .i64 r)∧av w w':=by
 have H:(if a0=1 then (some 1) else (if a0=2 then (some 2) else (if a0=3 then (some 4) else (some 8))))=some r:=h;clear h;by_cases c2:a0=1
 ·rw [if_pos c2] at H;have c2b0:(a0 == 1)=true:=gw.mpr c2;have c2b1:(a0 != 1)=false:=ci.mpr c2;clear c2;obtain rfl:=ar H;go_in;go_wp2;go_ret;exact ⟨by first|rfl|(simp;done)|(simp [*];done),by repeat (first|exact av.refl _|apply av.step)⟩
 ·rw [if_neg c2] at H;have c2b0:(a0 == 1)=false:=bi.mpr c2;have c2b1:(a0 != 1)=true:=mq.mpr c2;by_cases c3:a0=2
  ·rw [if_pos c3] at H;have c3b0:(a0 == 2)=true:=gw.mpr c3;have c3b1:(a0 != 2)=false:=ci.mpr c3;clear c3;obtain rfl:=ar H;go_in;go_wp2;go_ret;exact ⟨by first|rfl|(simp;done)|(simp [*];done),by repeat (first|exact av.refl _|apply av.step)⟩
  ·rw [if_neg c3] at H;have c3b0:(a0 == 2)=false:=bi.mpr c3;have c3b1:(a0 != 2)=true:=mq.mpr c3;by_cases c4:a0=3
   ·rw [if_pos c4] at H;have c4b0:(a0 == 3)=true:=gw.mpr c4;have c4b1:(a0 != 3)=false:=ci.mpr c4;clear c4;obtain rfl:=ar H;go_in;go_wp2;go_ret;exact ⟨by first|rfl|(simp;done)|(simp [*];done),by repeat (first|exact av.refl _|apply av.step)⟩
   ·rw [if_neg c4] at H;have c4b0:(a0 == 3)=false:=bi.mpr c4;have c4b1:(a0 != 3)=true:=mq.mpr c4;obtain rfl:=ar H;go_in;go_wp2;go_ret;exact ⟨by first|rfl|(simp;done)|(simp [*];done),by repeat (first|exact av.refl _|apply av.step)⟩
def bQ.l0:Nat→List Int→Int→Int→Int→Int→Option (Int)
 | 0,_,_,_,_,_=>none
 | k+1,x0,x1,x2,x7,x8=>if x8<x2 then (if 0≤(wrap64 (x1+x8)) then (if (wrap64 (x1+x8))<(x0.length:Int) then (bQ.l0 k x0 x1 x2 (IntKind.u64.wrap ((IntKind.u64.wrap (x7*256))+(IntKind.u64.wrap (rd x0 (wrap64 (x1+x8)))))) (wrap64 (x8+1))) else (none)) else (none)) else (some x7)
def bQ.f (k:Nat) (l0:List Int) (a1:Int) (a2:Int):Option (Int):=bQ.l0 k l0 a1 a2 0 0
theorem bQ.calls (k:Nat) (A0:Option Addr) (c0:Nat) (l0:List Int) (a1:Int) (a2:Int) (r:Int) (w:World) (hr0:Kd.C (Kd.int .u8) w A0 l0.length l0) (hc0:l0.length≤c0) (h:bQ.f k l0 a1 a2=some r) :
 Calls Tryz.prog 200 #[.slice A0 l0.length c0, .int .i64 a1, .int .i64 a2] w fun e w'=>e = .returned (.int .u64 r)∧av w w':=by
 have HR0:=aa hr0;have HC0:=aa hc0;clear hr0 hc0;have H:(bQ.l0 k l0 a1 a2 0 0)=some r:=h;clear h;have H':=aa H;clear H;go_in;go_wp2;go_loopg [7,8] k (fun kq v7 v8 w'=>∃(x7_1:Int) (x8_1:Int),v7 = .int .u64 x7_1∧v8 = .int .i64 x8_1∧af (bQ.l0 kq l0 a1 a2 x7_1 x8_1=some r)∧af (kq≤k)∧av w w')
 case atStart=>exact ⟨(0),(0),(by first|rfl|(simp;done)|(simp [*];done)),(by first|rfl|(simp;done)|(simp [*];done)),H',⟨Nat.le_refl _⟩,by repeat (first|exact av.refl _|apply av.step)⟩
 case round=>
  clear H';try clear c2
  try clear p2
  obtain ⟨x7_1,x8_1,rfl,rfl,HA,HK1,⟨m1,rfl⟩⟩:=hrel;cases gk with
  | zero=>exact absurd HA.1 (by simp [bQ.l0])
  | succ k1=>
   have H:=HA.1;clear HA;simp only [bQ.l0] at H;by_cases c4:x8_1<a2
   ·rw [if_pos c4] at H;have c4b0:decide (x8_1<a2)=true:=decide_eq_true c4;clear c4;obtain ⟨ji5,hji5⟩:∃j_:Int,(wrap64 (a1+x8_1))=j_:=⟨_,rfl⟩;replace H:(if 0≤(ji5) then (if (ji5)<(l0.length:Int) then (bQ.l0 k1 l0 a1 a2 (IntKind.u64.wrap ((IntKind.u64.wrap (x7_1*256))+(IntKind.u64.wrap (rd l0 (ji5))))) (wrap64 (x8_1+1))) else (none)) else (none))=some r:=by first|(rw [hji5] at H;exact H)|(simp only [hji5] at H ⊢;exact H)
    have hji5w:(IntKind.i64.wrap (a1+x8_1))=ji5:=(lj _).trans hji5;by_cases c6:0≤(ji5)
    ·rw [if_pos c6] at H;have c6b0:decide (0≤(ji5))=true:=decide_eq_true c6;clear c6;by_cases c7:(ji5)<(l0.length:Int)
     ·rw [if_pos c7] at H;have c7b0:decide ((ji5)<(l0.length:Int))=true:=decide_eq_true c7;clear c7;have H':=aa H;clear H;have p344:0≤((ji5):Int):=of_decide_eq_true (by first|(with_reducible assumption)|assumption);have q344:(ji5)<(l0.length:Int):=of_decide_eq_true (by first|(with_reducible assumption)|assumption);obtain ⟨ad344,e344,hx344_0⟩:=Kd.ig HR0.1 (ji5) p344 q344;cases e344
      replace p344:=a8 p344;replace q344:=a8 q344;go_wp2;go_roundg k1
      case measure=>have:=HK1.1;omega
      case rel=>exact ⟨(IntKind.u64.wrap ((IntKind.u64.wrap (x7_1*256))+(IntKind.u64.wrap (rd l0 (ji5))))),(wrap64 (x8_1+1)),(by first|rfl|(simp;done)|(simp only [←hji5]<;>(first|rfl|simp))|(simp [*];done)),(by first|rfl|(simp;done)|(simp [*];done)),H',⟨by have:=HK1.1;omega⟩,by repeat (first|exact av.refl _|apply av.step)⟩
     ·rw [if_neg c7] at H;exact absurd H (by simp)
    ·rw [if_neg c6] at H;exact absurd H (by simp)
   ·rw [if_neg c4] at H;have c4b0:decide (x8_1<a2)=false:=decide_eq_false c4;clear c4;obtain rfl:=ar H;go_wp2;go_ret;exact ⟨by first|rfl|(simp;done)|(simp [*];done),by repeat (first|exact av.refl _|apply av.step)⟩
end Go.Proofs.YtpekmdpbfjdjkaaGreat.aD
namespace Go.Proofs.YtpekmdpbfjdjkaaGreat.plain
open Go.RowKit ag.ax aD cL
theorem td (x d:Int) (h:0≤x):Int.tdiv x d=x / d:=Int.tdiv_eq_ediv_of_nonneg h
theorem tm (x d:Int) (h:0≤x):Int.tmod x d=x % d:=Int.tmod_eq_emod_of_nonneg h
theorem tw (x:Nat):∀(k:Nat) (pre:List Int),x<128 ^ k→x<18446744073709551616→pre.length+k<1000→bn.l0 k (x:Int) pre=some (pre++bu x)∨k=0:=by
 induction x using Nat.strongRecOn with
 | _ x ih=>
  intro k pre hx hs hp;cases k with
  | zero=>exact Or.inr rfl
  | succ k=>
   left;have hw:IntKind.u64.wrap (Int.tdiv (x:Int) 128)=((x / 128:Nat):Int):=by rw [td _ _ (by omega),kj];omega
   rw [bn.l0,hw,tm _ _ (by omega)];by_cases h:x<128
   ·rw [if_pos (by omega),if_pos (by omega),fz h];congr 3;omega
   ·rw [if_neg (by omega),if_pos (by omega)];have hk:x / 128<128 ^ k:=by rw [gQ (by omega)];rw [eK] at hx;omega
    rcases ih (x / 128) (by omega) k (pre++[(128+(x:Int) % 128) % 256]) hk (by omega) (by rw [List.length_append];simp;omega) with e|e
    ·rw [e,iV h,List.append_assoc,List.singleton_append];congr 3;omega
    ·subst e;simp at hk;omega
theorem oq (x:Nat) (h:x<18446744073709551616) (k:Nat) (hk:10≤k) (hk2:k<900):bn.f k (x:Int)=some (bu x):=by
 rcases tw x k [] (Nat.lt_of_lt_of_le h (Nat.le_trans (by decide:18446744073709551616≤128 ^ 10) (cK (by omega) hk))) h (by simp;omega) with e|e
 ·simpa [bn.f] using e
 ·omega
def low (f:Nat→Int):Nat→Int
 | 0=>0
 | j+1=>low f j+f j*128 ^ j
theorem mj (f:Nat→Int) (n:Nat) (h:∀j,j<n→0≤f j∧f j≤127):0≤low f n∧low f n<128 ^ n:=by
 induction n with
 | zero=>simp [low]
 | succ n ih=>
  obtain ⟨h1,h2⟩:=ih (fun j hj=>h j (by omega));have hf:=h n (by omega);have hp:(0:Int)<128 ^ n:=by omega
  have h3:=og hf.1 (iq hp);have h4:=dL hf.2 (iq hp);rw [low,jr];omega
def kf (l:List Int) (p j:Nat):Int:=rd l ((p+j:Nat):Int) % 128
theorem kP (l:List Int) (p j:Nat):0≤kf l p j∧kf l p j≤127:=by unfold kf;omega
theorem rz (l:List Int) (p e:Nat) (hl:l.length≤100000000) (hb:aq l):∀(j k:Nat) (x:Int),p+j≤l.length→0≤x→x*128 ^ j+low (kf l p) j<18446744073709551616→j+1≤k→
 au.l1 k l (p:Int) (e:Int) x (((p+j:Nat):Int) - 1)=(bn.f (k - j - 1) (x*128 ^ j+low (kf l p) j)).bind fun t=>(if (t.length:Int)=(wrap64 ((wrap64 ((e:Int)+1)) - (p:Int))) then (some (x*128 ^ j+low (kf l p) j,(t.length:Int),0)) else (some (0,0,22))):=by
 intro j;induction j with
 | zero=>
  intro k x hj hx hlt hk;obtain ⟨k,rfl⟩:∃m,k=m+1:=⟨k - 1,by omega⟩;rw [au.l1,if_neg (by omega)];simp [low]
 | succ j ih=>
  intro k x hj hx hlt hk;obtain ⟨k,rfl⟩:∃m,k=m+1:=⟨k - 1,by omega⟩;have hp:(0:Int)<128 ^ j:=Int.pow_pos (by omega);have hd:=kP l p j;have hlo:=mj (kf l p) j (fun q _=>kP l p q);have e1:x*128 ^ (j+1)+low (kf l p) (j+1)=(x*128+kf l p j)*128 ^ j+low (kf l p) j:=by
   rw [low,jr,Eu,mV (128 ^ j) 128,←pN];omega
  have hbd:x*128+kf l p j<18446744073709551616:=by
   have h5:0≤x*128+kf l p j:=by omega
   have h6:=Int.mul_le_mul_of_nonneg_left (show (1:Int)≤128 ^ j by omega) h5;rw [e1] at hlt;omega
  have hc:((p+(j+1):Nat):Int) - 1=((p+j:Nat):Int):=by omega
  have hr0:0≤rd l ((p+j:Nat):Int):=by
   have:=hb (rd l ((p+j:Nat):Int)) (by simp only [rd,List.getD_eq_getElem?_getD,Int.toNat_natCast,List.getElem?_eq_getElem (show p+j<l.length by omega),Option.getD_some];exact List.getElem_mem _);omega
  have hw:IntKind.u64.wrap ((IntKind.u64.wrap (x*128))+(IntKind.u64.wrap (Int.tmod (rd l ((p+j:Nat):Int)) 128)))=x*128+kf l p j:=by
   rw [tm _ _ hr0,kj,kj,kj];show _=x*128+rd l ((p+j:Nat):Int) % 128;have:kf l p j=rd l ((p+j:Nat):Int) % 128:=rfl;omega
  have hw2:wrap64 (((p+j:Nat):Int) - 1)=((p+j:Nat):Int) - 1:=IntWalk.wrap64_in _ (by omega);rw [hc,au.l1,if_pos (by omega),if_pos (by omega),if_pos (by omega),hw,hw2,ih k (x*128+kf l p j) (by omega) (by omega) (by rw [←e1];exact hlt) (by omega),←e1,show k+1 - (j+1) - 1=k - j - 1 by omega]
theorem oc (x i:Nat) (h:128 ^ i≤x):i+1≤(bu x).length:=by
 induction i generalizing x with
 | zero=>exact pr x
 | succ i ih=>
  have h1:128≤128 ^ (i+1):=by rw [eK];have:=Nat.pow_pos (n:=i) (show 0<128 by omega);omega
  rw [iV (by omega),List.length_cons];have:=ih (x / 128) (by rw [Nat.le_div_iff_mul_le (by omega)];rw [eK] at h;exact h);omega
theorem mP (l:List Int) (p i k:Nat) (c:Int) (hl:l.length≤100000000) (hb:aq l) (hp:p+i<l.length) (hc:rd l ((p+i:Nat):Int)=c) (hc0:0≤c) (hc1:c<128) (hi:i≤9) (h9:i=9→c≤1) (hk:25≤k) (hk2:k<900) :
 au.l1 k l (p:Int) ((p+i:Nat):Int) 0 ((p+i:Nat):Int)=if c=0∧0<i then some (0,0,22) else some (low (kf l p) i+c*128 ^ i,(i:Int)+1,0):=by
 have hk10:10≤k - (i+1) - 1:=by omega
 have hk11:k - (i+1) - 1<900:=by omega
 have hdig:kf l p i=c:=by unfold kf;rw [hc];omega
 have hlo:=mj (kf l p) i (fun q _=>kP l p q);have hX:low (kf l p) (i+1)=low (kf l p) i+c*128 ^ i:=by rw [low,hdig]
 have hpow:(128:Int) ^ i=((128 ^ i:Nat):Int):=by rw [Int.natCast_pow];rfl
 have hpp:(0:Int)<128 ^ i:=Int.pow_pos (by omega);have hb64:low (kf l p) i+c*128 ^ i<18446744073709551616:=by
  have h3:c*128 ^ i≤127*128 ^ i:=dL (by omega) (iq hpp);have h5:i=9→c*128 ^ i≤1*128 ^ i:=fun e9=>dL (h9 e9) (iq hpp);have h6:i≤8→128 ^ i≤72057594037927936:=fun h8=>Nat.le_trans (cK (n:=128) (by omega) h8) (by decide);have h7:128 ^ i≤9223372036854775808:=Nat.le_trans (cK (n:=128) (by omega) hi) (by decide);have h2:=hlo.2;rw [hpow] at h2 h3 h5 ⊢;generalize 128 ^ i=N at h2 h3 h5 h6 h7 ⊢;generalize c*(N:Int)=M at h3 h5 ⊢;omega
 have h0:0≤low (kf l p) i+c*128 ^ i:=by have:=og hc0 (iq hpp);omega
 have hlb:=rz l p (p+i) hl hb (i+1) k 0 (by omega) (by omega) (by rw [hX];simpa using hb64) (by omega);rw [show ((p+(i+1):Nat):Int) - 1=((p+i:Nat):Int) by omega] at hlb;rw [hlb,hX,sj,Int.zero_add];obtain ⟨X,hXn⟩:=Int.eq_ofNat_of_zero_le h0;have hw:wrap64 (wrap64 (((p+i:Nat):Int)+1) - (p:Int))=((i+1:Nat):Int):=by rw [IntWalk.wrap64_in (((p+i:Nat):Int)+1) (by omega),IntWalk.wrap64_in _ (by omega)];omega
 have hX64:X<18446744073709551616:=by rw [hXn] at hb64;omega
 have hgk:=oq X hX64 (k - (i+1) - 1) hk10 hk11;rw [hw,hXn,hgk,aj];have hXlt:X<128 ^ (i+1):=by
  have:=(mj (kf l p) (i+1) (fun q _=>kP l p q)).2;rw [hX,hXn] at this;have e:(128:Int) ^ (i+1)=((128 ^ (i+1):Nat):Int):=by rw [Int.natCast_pow];rfl
  rw [e] at this;exact Int.ofNat_lt.1 this
 have hle:=jl X i hXlt;by_cases hz:c=0∧0<i
 ·rw [if_pos hz];obtain ⟨rfl,hi0⟩:=hz;obtain ⟨m,rfl⟩:∃m,i=m+1:=⟨i - 1,by omega⟩;have hlt:X<128 ^ (m+1):=by
   rw [sj,Int.add_zero] at hXn;have h2:=hlo.2;rw [hXn,hpow] at h2;exact Int.ofNat_lt.1 h2
  have hne:¬((bu X).length:Int)=((m+1+1:Nat):Int):=by have:=jl X m hlt;clear hlb hX hXn hlo hpow hpp hb64 h0 hgk hXlt hlt;omega
  rw [if_neg hne]
 ·rw [if_neg hz];have hge:i+1≤(bu X).length:=by
   by_cases hi0:0<i
   ·refine oc X i ?_;have hcge:1≤c:=by clear hlb hX hXn hlo hpow hpp hb64 h0 hgk hXlt;omega
    have h5:1*128 ^ i≤c*128 ^ i:=dL hcge (iq hpp);rw [hpow] at h5 hXn;have:((128 ^ i:Nat):Int)≤(X:Int):=by have h2:=hlo.1;clear hlb hX hpow hpp hb64 h0 hgk hXlt hlo;generalize c*((128 ^ i:Nat):Int)=M at *;generalize 128 ^ i=N at *;omega
    exact Int.ofNat_le.1 this
   ·have:=pr X;clear hlb hX hXn hlo hpow hpp hb64 h0 hgk hXlt;omega
  have heq:(bu X).length=i+1:=by clear hlb hX hXn hlo hpow hpp hb64 h0 hgk hXlt;omega
  rw [heq,if_pos rfl];rfl
theorem se (l:List Int) (p:Nat) (hl:l.length≤100000000) (hb:aq l):∀(d i k:Nat),i+d=9→p+i≤l.length→45≤k+i→k<900→
 ∃e,au.l0 k l (p:Int) ((p+i:Nat):Int)=some ((gq i (low (kf l p) i) (l.drop (p+i))).1,(gq i (low (kf l p) i) (l.drop (p+i))).2.1,e)∧(e=0↔(gq i (low (kf l p) i) (l.drop (p+i))).2.2=0):=by
 intro d;induction d with
 | zero=>
  intro i k hi hp hk hk2;obtain ⟨k,rfl⟩:∃m,k=m+3:=⟨k - 3,by omega⟩;have e9:i=9:=by omega
  have hw9:wrap64 ((p:Int)+9)=(p:Int)+9:=IntWalk.wrap64_in _ (by omega);by_cases hlt:p+i<l.length
  ·have hdr:l.drop (p+i)=rd l ((p+i:Nat):Int)::l.drop (p+i+1):=by
    rw [ap hlt];congr 1;simp only [rd,List.getD_eq_getElem?_getD,Int.toNat_natCast,List.getElem?_eq_getElem hlt,Option.getD_some]
   have hc:=hb (rd l ((p+i:Nat):Int)) (by simp only [rd,List.getD_eq_getElem?_getD,Int.toNat_natCast,List.getElem?_eq_getElem hlt,Option.getD_some];exact List.getElem_mem hlt);generalize hcc:rd l ((p+i:Nat):Int)=c at hdr hc;rw [hdr];by_cases h1:1<c
   ·have hh:gq i (low (kf l p) i) (c::l.drop (p+i+1))=(0,0,23):=by rw [gq,if_pos ⟨e9,h1⟩]
    rw [hh,au.l0,if_pos (by omega),hw9,if_neg (by omega),au.j1,if_neg (by omega),hw9,if_pos (by omega),if_pos (by omega),if_pos (by omega),au.j2,hcc,if_pos (decide_eq_true h1)];exact ⟨23,rfl,by simp⟩
   ·have hh:gq i (low (kf l p) i) (c::l.drop (p+i+1))=if c=0∧0<i then (0,0,22) else (low (kf l p) i+c*128 ^ i,(i:Int)+1,0):=by rw [gq,if_neg (fun h=>h1 h.2),if_pos (by omega)]
    rw [hh,au.l0,if_pos (by omega),hw9,if_neg (by omega),au.j1,if_neg (by omega),hw9,if_pos (by omega),if_pos (by omega),if_pos (by omega),au.j2,hcc,if_neg (by simpa using h1),mP l p i k c hl hb hlt hcc hc.1 (by omega) (by omega) (fun _=>by omega) (by omega) (by omega)];split
    ·exact ⟨22,rfl,by simp⟩
    ·exact ⟨0,rfl,by simp⟩
  ·rw [List.drop_eq_nil_of_le (by omega),gq,au.l0,if_neg (by omega),au.j1,if_pos (by omega)];exact ⟨21,rfl,by simp⟩
 | succ d ih=>
  intro i k hi hp hk hk2;obtain ⟨k,rfl⟩:∃m,k=m+3:=⟨k - 3,by omega⟩;have hw9:wrap64 ((p:Int)+9)=(p:Int)+9:=IntWalk.wrap64_in _ (by omega);by_cases hlt:p+i<l.length
  ·have hdr:l.drop (p+i)=rd l ((p+i:Nat):Int)::l.drop (p+i+1):=by
    rw [ap hlt];congr 1;simp only [rd,List.getD_eq_getElem?_getD,Int.toNat_natCast,List.getElem?_eq_getElem hlt,Option.getD_some]
   have hc:=hb (rd l ((p+i:Nat):Int)) (by simp only [rd,List.getD_eq_getElem?_getD,Int.toNat_natCast,List.getElem?_eq_getElem hlt,Option.getD_some];exact List.getElem_mem hlt);generalize hcc:rd l ((p+i:Nat):Int)=c at hdr hc;rw [hdr];by_cases h1:c<128
   ·have hh:gq i (low (kf l p) i) (c::l.drop (p+i+1))=if c=0∧0<i then (0,0,22) else (low (kf l p) i+c*128 ^ i,(i:Int)+1,0):=by rw [gq,if_neg (by omega),if_pos h1]
    rw [hh,au.l0,if_pos (by omega),hw9,if_pos (by omega),if_pos (by omega),hcc,if_neg (by omega),au.j1,if_neg (by omega),hw9,if_neg (by omega),au.j2,if_neg (by simp),mP l p i k c hl hb hlt hcc hc.1 h1 (by omega) (fun _=>by omega) (by omega) (by omega)];split
    ·exact ⟨22,rfl,by simp⟩
    ·exact ⟨0,rfl,by simp⟩
   ·have hw:wrap64 (((p+i:Nat):Int)+1)=((p+(i+1):Nat):Int):=by rw [IntWalk.wrap64_in _ (by omega)];omega
    have e:low (kf l p) i+(c - 128)*128 ^ i=low (kf l p) (i+1):=by
     rw [low];congr 2;unfold kf;rw [hcc];omega
    have hh:gq i (low (kf l p) i) (c::l.drop (p+i+1))=gq (i+1) (low (kf l p) (i+1)) (l.drop (p+(i+1))):=by rw [gq,if_neg (by omega),if_neg h1,e,Nat.add_assoc]
    rw [hh,au.l0,if_pos (by omega),hw9,if_pos (by omega),if_pos (by omega),hcc,if_pos (by omega),hw];exact ih (i+1) (k+2) (by omega) (by omega) (by omega) (by omega)
  ·rw [List.drop_eq_nil_of_le (by omega),gq,au.l0,if_neg (by omega),au.j1,if_pos (by omega)];exact ⟨21,rfl,by simp⟩
theorem nL (l:List Int) (p:Nat) (hl:l.length≤100000000) (hb:aq l) (hp:p≤l.length) :
 ∃e,au.f 60 l (p:Int)=some ((gq 0 0 (l.drop p)).1,(gq 0 0 (l.drop p)).2.1,e)∧(e=0↔(gq 0 0 (l.drop p)).2.2=0):=by
 have h:=se l p hl hb 9 0 60 (by omega) (by omega) (by omega) (by omega);simpa [low,au.f] using h
theorem ES (l:List Int) (p n:Nat) (hl:l.length≤100000000) (hb:aq l) (hp:p+n≤l.length) (hn:n≤8):bQ.f 20 l (p:Int) (n:Int)=some (val ((l.drop p).take n)):=by
 have key:∀(d i k:Nat),i+d=n→d+1≤k→bQ.l0 k l (p:Int) (n:Int) (val ((l.drop p).take i)) (i:Int)=some (val ((l.drop p).take n)):=by
  intro d;induction d with
  | zero=>
   intro i k hi hk;obtain ⟨k,rfl⟩:∃m,k=m+1:=⟨k - 1,by omega⟩;rw [bQ.l0,if_neg (by omega),show i=n by omega]
  | succ d ih=>
   intro i k hi hk;obtain ⟨k,rfl⟩:∃m,k=m+1:=⟨k - 1,by omega⟩;have hw:wrap64 ((p:Int)+(i:Int))=((p+i:Nat):Int):=by rw [IntWalk.wrap64_in _ (by omega)];omega
   have hw1:wrap64 ((i:Int)+1)=((i+1:Nat):Int):=by rw [IntWalk.wrap64_in _ (by omega)];omega
   have hlt:i<(l.drop p).length:=by rw [List.length_drop];omega
   have hs:(l.drop p).take (i+1)=(l.drop p).take i++[rd l ((p+i:Nat):Int)]:=by
    rw [bz hlt];congr 2;simp only [rd,List.getD_eq_getElem?_getD,Int.toNat_natCast,List.getElem?_eq_getElem (show p+i<l.length by omega),Option.getD_some,List.getElem_drop]
   have hbd:=i7 ((l.drop p).take (i+1)) (fun c hc=>hb c (bh (List.mem_of_mem_take hc)));have hbd0:=i7 ((l.drop p).take i) (fun c hc=>hb c (bh (List.mem_of_mem_take hc)));have hc:=hb (rd l ((p+i:Nat):Int)) (by simp only [rd,List.getD_eq_getElem?_getD,Int.toNat_natCast,List.getElem?_eq_getElem (show p+i<l.length by omega),Option.getD_some];exact List.getElem_mem _);have h8:(256:Int) ^ ((l.drop p).take (i+1)).length≤18446744073709551616:=by
    have e1:((l.drop p).take (i+1)).length≤8:=by rw [List.length_take];omega
    have:=cK (n:=256) (by omega) e1;have e2:(256:Int) ^ ((l.drop p).take (i+1)).length=((256 ^ ((l.drop p).take (i+1)).length:Nat):Int):=by rw [Int.natCast_pow];rfl
    rw [e2];exact Int.ofNat_le.2 (Nat.le_trans this (by decide))
   have hv:val ((l.drop p).take (i+1))=val ((l.drop p).take i)*256+rd l ((p+i:Nat):Int):=by rw [hs,qg]
   rw [bQ.l0,if_pos (by omega),hw,if_pos (by omega),if_pos (by omega),hw1];have hww:IntKind.u64.wrap (IntKind.u64.wrap (val ((l.drop p).take i)*256)+IntKind.u64.wrap (rd l ((p+i:Nat):Int)))=val ((l.drop p).take (i+1)):=by
    rw [kj,kj,kj];rw [hv] at hbd ⊢;omega
   rw [hww];exact ih (i+1) k (by omega) (by omega)
 have:=key n 0 20 (by omega) (by omega);simpa [bQ.f,val] using this
end Go.Proofs.YtpekmdpbfjdjkaaGreat.plain