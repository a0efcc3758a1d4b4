/- Part 15 of the proof that a state's bytes are the document's. No condition. -/
import Derived.Test.YtpekmdpbfjdjkaaGreatZ14
set_option maxHeartbeats 16000000
set_option maxRecDepth 100000
set_option linter.all false
namespace Go.Proofs.YtpekmdpbfjdjkaaGreat.aD
open Go.RowKit ag.ax ag.aV ag.aU
def aH.l0:Nat→Int→List Int→Int→Int→Int→Option (Int)
 | 0,_,_,_,_,_=>none
 | k+1,x0,x1,x5,x6,x7=>if x7<x6 then (if x7<(wrap64 (8*(x1.length:Int))) then (if 0≤(wrap64 (Int.tdiv x7 8)) then (if (wrap64 (Int.tdiv x7 8))<(x1.length:Int) then (if 0≤(Int.tmod x7 8) then (if x7<32 then (if 0≤x7 then ((bH.f x5 (Go.bits .xor .u64 (Go.bits .and .u64 (IntKind.u64.wrap (shr .u8 (rd x1 (wrap64 (Int.tdiv x7 8))) (Int.tmod x7 8))) 1) (Go.bits .and .u64 (IntKind.u64.wrap (shr .u32 x0 x7)) 1))).bind fun t180=>(aH.l0 k x0 x1 t180 x6 (wrap64 (x7+1)))) else (none)) else ((bH.f x5 (Go.bits .and .u64 (IntKind.u64.wrap (shr .u8 (rd x1 (wrap64 (Int.tdiv x7 8))) (Int.tmod x7 8))) 1)).bind fun t181=>(aH.l0 k x0 x1 t181 x6 (wrap64 (x7+1))))) else (none)) else (none)) else (none)) else (if x7<32 then (if 0≤x7 then ((bH.f x5 (Go.bits .xor .u64 0 (Go.bits .and .u64 (IntKind.u64.wrap (shr .u32 x0 x7)) 1))).bind fun t182=>(aH.l0 k x0 x1 t182 x6 (wrap64 (x7+1)))) else (none)) else ((bH.f x5 0).bind fun t183=>(aH.l0 k x0 x1 t183 x6 (wrap64 (x7+1)))))) else ((bU.f k x5).bind fun t178=>(some ((t178) % 4294967296)))
def aH.f (k:Nat) (a0:Int) (l1:List Int):Option (Int):=aH.l0 k a0 l1 0 (wrap64 ((wrap64 (8*(l1.length:Int)))+32)) 0
theorem aH.calls (k:Nat) (a0:Int) (A1:Option Addr) (c1:Nat) (l1:List Int) (r:Int) (w:World) (hr1:Kd.C (Kd.int .u8) w A1 l1.length l1) (hc1:l1.length≤c1) (h:aH.f k a0 l1=some r) :
 Calls Tryz.prog 125 #[.int .u32 a0, .slice A1 l1.length c1] w fun e w'=>e = .returned (.int .u32 r)∧av w w':=by
 have HR1:=aa hr1;have HC1:=aa hc1;clear hr1 hc1;have H:(aH.l0 k a0 l1 0 (wrap64 ((wrap64 (8*(l1.length:Int)))+32)) 0)=some r:=h;clear h;have H':=aa H;clear H;go_in;go_wp2;go_loopg [5,7] k (fun kq v5 v7 w'=>∃(x5_1:Int) (x7_1:Int),v5 = .int .u64 x5_1∧v7 = .int .i64 x7_1∧af (aH.l0 kq a0 l1 x5_1 (wrap64 ((wrap64 (8*(l1.length:Int)))+32)) x7_1=some r)∧af (kq≤k)∧av w w')
 case atStart=>exact ⟨(0),(0),(by first|rfl|(simp;done)|(simp [*];done)),(by first|rfl|(simp;done)|(simp [*];done)),H',⟨Nat.le_refl _⟩,by repeat (first|exact av.refl _|apply av.step)⟩
 case round=>
  clear H';try clear c1
  try clear p2
  obtain ⟨x5_1,x7_1,rfl,rfl,HA,HK1,⟨m1,rfl⟩⟩:=hrel;cases gk with
  | zero=>exact absurd HA.1 (by simp [aH.l0])
  | succ k1=>
   have H:=HA.1;clear HA;simp only [aH.l0] at H;by_cases c3:x7_1<(wrap64 ((wrap64 (8*(l1.length:Int)))+32))
   ·rw [if_pos c3] at H;have c3b0:decide (x7_1<(wrap64 ((wrap64 (8*(l1.length:Int)))+32)))=true:=decide_eq_true c3;clear c3;by_cases c4:x7_1<(wrap64 (8*(l1.length:Int)))
    ·rw [if_pos c4] at H;have c4b0:decide (x7_1<(wrap64 (8*(l1.length:Int))))=true:=decide_eq_true c4;clear c4;obtain ⟨ji5,hji5⟩:∃j_:Int,(wrap64 (Int.tdiv x7_1 8))=j_:=⟨_,rfl⟩;replace H:(if 0≤(ji5) then (if (ji5)<(l1.length:Int) then (if 0≤(Int.tmod x7_1 8) then (if x7_1<32 then (if 0≤x7_1 then ((bH.f x5_1 (Go.bits .xor .u64 (Go.bits .and .u64 (IntKind.u64.wrap (shr .u8 (rd l1 (ji5)) (Int.tmod x7_1 8))) 1) (Go.bits .and .u64 (IntKind.u64.wrap (shr .u32 a0 x7_1)) 1))).bind fun t180=>(aH.l0 k1 a0 l1 t180 (wrap64 ((wrap64 (8*(l1.length:Int)))+32)) (wrap64 (x7_1+1)))) else (none)) else ((bH.f x5_1 (Go.bits .and .u64 (IntKind.u64.wrap (shr .u8 (rd l1 (ji5)) (Int.tmod x7_1 8))) 1)).bind fun t181=>(aH.l0 k1 a0 l1 t181 (wrap64 ((wrap64 (8*(l1.length:Int)))+32)) (wrap64 (x7_1+1))))) else (none)) else (none)) else (none))=some r:=by first|(rw [hji5] at H;exact H)|(simp only [hji5] at H ⊢;exact H)
     have hji5w:(IntKind.i64.wrap (Int.tdiv x7_1 8))=ji5:=(lj _).trans hji5;by_cases c6:0≤(ji5)
     ·rw [if_pos c6] at H;have c6b0:decide (0≤(ji5))=true:=decide_eq_true c6;clear c6;by_cases c7:(ji5)<(l1.length:Int)
      ·rw [if_pos c7] at H;have c7b0:decide ((ji5)<(l1.length:Int))=true:=decide_eq_true c7;clear c7;obtain ⟨ji8,hji8⟩:∃j_:Int,(Int.tmod x7_1 8)=j_:=⟨_,rfl⟩;replace H:(if 0≤(ji8) then (if x7_1<32 then (if 0≤x7_1 then ((bH.f x5_1 (Go.bits .xor .u64 (Go.bits .and .u64 (IntKind.u64.wrap (shr .u8 (rd l1 (ji5)) (ji8))) 1) (Go.bits .and .u64 (IntKind.u64.wrap (shr .u32 a0 x7_1)) 1))).bind fun t180=>(aH.l0 k1 a0 l1 t180 (wrap64 ((wrap64 (8*(l1.length:Int)))+32)) (wrap64 (x7_1+1)))) else (none)) else ((bH.f x5_1 (Go.bits .and .u64 (IntKind.u64.wrap (shr .u8 (rd l1 (ji5)) (ji8))) 1)).bind fun t181=>(aH.l0 k1 a0 l1 t181 (wrap64 ((wrap64 (8*(l1.length:Int)))+32)) (wrap64 (x7_1+1))))) else (none))=some r:=by first|(rw [hji8] at H;exact H)|(simp only [hji8] at H ⊢;exact H)
       by_cases c9:0≤(ji8)
       ·rw [if_pos c9] at H;have c9b0:=a8 c9;have c9b1:decide (0≤(ji8))=true:=decide_eq_true c9;clear c9;obtain ⟨ji10,hji10⟩:∃j_:Int,(shr .u8 (rd l1 (ji5)) (ji8))=j_:=⟨_,rfl⟩;replace H:(if x7_1<32 then (if 0≤x7_1 then ((bH.f x5_1 (Go.bits .xor .u64 (Go.bits .and .u64 (IntKind.u64.wrap (ji10)) 1) (Go.bits .and .u64 (IntKind.u64.wrap (shr .u32 a0 x7_1)) 1))).bind fun t180=>(aH.l0 k1 a0 l1 t180 (wrap64 ((wrap64 (8*(l1.length:Int)))+32)) (wrap64 (x7_1+1)))) else (none)) else ((bH.f x5_1 (Go.bits .and .u64 (IntKind.u64.wrap (ji10)) 1)).bind fun t181=>(aH.l0 k1 a0 l1 t181 (wrap64 ((wrap64 (8*(l1.length:Int)))+32)) (wrap64 (x7_1+1)))))=some r:=by first|(rw [hji10] at H;exact H)|(simp only [hji10] at H ⊢;exact H)
        have hji10_:((rd l1 (ji5)) / 2 ^ min (ji8).toNat 8)=ji10:=hji10;have hji10z:(ji8)≤8→((rd l1 (ji5)) / 2 ^ (ji8).toNat)=ji10:=iZ hji10;by_cases c11:x7_1<32
        ·rw [if_pos c11] at H;have c11b0:decide (x7_1<32)=true:=decide_eq_true c11;clear c11;by_cases c12:0≤x7_1
         ·rw [if_pos c12] at H;have c12b0:=a8 c12;have c12b1:decide (0≤x7_1)=true:=decide_eq_true c12;clear c12;obtain ⟨ji13,hji13⟩:∃j_:Int,(shr .u32 a0 x7_1)=j_:=⟨_,rfl⟩;replace H:((bH.f x5_1 (Go.bits .xor .u64 (Go.bits .and .u64 (IntKind.u64.wrap (ji10)) 1) (Go.bits .and .u64 (IntKind.u64.wrap (ji13)) 1))).bind fun t180=>(aH.l0 k1 a0 l1 t180 (wrap64 ((wrap64 (8*(l1.length:Int)))+32)) (wrap64 (x7_1+1))))=some r:=by first|(rw [hji13] at H;exact H)|(simp only [hji13] at H ⊢;exact H)
          have hji13_:(a0 / 2 ^ min x7_1.toNat 32)=ji13:=hji13;have hji13z:x7_1≤32→(a0 / 2 ^ x7_1.toNat)=ji13:=iZ hji13;replace H:=Option.bind_eq_some_iff.mp H;obtain ⟨t180,A140,H⟩:=H;replace H:(aH.l0 k1 a0 l1 t180 (wrap64 ((wrap64 (8*(l1.length:Int)))+32)) (wrap64 (x7_1+1)))=some r:=H;have A14:=aa A140;clear A140;have H':=aa H;clear H;have p179:0≤((ji5):Int):=of_decide_eq_true (by first|(with_reducible assumption)|assumption);have q179:(ji5)<(l1.length:Int):=of_decide_eq_true (by first|(with_reducible assumption)|assumption);obtain ⟨ad179,e179,hx179_0⟩:=Kd.ig HR1.1 (ji5) p179 q179;cases e179
          replace p179:=a8 p179;replace q179:=a8 q179;go_wp2_with (first|((with_reducible refine dB (f:=151) rfl ?_);refine gW (some 44) rfl rfl Tryz.func151 (by kernel_rfl) rfl #[.int .u64 x5_1, .int .u64 (Go.bits .xor .u64 (Go.bits .and .u64 (IntKind.u64.wrap (ji10)) 1) (Go.bits .and .u64 (IntKind.u64.wrap (ji13)) 1))] rfl (by (try simp only [List.map_toArray,List.map_cons,List.map_nil]);first|done|(simp only [hji10,hji13];rfl)|rfl|(simp only [aE,List.length_take];rfl)) ?_;(with_reducible refine (bH.calls x5_1 (Go.bits .xor .u64 (Go.bits .and .u64 (IntKind.u64.wrap (ji10)) 1) (Go.bits .and .u64 (IntKind.u64.wrap (ji13)) 1)) t180 _ A14.1).mono ?_);rintro e w' ⟨rfl,⟨nd,rfl⟩⟩;refine ⟨_,rfl,?_⟩));go_roundg k1
          case measure=>have:=HK1.1;omega
          case rel=>exact ⟨(t180),(wrap64 (x7_1+1)),(by first|rfl|(simp;done)|(simp [*];done)),(by first|rfl|(simp;done)|(simp [*];done)),H',⟨by have:=HK1.1;omega⟩,by repeat (first|exact av.refl _|apply av.step)⟩
         ·rw [if_neg c12] at H;exact absurd H (by simp)
        ·rw [if_neg c11] at H;have c11b0:decide (x7_1<32)=false:=decide_eq_false c11;clear c11;replace H:=Option.bind_eq_some_iff.mp H;obtain ⟨t181,A150,H⟩:=H;replace H:(aH.l0 k1 a0 l1 t181 (wrap64 ((wrap64 (8*(l1.length:Int)))+32)) (wrap64 (x7_1+1)))=some r:=H;have A15:=aa A150;clear A150;have H':=aa H;clear H;have p179:0≤((ji5):Int):=of_decide_eq_true (by first|(with_reducible assumption)|assumption);have q179:(ji5)<(l1.length:Int):=of_decide_eq_true (by first|(with_reducible assumption)|assumption);obtain ⟨ad179,e179,hx179_0⟩:=Kd.ig HR1.1 (ji5) p179 q179;cases e179
         replace p179:=a8 p179;replace q179:=a8 q179;go_wp2_with (first|((with_reducible refine dB (f:=151) rfl ?_);refine gW (some 44) rfl rfl Tryz.func151 (by kernel_rfl) rfl #[.int .u64 x5_1, .int .u64 (Go.bits .and .u64 (IntKind.u64.wrap (ji10)) 1)] rfl (by (try simp only [List.map_toArray,List.map_cons,List.map_nil]);first|done|(simp only [hji10];rfl)|rfl|(simp only [aE,List.length_take];rfl)) ?_;(with_reducible refine (bH.calls x5_1 (Go.bits .and .u64 (IntKind.u64.wrap (ji10)) 1) t181 _ A15.1).mono ?_);rintro e w' ⟨rfl,⟨nd,rfl⟩⟩;refine ⟨_,rfl,?_⟩));go_roundg k1
         case measure=>have:=HK1.1;omega
         case rel=>exact ⟨(t181),(wrap64 (x7_1+1)),(by first|rfl|(simp;done)|(simp [*];done)),(by first|rfl|(simp;done)|(simp [*];done)),H',⟨by have:=HK1.1;omega⟩,by repeat (first|exact av.refl _|apply av.step)⟩
       ·rw [if_neg c9] at H;exact absurd H (by simp)
      ·rw [if_neg c7] at H;exact absurd H (by simp)
     ·rw [if_neg c6] at H;exact absurd H (by simp)
    ·rw [if_neg c4] at H;have c4b0:decide (x7_1<(wrap64 (8*(l1.length:Int))))=false:=decide_eq_false c4;clear c4;by_cases c16:x7_1<32
     ·rw [if_pos c16] at H;have c16b0:decide (x7_1<32)=true:=decide_eq_true c16;clear c16;by_cases c17:0≤x7_1
      ·rw [if_pos c17] at H;have c17b0:=a8 c17;have c17b1:decide (0≤x7_1)=true:=decide_eq_true c17;clear c17;obtain ⟨ji18,hji18⟩:∃j_:Int,(shr .u32 a0 x7_1)=j_:=⟨_,rfl⟩;replace H:((bH.f x5_1 (Go.bits .xor .u64 0 (Go.bits .and .u64 (IntKind.u64.wrap (ji18)) 1))).bind fun t182=>(aH.l0 k1 a0 l1 t182 (wrap64 ((wrap64 (8*(l1.length:Int)))+32)) (wrap64 (x7_1+1))))=some r:=by first|(rw [hji18] at H;exact H)|(simp only [hji18] at H ⊢;exact H)
       have hji18_:(a0 / 2 ^ min x7_1.toNat 32)=ji18:=hji18;have hji18z:x7_1≤32→(a0 / 2 ^ x7_1.toNat)=ji18:=iZ hji18;replace H:=Option.bind_eq_some_iff.mp H;obtain ⟨t182,A190,H⟩:=H;replace H:(aH.l0 k1 a0 l1 t182 (wrap64 ((wrap64 (8*(l1.length:Int)))+32)) (wrap64 (x7_1+1)))=some r:=H;have A19:=aa A190;clear A190;have H':=aa H;clear H;go_wp2_with (first|((with_reducible refine dB (f:=151) rfl ?_);refine gW (some 44) rfl rfl Tryz.func151 (by kernel_rfl) rfl #[.int .u64 x5_1, .int .u64 (Go.bits .xor .u64 0 (Go.bits .and .u64 (IntKind.u64.wrap (ji18)) 1))] rfl (by (try simp only [List.map_toArray,List.map_cons,List.map_nil]);first|done|(simp only [hji18];rfl)|rfl|(simp only [aE,List.length_take];rfl)) ?_;(with_reducible refine (bH.calls x5_1 (Go.bits .xor .u64 0 (Go.bits .and .u64 (IntKind.u64.wrap (ji18)) 1)) t182 _ A19.1).mono ?_);rintro e w' ⟨rfl,⟨nd,rfl⟩⟩;refine ⟨_,rfl,?_⟩));go_roundg k1
       case measure=>have:=HK1.1;omega
       case rel=>exact ⟨(t182),(wrap64 (x7_1+1)),(by first|rfl|(simp;done)|(simp [*];done)),(by first|rfl|(simp;done)|(simp [*];done)),H',⟨by have:=HK1.1;omega⟩,by repeat (first|exact av.refl _|apply av.step)⟩
      ·rw [if_neg c17] at H;exact absurd H (by simp)
     ·rw [if_neg c16] at H;have c16b0:decide (x7_1<32)=false:=decide_eq_false c16;clear c16;replace H:=Option.bind_eq_some_iff.mp H;obtain ⟨t183,A200,H⟩:=H;replace H:(aH.l0 k1 a0 l1 t183 (wrap64 ((wrap64 (8*(l1.length:Int)))+32)) (wrap64 (x7_1+1)))=some r:=H;have A20:=aa A200;clear A200;have H':=aa H;clear H;go_wp2_with (first|((with_reducible refine dB (f:=151) rfl ?_);refine gW (some 44) rfl rfl Tryz.func151 (by kernel_rfl) rfl #[.int .u64 x5_1, .int .u64 0] rfl (by (try simp only [List.map_toArray,List.map_cons,List.map_nil]);first|done|rfl|(simp only [aE,List.length_take];rfl)) ?_;(with_reducible refine (bH.calls x5_1 0 t183 _ A20.1).mono ?_);rintro e w' ⟨rfl,⟨nd,rfl⟩⟩;refine ⟨_,rfl,?_⟩));go_roundg k1
      case measure=>have:=HK1.1;omega
      case rel=>exact ⟨(t183),(wrap64 (x7_1+1)),(by first|rfl|(simp;done)|(simp [*];done)),(by first|rfl|(simp;done)|(simp [*];done)),H',⟨by have:=HK1.1;omega⟩,by repeat (first|exact av.refl _|apply av.step)⟩
   ·rw [if_neg c3] at H;have c3b0:decide (x7_1<(wrap64 ((wrap64 (8*(l1.length:Int)))+32)))=false:=decide_eq_false c3;clear c3;replace H:=Option.bind_eq_some_iff.mp H;obtain ⟨t178,A210,H⟩:=H;replace H:(some ((t178) % 4294967296))=some r:=H;have A21:=aa A210;clear A210;obtain rfl:=ar H;go_wp2_with (first|((with_reducible refine dB (f:=152) rfl ?_);refine gW (some 46) rfl rfl Tryz.func152 (by kernel_rfl) rfl #[.int .u64 x5_1] rfl (by (try simp only [List.map_toArray,List.map_cons,List.map_nil]);first|done|rfl|(simp only [aE,List.length_take];rfl)) ?_;(with_reducible refine (bU.calls k1 x5_1 t178 _ A21.1).mono ?_);rintro e w' ⟨rfl,⟨nd,rfl⟩⟩;refine ⟨_,rfl,?_⟩));go_ret;exact ⟨by first|rfl|(simp;done)|(simp [*];done),by repeat (first|exact av.refl _|apply av.step)⟩
def eo.f (k:Nat) (a0:Int) (l1:List Int):Option (Int):=(aH.f k (Go.bits .xor .u32 a0 4294967295) l1).bind fun t184=>(some (Go.bits .xor .u32 t184 4294967295))
theorem eo.calls (k:Nat) (a0:Int) (A1:Option Addr) (c1:Nat) (l1:List Int) (r:Int) (w:World) (hr1:Kd.C (Kd.int .u8) w A1 l1.length l1) (hc1:l1.length≤c1) (h:eo.f k a0 l1=some r) :
 Calls Tryz.prog 91 #[.int .u32 a0, .slice A1 l1.length c1] w fun e w'=>e = .returned (.int .u32 r)∧av w w':=by
 have HR1:=aa hr1;have HC1:=aa hc1;clear hr1 hc1;have H:((aH.f k (Go.bits .xor .u32 a0 4294967295) l1).bind fun t184=>(some (Go.bits .xor .u32 t184 4294967295)))=some r:=h;clear h;replace H:=Option.bind_eq_some_iff.mp H;obtain ⟨t184,A30,H⟩:=H;replace H:(some (Go.bits .xor .u32 t184 4294967295))=some r:=H;have A3:=aa A30;clear A30;obtain rfl:=ar H;go_in;go_wp2_with (first|((with_reducible refine dB (f:=125) rfl ?_);refine gW (some 8) rfl rfl Tryz.func125 (by kernel_rfl) rfl #[.int .u32 (Go.bits .xor .u32 a0 4294967295), .slice A1 l1.length c1] rfl (by (try simp only [List.map_toArray,List.map_cons,List.map_nil]);first|done|rfl|(simp only [aE,List.length_take];rfl)) ?_;(with_reducible refine (aH.calls k (Go.bits .xor .u32 a0 4294967295) _ _ l1 t184 _ ?side1 ?side2 A3.1).mono ?_);(case side1=>repeat (first|exact HR1.1|(with_reducible refine Kd.eU ?_ _)|(with_reducible refine Kd.dZ ?_ _)|(with_reducible refine Kd.jU ?_)));(case side2=>exact HC1.1);rintro e w' ⟨rfl,⟨nd,rfl⟩⟩;refine ⟨_,rfl,?_⟩));go_ret;exact ⟨by first|rfl|(simp;done)|(simp [*];done),by repeat (first|exact av.refl _|apply av.step)⟩
def eD.f (k:Nat) (l0:List Int):Option (Int):=(eo.f k 0 l0).bind fun t185=>(some t185)
theorem eD.calls (k:Nat) (A0:Option Addr) (c0:Nat) (l0:List Int) (r:Int) (w:World) (hr0:Kd.C (Kd.int .u8) w A0 l0.length l0) (hc0:l0.length≤c0) (h:eD.f k l0=some r) :
 Calls Tryz.prog 47 #[.slice A0 l0.length c0] w fun e w'=>e = .returned (.int .u32 r)∧av w w':=by
 have HR0:=aa hr0;have HC0:=aa hc0;clear hr0 hc0;have H:((eo.f k 0 l0).bind fun t185=>(some t185))=some r:=h;clear h;replace H:=Option.bind_eq_some_iff.mp H;obtain ⟨t185,A20,H⟩:=H;replace H:(some t185)=some r:=H;have A2:=aa A20;clear A20;obtain rfl:=ar H;go_in;go_wp2_with (first|((with_reducible refine dB (f:=91) rfl ?_);refine gW (some 4) rfl rfl Tryz.func91 (by kernel_rfl) rfl #[.int .u32 0, .slice A0 l0.length c0] rfl (by (try simp only [List.map_toArray,List.map_cons,List.map_nil]);first|done|rfl|(simp only [aE,List.length_take];rfl)) ?_;(with_reducible refine (eo.calls k 0 _ _ l0 t185 _ ?side1 ?side2 A2.1).mono ?_);(case side1=>repeat (first|exact HR0.1|(with_reducible refine Kd.eU ?_ _)|(with_reducible refine Kd.dZ ?_ _)|(with_reducible refine Kd.jU ?_)));(case side2=>exact HC0.1);rintro e w' ⟨rfl,⟨nd,rfl⟩⟩;refine ⟨_,rfl,?_⟩));go_ret;exact ⟨by first|rfl|(simp;done)|(simp [*];done),by repeat (first|exact av.refl _|apply av.step)⟩
def bE.l0:Nat→List Int→Int→Int→Option (List Int)
 | 0,_,_,_=>none
 | k+1,x0,x1,x7=>if x7≥0 then (if 0≤(wrap64 (8*x7)) then (if x0.length<140737488355328 then (bE.l0 k (x0++[(shr .u64 x1 (wrap64 (8*x7))) % 256]) x1 (wrap64 (x7 - 1))) else (none)) else (none)) else (some x0)
def bE.f (k:Nat) (l0:List Int) (a1:Int) (a2:Int):Option (List Int):=bE.l0 k l0 a1 (wrap64 (a2 - 1))
theorem bE.calls (k:Nat) (P0_:Nat→Prop) (u9000_:Value) (l0:List Int) (a1:Int) (a2:Int) (r:List Int) (w0 w:World) (hB:Below w0.heap.size w0 w) (ho0:Kd.R (Kd.int .u8) 5 w w0.heap.size P0_ u9000_ l0) (h:bE.f k l0 a1 a2=some r) :
 Calls Tryz.prog 48 #[u9000_, .int .u64 a1, .int .i64 a2] w fun e w'=>∃v0_:Value,e = .returned (v0_)∧Kd.R (Kd.int .u8) 5 w' w0.heap.size (fun k_=>(P0_ k_∨w.heap.size≤k_)) v0_ r∧Below w0.heap.size w0 w'∧Kept w w' (fun k_=>P0_ k_):=by
 have HO0:=aa (show Kd.R (Kd.int .u8) 5 w w0.heap.size (fun k_=>(P0_ k_∨w.heap.size≤k_)) u9000_ l0 from Kd.bZ ho0 (fun k_ hk=>(.inl hk)));have HK:=aa (Kept.refl w (fun k_=>P0_ k_));have HW0:=aa hB.size;have HB:=aa hB;clear hB;have H:(bE.l0 k l0 a1 (wrap64 (a2 - 1)))=some r:=h;clear h;have H':=aa H;clear H;go_in;go_wp2;go_loopg [0,7] k (fun kq v0 v7 w'=>∃(x0_1:List Int) (x7_1:Int),v7 = .int .i64 x7_1∧af (bE.l0 kq x0_1 a1 x7_1=some r)∧af (kq≤k)∧af (Kd.R (Kd.int .u8) 5 w' w0.heap.size (fun k_=>(P0_ k_∨w.heap.size≤k_)) v0 x0_1)∧af (Kept w w' (fun k_=>P0_ k_))∧af (Below w0.heap.size w0 w'))
 case atStart=>exact ⟨(l0),(wrap64 (a2 - 1)),(by first|rfl|(simp;done)|(simp [*];done)),H',⟨Nat.le_refl _⟩,⟨by (with_reducible repeat (first|apply Kd.cM|apply Kd.cQ|apply Kd.dc));exact HO0.1⟩,⟨by repeat (first|(with_reducible first|exact HK.1|apply Kept.alloc|apply Kept.drewN|apply Kept.drew)|exact HK.1)⟩,⟨by repeat (first|(with_reducible first|exact HB.1|apply ah|apply ai|apply ay)|exact HB.1)⟩⟩
 case round=>
  clear H';try clear p2
  obtain ⟨x0_1,x7_1,rfl,HA,HK1,HO_0,HK,HB⟩:=hrel;cases gk with
  | zero=>exact absurd HA.1 (by simp [bE.l0])
  | succ k1=>
   have H:=HA.1;clear HA;simp only [bE.l0] at H;by_cases c4:x7_1≥0
   ·rw [if_pos c4] at H;have c4b0:decide (0≤x7_1)=true:=decide_eq_true c4;clear c4;obtain ⟨ji5,hji5⟩:∃j_:Int,(wrap64 (8*x7_1))=j_:=⟨_,rfl⟩;replace H:(if 0≤(ji5) then (if x0_1.length<140737488355328 then (bE.l0 k1 (x0_1++[(shr .u64 a1 (ji5)) % 256]) a1 (wrap64 (x7_1 - 1))) else (none)) else (none))=some r:=by first|(rw [hji5] at H;exact H)|(simp only [hji5] at H ⊢;exact H)
    have hji5w:(IntKind.i64.wrap (8*x7_1))=ji5:=(lj _).trans hji5;by_cases c6:0≤(ji5)
    ·rw [if_pos c6] at H;have c6b0:=a8 c6;have c6b1:decide (0≤(ji5))=true:=decide_eq_true c6;clear c6;obtain ⟨ji7,hji7⟩:∃j_:Int,(shr .u64 a1 (ji5))=j_:=⟨_,rfl⟩;replace H:(if x0_1.length<140737488355328 then (bE.l0 k1 (x0_1++[(ji7) % 256]) a1 (wrap64 (x7_1 - 1))) else (none))=some r:=by first|(rw [hji7] at H;exact H)|(simp only [hji7] at H ⊢;exact H)
     have hji7_:(a1 / 2 ^ min (ji5).toNat 64)=ji7:=hji7;have hji7z:(ji5)≤64→(a1 / 2 ^ (ji5).toNat)=ji7:=iZ hji7;by_cases c8:x0_1.length<140737488355328
     ·rw [if_pos c8] at H;have LMc8:=aa c8;clear c8;obtain ⟨y186,hy186⟩:∃y_:List Int,y_=(x0_1++[(ji7) % 256]):=⟨_,rfl⟩;replace H:(bE.l0 k1 y186 a1 (wrap64 (x7_1 - 1)))=some r:=by first|(rw [hy186];with_reducible exact H)|(have H2_:=(aj _ _).symm.trans H;rw [hy186];with_reducible exact H2_)|(have H2_:=(aj _ _).symm.trans H;with_reducible exact H2_)|with_reducible exact H|(rw [hy186];exact H)|exact H
      have Ny186:=aa hy186;clear hy186;have H':=aa H;clear H;go_wp2_with (first|((with_reducible refine aM (b:= .append) (xs:=#[.tmp 14, .tmp 20]) rfl ?_);at_builtin;refine Kd.cG (Kd.int .u8) (w0:=w0) w0.heap.size rfl (.tmp 14) (.tmp 20) 32 5 (.int .u8 0) 1 rfl Tryz.underlying32 ff rfl (by decide) (by omega) u0 x0_1 ((ji7) % 256) [.int .u8 ((ji7) % 256)] (fun k_=>(P0_ k_∨w.heap.size≤k_)) (fun _=>False) rfl rfl ?aP (fun _ hk=>hk.elim) ?aF ?aO ?aB ?aS ?aL ?_;(case aP=>exact rfl);(case aB=>exact (by repeat (first|(with_reducible first|exact HB.1|apply ah|apply ai|apply ay)|exact HB.1)));(case aF=>exact (fun k_ hk=>(.inr (Nat.le_trans (by first|exact HK.1.1|exact (show Kept w _ (fun k_=>P0_ k_) from by repeat (first|(with_reducible first|exact HK.1|apply Kept.alloc|apply Kept.drewN|apply Kept.drew)|exact HK.1)).1) hk))));(case aO=>exact (by (with_reducible repeat (first|apply Kd.cM|apply Kd.cQ|apply Kd.dc));exact HO_0.1));(case aS=>exact (cP (by repeat (first|(with_reducible first|exact HB.1|apply ah|apply ai|apply ay)|exact HB.1))));(case aL=>have:=LMc8.1;omega);intro v187 w9 ho hb hg hat;rw [←Ny186.1] at ho;have n0_:=aa (hb);have n1_:=aa (Kept.fx (S:=(fun k_=>P0_ k_)) hg (by repeat (first|(with_reducible first|exact HK.1|apply Kept.alloc|apply Kept.drewN|apply Kept.drew)|exact HK.1)) (fun k_ e_=>(HO_0.1.1 k_ e_)));have n2_:=aa (ho);clear HB;clear HK;clear HO_0;have HB:=n0_;have HK:=n1_;have HO188:=n2_;clear n0_ n1_ n2_;clear ho hb hg hat));go_roundg k1
      case measure=>have:=HK1.1;omega
      case rel=>exact ⟨(y186),(wrap64 (x7_1 - 1)),(by first|rfl|(simp;done)|(simp [*];done)),H',⟨by have:=HK1.1;omega⟩,⟨by (with_reducible repeat (first|apply Kd.cM|apply Kd.cQ|apply Kd.dc));exact HO188.1⟩,⟨by repeat (first|(with_reducible first|exact HK.1|apply Kept.alloc|apply Kept.drewN|apply Kept.drew)|exact HK.1)⟩,⟨by repeat (first|(with_reducible first|exact HB.1|apply ah|apply ai|apply ay)|exact HB.1)⟩⟩
     ·rw [if_neg c8] at H;exact absurd H (by simp)
    ·rw [if_neg c6] at H;exact absurd H (by simp)
   ·rw [if_neg c4] at H;have c4b0:decide (0≤x7_1)=false:=decide_eq_false c4;clear c4;obtain rfl:=ar H;go_wp2;go_ret;exact ⟨_,by first|rfl|(simp [bO,bN]<;>rfl)|(simp [*,bO,bN]<;>rfl),by (with_reducible repeat (first|apply Kd.cM|apply Kd.cQ|apply Kd.dc));exact HO_0.1,by repeat (first|(with_reducible first|exact HB.1|apply ah|apply ai|apply ay)|exact HB.1),by repeat (first|(with_reducible first|exact HK.1|apply Kept.alloc|apply Kept.drewN|apply Kept.drew)|exact HK.1)⟩
def eY.f (k:Nat) (l0:List Int):Option (List Int):=(eD.f k l0).bind fun t189=>((bE.f k l0 (IntKind.u64.wrap (t189)) 4).bind fun t190=>(some t190))
theorem eY.calls (k:Nat) (P0_:Nat→Prop) (u9000_:Value) (l0:List Int) (r:List Int) (w0 w:World) (hB:Below w0.heap.size w0 w) (ho0:Kd.R (Kd.int .u8) 5 w w0.heap.size P0_ u9000_ l0) (h:eY.f k l0=some r) :
 Calls Tryz.prog 15 #[u9000_] w fun e w'=>∃v0_:Value,e = .returned (v0_)∧Kd.R (Kd.int .u8) 5 w' w0.heap.size (fun k_=>(P0_ k_∨w.heap.size≤k_)) v0_ r∧Below w0.heap.size w0 w'∧Kept w w' (fun k_=>P0_ k_):=by
 have HO0:=aa (show Kd.R (Kd.int .u8) 5 w w0.heap.size (fun k_=>(P0_ k_∨w.heap.size≤k_)) u9000_ l0 from Kd.bZ ho0 (fun k_ hk=>(.inl hk)));have HK:=aa (Kept.refl w (fun k_=>P0_ k_));have HW0:=aa hB.size;have HB:=aa hB;clear hB;have H:((eD.f k l0).bind fun t189=>((bE.f k l0 (IntKind.u64.wrap (t189)) 4).bind fun t190=>(some t190)))=some r:=h;clear h;replace H:=Option.bind_eq_some_iff.mp H;obtain ⟨t189,A20,H⟩:=H;replace H:((bE.f k l0 (IntKind.u64.wrap (t189)) 4).bind fun t190=>(some t190))=some r:=H;have A2:=aa A20;clear A20;replace H:=Option.bind_eq_some_iff.mp H;obtain ⟨t190,A30,H⟩:=H;replace H:(some t190)=some r:=H;have A3:=aa A30;clear A30;obtain rfl:=ar H;obtain ⟨Ao4,co4,eo4⟩:=Kd.aG HO0.1;subst eo4;go_in;go_wp2_with (first|((with_reducible refine dB (f:=47) rfl ?_);refine gW (some 5) rfl rfl Tryz.func47 (by kernel_rfl) rfl #[.slice Ao4 l0.length co4] rfl (by (try simp only [List.map_toArray,List.map_cons,List.map_nil]);first|done|rfl|(simp only [aE,List.length_take];rfl)) ?_;(with_reducible refine (eD.calls k _ _ l0 t189 _ ?side1 ?side2 A2.1).mono ?_);(case side1=>repeat (first|exact (Kd.bI HO0.1).2.2|(with_reducible refine Kd.eU ?_ _)|(with_reducible refine Kd.dZ ?_ _)|(with_reducible refine Kd.jU ?_)));(case side2=>exact (Kd.bI HO0.1).2.1);rintro e w' ⟨rfl,⟨nd,rfl⟩⟩;refine ⟨_,rfl,?_⟩)|((with_reducible refine dB (f:=48) rfl ?_);refine gW (some 9) rfl rfl Tryz.func48 (by kernel_rfl) rfl #[.slice Ao4 l0.length co4, .int .u64 (IntKind.u64.wrap (t189)), .int .i64 4] rfl (by (try simp only [List.map_toArray,List.map_cons,List.map_nil]);first|done|rfl|(simp only [aE,List.length_take];rfl)) ?_;(with_reducible refine (bE.calls k (fun k_=>some k_=(.slice Ao4 l0.length co4:Value).ownBlock) (.slice Ao4 l0.length co4) l0 (IntKind.u64.wrap (t189)) 4 t190 w0 _ ?side1 ?side2 A3.1).mono ?_);(case side1=>repeat (first|(with_reducible first|exact HB.1|apply ah|apply ai|apply ay)|exact HB.1));(case side2=>exact Kd.pq rfl HO0.1);rintro e w5 ⟨v191,rfl,ho0,hb,hkp⟩;refine ⟨_,rfl,?_⟩;have n0_:=aa (Kd.bZ (ok':=fun k_=>(P0_ k_∨w.heap.size≤k_)) ho0 (fun k_ hk_=>Or.elim hk_ (fun hs_=>(HO0.1.1 k_ (hs_).symm)) (fun hn_=>(.inr (Nat.le_trans (by first|exact HK.1.1|exact (show Kept w _ (fun k_=>P0_ k_) from by repeat (first|(with_reducible first|exact HK.1|apply Kept.alloc|apply Kept.drewN|apply Kept.drew)|exact HK.1)).1) hn_)))));have n1_:=aa (Kept.oJ (S:=(fun k_=>P0_ k_)) (by repeat (first|(with_reducible first|exact HK.1|apply Kept.alloc|apply Kept.drewN|apply Kept.drew)|exact HK.1)) hkp (fun k_ hs_=>(fun e_=>(HO0.1.1 k_ e_.symm)) hs_));have n2_:=aa (hb);clear HK;clear HB;clear HO0;have HO192:=n0_;have HK:=n1_;have HB:=n2_;clear n0_ n1_ n2_;(try clear hb);(try clear hkp);(try clear ho0)));go_ret;exact ⟨_,by first|rfl|(simp [bO,bN]<;>rfl)|(simp [*,bO,bN]<;>rfl),by (with_reducible repeat (first|apply Kd.cM|apply Kd.cQ|apply Kd.dc));exact HO192.1,by repeat (first|(with_reducible first|exact HB.1|apply ah|apply ai|apply ay)|exact HB.1),by repeat (first|(with_reducible first|exact HK.1|apply Kept.alloc|apply Kept.drewN|apply Kept.drew)|exact HK.1)⟩
def ii.f (a0:Int):Option (Bool):=some (decide (a0≤15))
theorem ii.calls (a0:Int) (r:Bool) (w:World) (h:ii.f a0=some r) :
 Calls Tryz.prog 171 #[.int .u8 a0] w fun e w'=>e = .returned (.bool r)∧av w w':=by
 have H:(some (decide (a0≤15)))=some r:=h;clear h;obtain rfl:=ar H;go_in;go_wp2;go_ret;exact ⟨by first|rfl|(simp;done)|(simp [*];done),by repeat (first|exact av.refl _|apply av.step)⟩
end Go.Proofs.YtpekmdpbfjdjkaaGreat.aD
namespace Go.Proofs.YtpekmdpbfjdjkaaGreat.cL
open Go Go.RowKit ag.ax ag.aV ag.aU aD fr plain iK crc
theorem n9 (x:Nat) (h:x<18446744073709551616):IntKind.u64.wrap (x:Int)=(x:Int):=IntWalk.u64_in _ (by omega)
theorem lX (k:IntKind) (x i:Nat) (h:i≤k.bits):shr k (x:Int) (i:Int)=((x / 2 ^ i:Nat):Int):=by
 unfold shr;rw [Int.toNat_natCast,Nat.min_eq_left h];norm_cast
theorem nc (x j:Nat) (hx:x<18446744073709551616):Go.bits .and .u64 ((x / 2 ^ j:Nat):Int) 1=((x.testBit j).toNat:Int):=by
 have hd:x / 2 ^ j<18446744073709551616:=iX (Nat.div_le_self _ _) hx;rw [show (1:Int)=((1:Nat):Int) from rfl,u64_and_nat _ 1 hd (by omega),Nat.and_one_is_mod,Nat.testBit_eq_decide_div_mod_eq];have h2:x / 2 ^ j % 2<2:=Nat.mod_lt _ (by omega);by_cases h:x / 2 ^ j % 2=1
 ·rw [h];rfl
 ·rw [show x / 2 ^ j % 2=0 by omega];rfl
theorem Br (x:Nat) (hx:x<4294967296) (b:Bool):bH.f (x:Int) ((b.toNat:Nat):Int)=some ((kw x b:Nat):Int):=by
 have hb:b.toNat≤1:=by cases b<;>decide
 unfold bH.f;rw [show (x:Int)*2=((2*x:Nat):Int) by omega,n9 _ (by omega),show ((2*x:Nat):Int)+((b.toNat:Nat):Int)=((2*x+b.toNat:Nat):Int) by omega,n9 _ (by omega)];unfold kw;by_cases h:4294967296≤2*x+b.toNat
 ·rw [if_pos (by omega),if_pos h,show (4812730177:Int)=((4812730177:Nat):Int) from rfl,u64_xor_nat _ _ (by omega) (by omega)]
 ·rw [if_neg (by omega),if_neg h]
theorem uN (x:Nat) (hx:x<4294967296) (b:Bool):kw x b<4294967296:=by
 have h:=ow (BitVec.ofNat 32 x) b;rw [kZ,jM (by omega)] at h;rw [h];exact (rev _).isLt
theorem uS (x:Nat) (hx:x<4294967296):∀(d i k acc:Nat),i+d=32→d+1≤k→acc<2 ^ i→(∀j,acc.testBit j=(decide (j<i)&&x.testBit (i - 1 - j)))→
 bU.l0 k (x:Int) (acc:Int) (i:Int)=some (((rev (BitVec.ofNat 32 x)).toNat:Nat):Int):=by
 intro d;induction d with
 | zero=>
  intro i k acc hi hk ha hj;obtain ⟨k,rfl⟩:∃n,k=n+1:=⟨k - 1,by omega⟩;rw [bU.l0,if_neg (by omega)];congr 2;apply Nat.eq_of_testBit_eq;intro j;rw [hj];by_cases h:j<32
  ·have hr:(rev (BitVec.ofNat 32 x)).toNat.testBit j=(rev (BitVec.ofNat 32 x)).getLsbD j:=rfl;rw [hr,kN _ _ h,BitVec.getLsbD_ofNat];obtain rfl:i=32:=by omega
   simp [h,show 31 - j<32 by omega]
  ·rw [gx (bf (rev _).isLt (cK (by omega) (by omega)))];simp [show ¬j<i by omega]
 | succ d ih=>
  intro i k acc hi hk ha hj;obtain ⟨k,rfl⟩:∃n,k=n+1:=⟨k - 1,by omega⟩;have hp:2 ^ i≤2 ^ 31:=cK (by omega) (by omega);have hb:(x.testBit i).toNat≤1:=by cases x.testBit i<;>decide
  rw [bU.l0,if_pos (by omega),if_pos (by omega),lX .u64 x i (by show i≤64;omega),nc x i (by omega),show (acc:Int)*2=((2*acc:Nat):Int) by omega,n9 _ (by omega),
   show ((2*acc:Nat):Int)+(((x.testBit i).toNat:Nat):Int)=((2*acc+(x.testBit i).toNat:Nat):Int) by omega,n9 _ (by omega),IntWalk.wrap64_in _ (by omega),show (i:Int)+1=((i+1:Nat):Int) by omega]
  refine ih (i+1) k _ (by omega) (by omega) (by rw [eK];omega) (fun j=>?_);cases j with
  | zero=>rw [so];simp
  | succ j=>
   rw [pA,hj];simp only [Nat.add_lt_add_iff_right];rw [show i+1 - 1 - (j+1)=i - 1 - j by omega]
theorem vW (x:Nat) (hx:x<4294967296) (k:Nat) (hk:33≤k):bU.f k (x:Int)=some (((rev (BitVec.ofNat 32 x)).toNat:Nat):Int):=
 uS x hx 32 0 k 0 rfl hk (by decide) (fun j=>by simp)
def zq (l:List Int):List Bool:=(l.map Int.toNat).flatMap kx
theorem qm (c:Int) (l:List Int):zq (c::l)=kx c.toNat++zq l:=rfl
theorem mW (l:List Int):(zq l).length=8*l.length:=by
 induction l with
 | nil=>rfl
 | cons c l ih=>rw [qm,List.length_append,fR,ih,List.length_cons];omega
theorem xp (l:List Int):∀i,i<8*l.length→(zq l)[i]? = some ((l.getD (i / 8) 0).toNat.testBit (i % 8)):=by
 induction l with
 | nil=>intro i h;simp at h
 | cons c l ih=>
  intro i h;rw [qm];by_cases h8:i<8
  ·rw [cD (by rw [fR];exact h8),kx,lM,List.getElem?_range h8,show i / 8=0 by omega,show i % 8=i by omega];rfl
  ·rw [di (by rw [fR];omega),fR,ih (i - 8) (by rw [List.length_cons] at h;omega),show i / 8=(i - 8) / 8+1 by omega,show i % 8=(i - 8) % 8 by omega];rfl
def BL (l:List Int):List Bool:=mixed 0xFFFFFFFF#32 (zq l++List.replicate 32 false)
theorem wC (l:List Int):(BL l).length=8*l.length+32:=by rw [BL,mixed,List.length_mapIdx,List.length_append,ey,mW]
def po (l:List Int) (i:Nat):Bool:=if i<8*l.length then (l.getD (i / 8) 0).toNat.testBit (i % 8) else false
theorem zS (l:List Int) (i:Nat) (h:i<8*l.length+32):(BL l)[i]? = some (po l i ^^ decide (i<32)):=by
 have e:(zq l++List.replicate 32 false)[i]? = some (po l i):=by
  unfold po;by_cases g:i<8*l.length
  ·rw [if_pos g,cD (by rw [mW];exact g),xp l i g]
  ·rw [if_neg g,di (by rw [mW];omega),List.getElem?_replicate,if_pos (by rw [mW];omega)]
 rw [BL,mixed,List.getElem?_mapIdx,e,dh];congr 2;by_cases g:i<32
 ·rw [decide_eq_true g,show (0xFFFFFFFF#32:BitVec 32)=BitVec.allOnes 32 from rfl,BitVec.getLsbD_allOnes,decide_eq_true g]
 ·rw [decide_eq_false g,eP _ _ (by omega)]
theorem y8 (a b:Bool):Go.bits .xor .u64 ((a.toNat:Nat):Int) ((b.toNat:Nat):Int)=(((a ^^ b).toNat:Nat):Int):=by
 cases a<;>cases b<;>rfl
theorem uB (i:Nat) (h:i<32):Go.bits .and .u64 (IntKind.u64.wrap (shr .u32 4294967295 (i:Int))) 1=((true.toNat:Nat):Int):=by
 rw [show (4294967295:Int)=((4294967295:Nat):Int) from rfl,lX .u32 _ i (by show i≤32;omega),n9 _ (iX (Nat.div_le_self _ _) (by omega)),nc _ _ (by omega),
  show (4294967295:Nat)=2 ^ 32 - 1 from rfl,Nat.testBit_two_pow_sub_one,decide_eq_true h]
theorem zh (l:List Int) (hb:aq l) (i:Nat) (h:i<8*l.length):Go.bits .and .u64 (IntKind.u64.wrap (shr .u8 (rd l ((i / 8:Nat):Int)) ((i % 8:Nat):Int))) 1=(((po l i).toNat:Nat):Int):=by
 have hlt:i / 8<l.length:=by omega
 have hc:=hb (l.getD (i / 8) 0) (by rw [List.getD_eq_getElem?_getD,List.getElem?_eq_getElem hlt];exact List.getElem_mem hlt);have e:rd l ((i / 8:Nat):Int)=(((l.getD (i / 8) 0).toNat:Nat):Int):=by rw [rd,Int.toNat_natCast];omega
 rw [e,lX .u8 _ _ (by show i % 8≤8;omega),n9 _ (iX (Nat.div_le_self _ _) (by omega)),nc _ _ (by omega),po,if_pos h]
theorem CQ (l:List Int) (hb:aq l) (hL:l.length≤100000000):∀(d i k x:Nat),i+d=8*l.length+32→d+34≤k→x<4294967296→
 aH.l0 k 4294967295 l (x:Int) ((8*l.length+32:Nat):Int) (i:Int)=some (((rev (BitVec.ofNat 32 (((BL l).drop i).foldl kw x))).toNat:Nat):Int):=by
 intro d;induction d with
 | zero=>
  intro i k x hi hk hx;obtain ⟨k,rfl⟩:∃n,k=n+1:=⟨k - 1,by omega⟩;rw [aH.l0,if_neg (by omega),vW x hx k (by omega),aj,List.drop_eq_nil_of_le (by rw [wC];omega),oh];congr 1;have:=(rev (BitVec.ofNat 32 x)).isLt;omega
 | succ d ih=>
  intro i k x hi hk hx;obtain ⟨k,rfl⟩:∃n,k=n+1:=⟨k - 1,by omega⟩;have hd:(BL l).drop i=(po l i ^^ decide (i<32))::(BL l).drop (i+1):=by
   have hlt:i<(BL l).length:=by rw [wC];omega
   have hg:=zS l i (by omega);rw [List.getElem?_eq_getElem hlt] at hg;rw [ap hlt];congr 1;injection hg
  have next:∀b,b=(po l i ^^ decide (i<32))→(bH.f (x:Int) ((b.toNat:Nat):Int)).bind (fun t=>aH.l0 k 4294967295 l t ((8*l.length+32:Nat):Int) (wrap64 ((i:Int)+1)))=some (((rev (BitVec.ofNat 32 (((BL l).drop i).foldl kw x))).toNat:Nat):Int):=by
   rintro b rfl;rw [Br x hx,aj,IntWalk.wrap64_in _ (by omega),show (i:Int)+1=((i+1:Nat):Int) by omega,ih (i+1) k _ (by omega) (by omega) (uN x hx _),hd,dD]
  have e8:wrap64 (8*(l.length:Int))=((8*l.length:Nat):Int):=by rw [IntWalk.wrap64_in _ (by omega)];omega
  have ed:wrap64 (Int.tdiv (i:Int) 8)=((i / 8:Nat):Int):=by
   rw [show Int.tdiv (i:Int) 8=((i / 8:Nat):Int) from rfl];exact IntWalk.wrap64_in _ (by omega)
  have em:Int.tmod (i:Int) 8=((i % 8:Nat):Int):=rfl;rw [aH.l0,if_pos (by omega),e8,ed,em];by_cases h1:i<8*l.length
  ·rw [if_pos (by omega),if_pos (by omega),if_pos (by omega),if_pos (by omega)];by_cases h2:i<32
   ·rw [if_pos (by omega),if_pos (by omega),zh l hb i h1,uB i h2,y8];exact next _ (by rw [decide_eq_true h2])
   ·rw [if_neg (by omega),zh l hb i h1];exact next _ (by rw [decide_eq_false h2,Bool.xor_false])
  ·have hr:po l i=false:=by rw [po,if_neg h1]
   rw [if_neg (by omega)];by_cases h2:i<32
   ·rw [if_pos (by omega),if_pos (by omega),uB i h2,show (0:Int)=((false.toNat:Nat):Int) from rfl,y8];exact next _ (by rw [hr,decide_eq_true h2])
   ·rw [if_neg (by omega),show (0:Int)=((false.toNat:Nat):Int) from rfl];exact next _ (by rw [hr,decide_eq_false h2];rfl)
theorem uM (l:List Int) (r:Nat):(l.map Int.toNat).foldl iz r=pe r l:=by rw [pe,List.foldl_map]
theorem uY (l:List Int) (hb:aq l) (hL:l.length≤100000000) (k:Nat) (hk:8*l.length+66≤k):eD.f k l=some ((eH l:Nat):Int):=by
 have hl:=CQ l hb hL (8*l.length+32) 0 k 0 (by omega) (by omega) (by omega);have hD:(D 0xFFFFFFFF#32 (zq l)).toNat=pe 4294967295 l:=by
  have h:=tR (l.map Int.toNat) 0xFFFFFFFF#32 (fun c hc=>by
   obtain ⟨x,hx,rfl⟩:=List.mem_map.1 hc;have:=hb x hx;omega)
  rw [show (D 0xFFFFFFFF#32 (zq l)).toNat=_ from h,uM];rfl
 have hlt:=yw l 4294967295 (by omega) hb;rw [List.drop_zero,BL,xN,BitVec.ofNat_toNat,BitVec.setWidth_eq,rev_rev,hD] at hl;have e8:wrap64 (wrap64 (8*(l.length:Int))+32)=((8*l.length+32:Nat):Int):=by
  rw [IntWalk.wrap64_in (8*(l.length:Int)) (by omega),IntWalk.wrap64_in _ (by omega)];omega
 have hf:aH.f k (Go.bits .xor .u32 0 4294967295) l=some ((pe 4294967295 l:Nat):Int):=by
  rw [aH.f,e8,show Go.bits .xor .u32 0 4294967295=(4294967295:Int) from by rw [show (0:Int)=((0:Nat):Int) from rfl,show (4294967295:Int)=((4294967295:Nat):Int) from rfl,pO _ _ (by omega) (by omega)];rfl];exact hl
 rw [eD.f,eo.f,hf,aj,aj];congr 1;rw [show (4294967295:Int)=((4294967295:Nat):Int) from rfl,pO _ _ hlt (by omega),Nat.xor_comm,zk _ hlt];rfl
end Go.Proofs.YtpekmdpbfjdjkaaGreat.cL
namespace Go.Proofs.YtpekmdpbfjdjkaaGreat.ref
open Go Go.RowKit ag.ax ag.aV ag.aU aD fr iK cL plain fE
def tm (d m:Nat):Nat→Nat→Bool
 | 0,_=>false
 | n+1,i=>(m.testBit i&&decide (d<i+2))||tm d m n (i+1)
theorem Ao (d m:Nat):∀(n i:Nat),tm d m n i=true↔∃j,i≤j∧j<i+n∧m.testBit j=true∧d<j+2:=by
 intro n;induction n with
 | zero=>intro i;simp only [tm,Bool.false_eq_true,false_iff];rintro ⟨j,h1,h2, -⟩;omega
 | succ n ih=>
  intro i;rw [tm,Bool.or_eq_true,Bool.and_eq_true,decide_eq_true_eq,ih];constructor
  ·rintro (⟨h1,h2⟩|⟨j,h1,h2,h3,h4⟩)
   ·exact ⟨i,Nat.le_refl _,by omega,h1,h2⟩
   ·exact ⟨j,by omega,by omega,h3,h4⟩
  ·rintro ⟨j,h1,h2,h3,h4⟩;by_cases h:j=i
   ·subst h;exact .inl ⟨h3,h4⟩
   ·exact .inr ⟨j,by omega,by omega,h3,h4⟩
theorem um (a s:Int) (d m:Nat) (hd:IntKind.u64.wrap (s - a)=(d:Int)) (hm:m<18446744073709551616):∀(n i k:Nat),i+n=64→n+1≤k→bA.l0 k a (m:Int) s (i:Int)=some (tm d m n i):=by
 intro n;induction n with
 | zero=>
  intro i k hi hk;obtain ⟨k,rfl⟩:∃x,k=x+1:=⟨k - 1,by omega⟩;rw [bA.l0,if_neg (by omega)];rfl
 | succ n ih=>
  intro i k hi hk;obtain ⟨k,rfl⟩:∃x,k=x+1:=⟨k - 1,by omega⟩;have e2:IntKind.u64.wrap ((i:Int)+2)=(i:Int)+2:=IntWalk.u64_in _ (by omega);have e1:IntKind.u64.wrap ((i:Int)+1)=((i+1:Nat):Int):=IntWalk.u64_in _ (by omega);rw [bA.l0,if_pos (by omega),if_pos (by omega),cL.lX .u64 m i (by show i≤64;omega),cL.nc m i hm,e2,hd,e1,ih (i+1) k (by omega) (by omega),tm];cases m.testBit i with
  | false=>rw [if_neg (by decide)];simp
  | true=>
   rw [if_pos (by decide)];by_cases h:d<i+2
   ·rw [if_pos (by omega),decide_eq_true h];rfl
   ·rw [if_neg (by omega),decide_eq_false h];simp
theorem lz (m:Nat) (h0:m≠0) (h:m<18446744073709551616):Lib.bitLen m=Nat.log2 m+1:=by
 have h1:=Nat.log2_self_le h0;have h2:m<2 ^ (Nat.log2 m+1):=Nat.lt_log2_self;have hq:m / 2 ^ Nat.log2 m=1:=by
  have hp:0<2 ^ Nat.log2 m:=Nat.two_pow_pos _;rw [eK] at h2;have a:1≤m / 2 ^ Nat.log2 m:=(Nat.le_div_iff_mul_le hp).2 (by omega);have b:m / 2 ^ Nat.log2 m<2:=(gQ hp).2 (by omega);omega
 rw [Lib.bitLen_shift (Nat.log2 m) m h1 h,hq];rfl
theorem qR (a s mask:Int) (h0:0≤a) (h1:a≤s) (h2:s≤18446744073709551615) (m0:0≤mask) (m1:mask≤18446744073709551615):bA.f 65 a mask s=some (dO.mS s a mask):=by
 obtain ⟨m,rfl⟩:=Int.eq_ofNat_of_zero_le m0;have hd:IntKind.u64.wrap (s - a)=(((s - a).toNat:Nat):Int):=by rw [IntWalk.u64_in _ (by omega)];omega
 have h:=um a s (s - a).toNat m hd (by omega) 64 0 65 rfl (Nat.le_refl _);rw [bA.f,show (0:Int)=((0:Nat):Int) from rfl,h];congr 1;rw [Bool.eq_iff_iff,Ao,dO.mS,Bool.and_eq_true,b7,decide_eq_true_eq,hd];have hh:=tv m (s - a).toNat (by omega);constructor
 ·rintro ⟨j, -,h3,h4,h5⟩;obtain ⟨g1,g2⟩:=hh.1 ⟨j,by omega,h4,h5⟩;refine ⟨by omega,?_⟩;rw [Int.toNat_natCast,lz m g1 (by omega)];omega
 ·rintro ⟨g1,g2⟩;have g1':m≠0:=by omega
  rw [Int.toNat_natCast,lz m g1' (by omega)] at g2;obtain ⟨j,h3,h4,h5⟩:=hh.2 ⟨g1',by omega⟩;exact ⟨j,aI _,by omega,h4,h5⟩
end Go.Proofs.YtpekmdpbfjdjkaaGreat.ref
namespace Go.Proofs.YtpekmdpbfjdjkaaGreat.dO
open Go Go.RowKit ag.ax aD cL
def jc:List eW→Int→Bool→Bool
 | [],_,full=>full
 | s::r,next,full=>if full=true then false else if s.f0=next then if s.f0≤s.f1 then if s.f2≤15 then jc r (IntKind.u64.wrap (s.f1+1)) (s.f1 == 18446744073709551615) else false else false else false
theorem Cq (l:List eW):∀out next full,jn l out next full=if jc l next full=true then some (l.foldl dS out) else none:=by
 induction l with
 | nil=>
  intro out next full;rfl
 | cons s r ih=>
  intro out next full;rw [jn,jc,dD];by_cases h1:full=true
  ·rw [if_pos h1,if_pos h1];rfl
  rw [if_neg h1,if_neg h1];by_cases h2:s.f0=next
  ·rw [if_pos h2,if_pos h2];by_cases h3:s.f0≤s.f1
   ·rw [if_pos h3,if_pos h3];by_cases h4:s.f2≤15
    ·rw [if_pos h4,if_pos h4];exact ih _ _ _
    ·rw [if_neg h4,if_neg h4];rfl
   ·rw [if_neg h3,if_neg h3];rfl
  ·rw [if_neg h2,if_neg h2];rfl
theorem fold_push (l:List eW):∀out,(l.foldl dS out).length≤out.length+l.length∧((l.foldl dS out).length=out.length+l.length→l.foldl dS out=out++l):=by
 induction l with
 | nil=>
  intro out;exact ⟨by simp,fun _=>by simp⟩
 | cons s r ih=>
  intro out;rw [dD];obtain ⟨h1,h2⟩:=ih (dS out s);have h3:=oF out s;refine ⟨by simp only [List.length_cons];omega,fun h=>?_⟩;simp only [List.length_cons] at h;have h4:(dS out s).length=out.length+1:=by omega
  have h5:dS out s=out++[s]:=by
   unfold dS at h4 ⊢;split at h4
   ·rw [b9] at h4;omega
   ·rw [if_neg (by assumption)]
  rw [h2 (by omega),h5];simp
def fY (l:List eW):Bool:=jc l 0 false&&(decide ((l.foldl dS []).length≤8192)&&decide ((l.foldl dS []).length=l.length))
def xJ (l:List eW):Prop:=∀x∈l,(0≤x.f0∧x.f0≤18446744073709551615)∧(0≤x.f1∧x.f1≤18446744073709551615)∧0≤x.f2∧x.f2≤255
theorem ja (s:eW) (r:List eW) (i:Nat):jD (s::r) (i+1)=jD r i:=by
 unfold jD bg;simp
theorem jb (s:eW) (r:List eW):jD (s::r) 0=s.f1:=by
 unfold jD bg;simp
theorem rW (l:List eW):∀next full,xJ l→0≤next→jc l next full=true→(full=true∧l=[])∨(full=false∧0<l.length∧qD l∧(∀i,i<l.length→next≤jD l i)∧jD l (l.length - 1)=18446744073709551615):=by
 induction l with
 | nil=>
  intro next full _ _ h;exact .inl ⟨h,rfl⟩
 | cons s r ih=>
  intro next full hb h0 h;rw [jc] at h;by_cases h1:full=true
  ·rw [if_pos h1] at h;cases h
  rw [if_neg h1] at h;by_cases h2:s.f0=next
  ·rw [if_pos h2] at h;by_cases h3:s.f0≤s.f1
   ·rw [if_pos h3] at h;by_cases h4:s.f2≤15
    ·rw [if_pos h4] at h;have hs:=hb s List.mem_cons_self;have hw:0≤IntKind.u64.wrap (s.f1+1):=by
      simp only [IntKind.wrap,IntKind.signed,IntKind.bits];exact Int.emod_nonneg _ (by decide)
     right;refine ⟨by simpa using h1,by simp,?_⟩;rcases ih _ _ (fun x hx=>hb x (List.mem_cons_of_mem _ hx)) hw h with ⟨e1,rfl⟩|⟨e1,e2,e3,e4,e5⟩
     ·have e1:s.f1=18446744073709551615:=by simpa using e1
      refine ⟨?_,?_,?_⟩
      ·intro i j hij hj;have hj':j<1:=hj;obtain rfl:j=0:=by omega
       obtain rfl:i=0:=by omega
       exact fC _
      ·intro i hi;have hi':i<1:=hi;obtain rfl:i=0:=by omega
       rw [jb];omega
      ·show jD [s] 0=_;rw [jb];exact e1
     ·have e1:s.f1≠18446744073709551615:=by simpa using e1
      have hw1:IntKind.u64.wrap (s.f1+1)=s.f1+1:=IntWalk.u64_in _ (by omega);rw [hw1] at e4;refine ⟨?_,?_,?_⟩
      ·intro i j hij hj;rw [List.length_cons] at hj;cases j with
       | zero=>
        obtain rfl:i=0:=by omega
        exact fC _
       | succ j=>
        rw [ja];cases i with
        | zero=>
         rw [jb];have:=e4 j (by omega);omega
        | succ i=>
         rw [ja];exact e3 i j (by omega) (by omega)
      ·intro i hi;rw [List.length_cons] at hi;cases i with
       | zero=>rw [jb];omega
       | succ i=>
        rw [ja];have:=e4 i (by omega);omega
      ·rw [List.length_cons];obtain ⟨m,hm⟩:∃m,r.length=m+1:=⟨r.length - 1,by omega⟩;rw [hm] at e5 ⊢;rw [show m+1+1 - 1=m+1 by omega,ja];exact e5
    ·rw [if_neg h4] at h;cases h
   ·rw [if_neg h3] at h;cases h
  ·rw [if_neg h2] at h;cases h
def iE (l:List eW) (key:Int):Int:=((l.find? fun s=>decide (key≤s.f1)).map (·.f2)).getD 255
theorem mc (l:List eW) (key:Int):∀r:Nat,lO l key r→r<l.length→iE l key=(bg l (r:Int)).f2:=by
 induction l with
 | nil=>intro r _ h;simp at h
 | cons s l ih=>
  intro r hf hr;unfold iE;cases r with
  | zero=>
   have h:=hf.2.2 (by simp);rw [jb] at h;rw [js (by simpa using h)];simp [bg]
  | succ r=>
   have h:=hf.2.1 0 (by omega);rw [jb] at h;rw [gy (by simp;omega)];have hr':r<l.length:=by simpa using hr
   have:=ih r ⟨by omega,fun k hk=>by have:=hf.2.1 (k+1) (by omega);rwa [ja] at this,fun h=>by have:=hf.2.2 (by simpa using h);rwa [ja] at this⟩ hr';rw [show bg (s::l) ((r+1:Nat):Int)=bg l (r:Int) by unfold bg;simp];exact this
def oC (tab:List eW) (self:Int):Option Int→List iA→Bool
 | _,[]=>true
 | prev,p::r=>if (∃k∈prev,p.f0≤k) then false else if 64<(p.f1.length:Int) then false else if iE tab p.f0=self then oC tab self (some p.f0) r else false
def iW:Option Int→List jx→Bool
 | _,[]=>true
 | prev,x::r=>if (∃k∈prev,x.f0≤k) then false else if x.f0<16 then false else if 32≤x.f0 then false else if x.f1=0 then false else if x.f2<1 then false else if 4<x.f2 then false else iW (some x.f0) r
def oV (s:Hs):Bool:=if 16≤s.self then false else if s.free<0 then false else if s.spare<0 then false else if 1073741824 - (s.pairs.length:Int)<s.free then false else if 1073741824 - (s.table.length:Int)<s.spare then false else true
def ni (s:Hs):Bool:=if oV s=true then if fY s.table=true then if 32768<(s.pairs.length:Int) then false else if oC s.table s.self none s.pairs=true then if iW none s.ses=true then cJ s else false else false else false else false
def gv (l:List iA) (i:Nat):Option Int:=if i=0 then none else some (cF l ((i - 1:Nat):Int)).f0
def hJ (l:List jx) (i:Nat):Option Int:=if i=0 then none else some (bW l ((i - 1:Nat):Int)).f0
end Go.Proofs.YtpekmdpbfjdjkaaGreat.dO
namespace Go.Proofs.YtpekmdpbfjdjkaaGreat.ref
open Go Go.RowKit ag.ax ag.aV ag.aU aD fr iK cL plain fE dO
def rE (del win:Int):Option Int→List jE→Bool
 | _,[]=>true
 | prev,f::r=>if qO f.f1.length=true then if f.f0≤del then false else if IntKind.u64.wrap (f.f0 - del)<2 then false else if win<IntKind.u64.wrap (f.f0 - del) then false else if (∃k∈prev,f.f0≤k) then false else rE del win (some f.f0) r else false
theorem C9 (del win:Int) (h0:0≤del) (h1:del≤18446744073709551615) (l:List jE):∀(prev:Option Int) (last:Int),(∀f∈l,0≤f.f0∧f.f0≤18446744073709551615)→((prev=none∧last=1)∨∃k,prev=some k∧last=k - del∧2≤last)→rE del win prev l=kp del win l last:=by
 induction l with
 | nil=>intro prev last _ _;rfl
 | cons f r ih=>
  intro prev last hb hp;obtain ⟨b0,b1⟩:=hb f (by simp);rw [rE,kp];by_cases g1:f.f0≤del
  ·rw [if_pos g1,if_pos g1];split<;>rfl
  rw [if_neg g1,if_neg g1];have hw:IntKind.u64.wrap (f.f0 - del)=f.f0 - del:=by
   exact IntWalk.u64_in _ (by omega)
  rw [hw];by_cases gs:qO f.f1.length=true
  case neg=>rw [if_neg gs,if_neg gs];(repeat' split)<;>rfl
  rw [if_pos gs,if_pos gs];rcases hp with ⟨rfl,rfl⟩|⟨k,rfl,hk,h2⟩
  ·by_cases g2:f.f0 - del<2
   ·rw [if_pos g2,if_pos (show f.f0 - del≤1 by omega)]
   rw [if_neg g2,if_neg (show ¬f.f0 - del≤1 by omega)];by_cases g3:win<f.f0 - del
   ·rw [if_pos g3,if_pos g3]
   rw [if_neg g3,if_neg g3,if_neg (c:=∃k,k∈none∧f.f0≤k) (fun ⟨k,hk,_⟩=>by cases hk)];exact ih _ _ (fun x hx=>hb x (by simp [hx])) (Or.inr ⟨_,rfl,rfl,by omega⟩)
  ·by_cases g4:f.f0 - del≤last
   ·have g5:∃q∈some k,f.f0≤q:=⟨k,rfl,by omega⟩;rw [if_pos g4,if_pos g5];(repeat' split)<;>rfl
   have g5:¬∃q∈some k,f.f0≤q:=by
    rintro ⟨q,hq,hh⟩;cases hq
    omega
   rw [if_neg g4,if_neg g5,if_neg (show ¬f.f0 - del<2 by omega)];by_cases g3:win<f.f0 - del
   ·rw [if_pos g3,if_pos g3]
   rw [if_neg g3,if_neg g3];exact ih _ _ (fun x hx=>hb x (by simp [hx])) (Or.inr ⟨_,rfl,rfl,by omega⟩)
def kX (l:List eW) (key:Int):Int:=((l.find? fun s=>decide (s.f0≤key)&&decide (key≤s.f1)).map (·.f2)).getD 255
theorem xn (key:Int) (h1:key≤18446744073709551615) (l:List eW):∀next,xJ l→next≤key→jc l next false=true→kX l key=iE l key:=by
 induction l with
 | nil=>intro next _ _ _;rfl
 | cons s r ih=>
  intro next hb hk ht;obtain ⟨b0,b1,b2⟩:=hb s (by simp);rw [jc,if_neg (by simp)] at ht;by_cases g1:s.f0=next
  case neg=>rw [if_neg g1] at ht;cases ht
  rw [if_pos g1] at ht;by_cases g2:s.f0≤s.f1
  case neg=>rw [if_neg g2] at ht;cases ht
  rw [if_pos g2] at ht;by_cases g3:s.f2≤15
  case neg=>rw [if_neg g3] at ht;cases ht
  rw [if_pos g3] at ht;unfold kX iE;by_cases g4:key≤s.f1
  ·rw [js (by simp;omega),js (by simpa using g4)]
  rw [gy (by simp;omega),gy (by simpa using g4)];have hw:IntKind.u64.wrap (s.f1+1)=s.f1+1:=by
   exact IntWalk.u64_in _ (by omega)
  have hn:(s.f1 == 18446744073709551615)=false:=by rw [bi];omega
  rw [hw,hn] at ht;exact ih _ (fun x hx=>hb x (by simp [hx])) (by omega) ht
end Go.Proofs.YtpekmdpbfjdjkaaGreat.ref