/- Functions of this seat as plain Lean functions, with proofs that the Go code comes to just their answers, or what stands between them and a law's statement; no conditions. (Laid by a program of this session, out of the kit's print.) -/
import Derived.Test.YtbdijpjlgokfkaaPx0
namespace Go.Proofs.Ytbdijpjlgokfkaa.P
open Go.RowKit Go.Proofs.YtbdijpjlgokfkaaW.PrintWords Go.Proofs.YtbdijpjlgokfkaaW.PrintLast Go.Proofs.YtbdijpjlgokfkaaW.PrintMore
attribute [local go_sem] max2_int min2_int max_two min_two max_three min_three max_four min_four   -- for this text's walks alone
set_option maxHeartbeats 8000000
set_option maxRecDepth 100000
set_option linter.unusedVariables false
set_option linter.unusedSimpArgs false

/-! ### sInd_int_int: function 115 -/
def sInd_int_int.l0:Nat→List Int→Int→Int→Int→Option (Int)
 | 0,_,_,_,_=>none
 | k+1,x0,x1,x7,x8=>if x8<x7 then (if 0≤x8 then (if x8<(x0.length:Int) then (if x1=(rd x0 x8) then (some x8) else (sInd_int_int.l0 k x0 x1 x7 (wrap64 (x8+1)))) else (none)) else (none)) else (some (-1))
def sInd_int_int.f (k:Nat) (l0:List Int) (a1:Int):Option (Int):=sInd_int_int.l0 k l0 a1 (l0.length:Int) 0
theorem sInd_int_int.mono_l:∀ k,(∀ y0 y1 y2 y3,LeO (sInd_int_int.l0 k y0 y1 y2 y3) (sInd_int_int.l0 (k+1) y0 y1 y2 y3))
 | 0=>fun _ _ _ _ r h=>by simp [sInd_int_int.l0] at h
 | k+1=>by
  have ih0:=sInd_int_int.mono_l k
  ·intro y0 y1 y2 y3;unfold sInd_int_int.l0;repeat' with_reducible first|exact ih0 _ _ _ _|apply lr_|apply ln_|apply li_|refine lb_ ?_ fun _=>?_
theorem sInd_int_int.mono:∀ a0 a1 k,LeO (sInd_int_int.f k a0 a1) (sInd_int_int.f (k+1) a0 a1):=by
 intro a0 a1 k;have ih0:=sInd_int_int.mono_l k;unfold sInd_int_int.f;repeat' with_reducible first|exact ih0 _ _ _ _|apply lr_|apply ln_|apply li_|refine lb_ ?_ fun _=>?_
theorem sInd_int_int.calls (k:Nat) (A0:Option Addr) (c0:Nat) (l0:List Int) (a1:Int) (r:Int) (w:World) (hr0:Kd.C (Kd.int .i64) w A0 l0.length l0) (hc0:l0.length≤c0) (h:sInd_int_int.f k l0 a1=some r) :
  Calls Try.prog 115 #[.slice A0 l0.length c0,.int .i64 a1] w fun e w'=>e=.returned (.int .i64 r)∧Drawn0 w w':=by
 have HR0:=am_ hr0;have HC0:=am_ hc0;clear hr0 hc0;have H:=h;clear h;unfold sInd_int_int.f at H;have H':=am_ H;clear H;go_enter Try.func115,Try.ntmps115;go_wp2
 go_loopg [8] k (fun kq v8 w'=>∃ (x8_1:Int),v8=.int .i64 x8_1∧Aside0 (sInd_int_int.l0 kq l0 a1 (l0.length:Int) x8_1=some r)∧Aside0 (kq≤k)∧Drawn0 w w')
 case atStart=>exact ⟨(0),fr_,H',⟨Nat.le_refl _⟩,dr_⟩
 case round =>
  clear H';obtain ⟨x8_1,rfl,HA,HK1,⟨m1,rfl⟩⟩:=hrel;cases gk with
  | zero=>exact absurd HA.out (by simp [sInd_int_int.l0])
  | succ k1 =>
   have H:=HA.out;clear HA;simp only [sInd_int_int.l0] at H;by_cases c3:x8_1<(l0.length:Int);rotate_left
   ·rw [if_neg c3] at H;have c3b0:=df_ c3;clear c3;obtain rfl:=oj_ H;go_wp2
    go_ret
    exact ⟨fr_,dr_⟩
   rw [if_pos c3] at H;have c3b0:=dt_ c3;clear c3;obtain ⟨c4,H⟩:=ifp_ H;have c4b0:=dt_ c4;clear c4;obtain ⟨c5,H⟩:=ifp_ H;have c5b0:=dt_ c5;clear c5;by_cases c6:a1=(rd l0 x8_1)
   ·rw [if_pos c6] at H;have c6b0:=bqt c6;have c6b1:=bnf c6;clear c6;obtain rfl:=oj_ H;have p382:0≤(x8_1:Int):=ofd;have q382:x8_1<(l0.length:Int):=ofd;obtain ⟨ad382,e382,hx382_0⟩:=Kd.at_int HR0.out x8_1 p382 q382;cases e382;replace p382:=eq_true p382;replace q382:=eq_true q382;go_wp2
    go_ret
    exact ⟨fr_,dr_⟩
   ·rw [if_neg c6] at H;have c6b0:=bqf c6;have c6b1:=bnt c6;have H':=am_ H;clear H;have p382:0≤(x8_1:Int):=ofd;have q382:x8_1<(l0.length:Int):=ofd;obtain ⟨ad382,e382,hx382_0⟩:=Kd.at_int HR0.out x8_1 p382 q382;cases e382;replace p382:=eq_true p382;replace q382:=eq_true q382;go_wp2
    go_roundg k1
    case measure=>have:=HK1.out;omega
    case rel=>exact ⟨(wrap64 (x8_1+1)),fr_,H',⟨by have:=HK1.out;omega⟩,dr_⟩

end Go.Proofs.Ytbdijpjlgokfkaa.P
