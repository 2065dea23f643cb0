/- Lemmas of the walks. -/
import Derived.Test.YtmgofjgfmcmceaaF4
section
namespace Go.Proofs.Ytmgofjgfmcmceaa
open Go.RowKit
def cL : Code → Code
  | .seq a _ => a
  | _ => .skip
def cR : Code → Code
  | .seq _ b => b
  | _ => .skip
def cT : Code → Code
  | .cond _ a _ => a
  | _ => .skip
def cE : Code → Code
  | .cond _ _ b => b
  | _ => .skip
def cB : Code → Code
  | .block _ b => b
  | _ => .skip
def cO : Code → Code
  | .loop b => b
  | _ => .skip
def cOps : Code → Array Oper
  | .region _ ops _ => ops
  | _ => #[]
noncomputable def c2 : Code := Try.f2.body.getD .skip
noncomputable def c3 : Code := Try.f3.body.getD .skip
theorem body3 : Try.f3.body = some c3 := rfl
theorem name3 : (Try.f3.name == "runtime.NumGoroutine") = false := by kernel_rfl
noncomputable def c3_l : Code := cL c3
noncomputable def c3_r : Code := cR c3
noncomputable def c3_rl : Code := cL c3_r
noncomputable def c3_rr : Code := cR c3_r
noncomputable def c3_rrl : Code := cL c3_rr
noncomputable def c3_rrll : Code := cL c3_rrl
noncomputable def c3_rrlr : Code := cR c3_rrl
noncomputable def c3_rrlrt : Code := cT c3_rrlr
noncomputable def c3_rrlre : Code := cE c3_rrlr
noncomputable def c3_rrr : Code := cR c3_rr
noncomputable def c3_rrrl : Code := cL c3_rrr
noncomputable def c3_rrrr : Code := cR c3_rrr
noncomputable def c3_rrrrl : Code := cL c3_rrrr
noncomputable def c3_rrrrll : Code := cL c3_rrrrl
theorem c3_rrrrll_gs : (cOps c3_rrrrll).toList.map (gres (cOps c3_rrrrll)) = [none, none, none, some (some 28, false), some (some 28, false), some (some 28, false), none] := by kernel_rfl
noncomputable def c3_rrrrlr : Code := cR c3_rrrrl
noncomputable def c3_rrrrlrt : Code := cT c3_rrrrlr
noncomputable def c3_rrrrlrtl : Code := cL c3_rrrrlrt
theorem c3_rrrrlrtl_gs : (cOps c3_rrrrlrtl).toList.map (gres (cOps c3_rrrrlrtl)) = [none, none, some (some 34, true), some (some 34, true), none, none] := by kernel_rfl
noncomputable def c3_rrrrlrtr : Code := cR c3_rrrrlrt
noncomputable def c3_rrrrlre : Code := cE c3_rrrrlr
noncomputable def c3_rrrrr : Code := cR c3_rrrr
noncomputable def c3_rrrrrl : Code := cL c3_rrrrr
noncomputable def c3_rrrrrr : Code := cR c3_rrrrr
noncomputable def c3_rrrrrrl : Code := cL c3_rrrrrr
noncomputable def c3_rrrrrrll : Code := cL c3_rrrrrrl
noncomputable def c3_rrrrrrlr : Code := cR c3_rrrrrrl
noncomputable def c3_rrrrrrlrt : Code := cT c3_rrrrrrlr
noncomputable def c3_rrrrrrlre : Code := cE c3_rrrrrrlr
noncomputable def c3_rrrrrrr : Code := cR c3_rrrrrr
noncomputable def c3_rrrrrrrl : Code := cL c3_rrrrrrr
noncomputable def c3_rrrrrrrll : Code := cL c3_rrrrrrrl
noncomputable def c3_rrrrrrrlr : Code := cR c3_rrrrrrrl
noncomputable def c3_rrrrrrrlrb : Code := cB c3_rrrrrrrlr
noncomputable def c3_rrrrrrrlrbo : Code := cO c3_rrrrrrrlrb
noncomputable def c3_rrrrrrrlrbol : Code := cL c3_rrrrrrrlrbo
noncomputable def c3_rrrrrrrlrboll : Code := cL c3_rrrrrrrlrbol
theorem c3_rrrrrrrlrboll_gs : (cOps c3_rrrrrrrlrboll).toList.map (gres (cOps c3_rrrrrrrlrboll)) = [none, none, none, none, none, some (some 52, true), some (some 52, true), none] := by kernel_rfl
noncomputable def c3_rrrrrrrlrbolr : Code := cR c3_rrrrrrrlrbol
noncomputable def c3_rrrrrrrlrbolrt : Code := cT c3_rrrrrrrlrbolr
noncomputable def c3_rrrrrrrlrbolre : Code := cE c3_rrrrrrrlrbolr
noncomputable def c3_rrrrrrrlrbor : Code := cR c3_rrrrrrrlrbo
noncomputable def c3_rrrrrrrlrborl : Code := cL c3_rrrrrrrlrbor
noncomputable def c3_rrrrrrrlrborlb : Code := cB c3_rrrrrrrlrborl
noncomputable def c3_rrrrrrrlrborlbl : Code := cL c3_rrrrrrrlrborlb
noncomputable def c3_rrrrrrrlrborlbr : Code := cR c3_rrrrrrrlrborlb
noncomputable def c3_rrrrrrrlrborlbrl : Code := cL c3_rrrrrrrlrborlbr
noncomputable def c3_rrrrrrrlrborlbrr : Code := cR c3_rrrrrrrlrborlbr
noncomputable def c3_rrrrrrrlrborlbrrb : Code := cB c3_rrrrrrrlrborlbrr
noncomputable def c3_rrrrrrrlrborlbrrbo : Code := cO c3_rrrrrrrlrborlbrrb
noncomputable def c3_rrrrrrrlrborlbrrbol : Code := cL c3_rrrrrrrlrborlbrrbo
noncomputable def c3_rrrrrrrlrborlbrrboll : Code := cL c3_rrrrrrrlrborlbrrbol
noncomputable def c3_rrrrrrrlrborlbrrbolr : Code := cR c3_rrrrrrrlrborlbrrbol
noncomputable def c3_rrrrrrrlrborlbrrbolrt : Code := cT c3_rrrrrrrlrborlbrrbolr
noncomputable def c3_rrrrrrrlrborlbrrbolre : Code := cE c3_rrrrrrrlrborlbrrbolr
noncomputable def c3_rrrrrrrlrborlbrrbor : Code := cR c3_rrrrrrrlrborlbrrbo
noncomputable def c3_rrrrrrrlrborlbrrborl : Code := cL c3_rrrrrrrlrborlbrrbor
noncomputable def c3_rrrrrrrlrborlbrrborlb : Code := cB c3_rrrrrrrlrborlbrrborl
noncomputable def c3_rrrrrrrlrborlbrrborlbl : Code := cL c3_rrrrrrrlrborlbrrborlb
noncomputable def c3_rrrrrrrlrborlbrrborlbr : Code := cR c3_rrrrrrrlrborlbrrborlb
noncomputable def c3_rrrrrrrlrborlbrrborlbrl : Code := cL c3_rrrrrrrlrborlbrrborlbr
noncomputable def c3_rrrrrrrlrborlbrrborlbrr : Code := cR c3_rrrrrrrlrborlbrrborlbr
noncomputable def c3_rrrrrrrlrborlbrrborlbrrl : Code := cL c3_rrrrrrrlrborlbrrborlbrr
theorem c3_rrrrrrrlrborlbrrborlbrrl_gs : (cOps c3_rrrrrrrlrborlbrrborlbrrl).toList.map (gres (cOps c3_rrrrrrrlrborlbrrborlbrrl)) = [none, none, none, none, some (some 86, false), some (some 86, false), some (some 86, false), none] := by kernel_rfl
noncomputable def c3_rrrrrrrlrborlbrrborlbrrr : Code := cR c3_rrrrrrrlrborlbrrborlbrr
noncomputable def c3_rrrrrrrlrborlbrrborlbrrrt : Code := cT c3_rrrrrrrlrborlbrrborlbrrr
noncomputable def c3_rrrrrrrlrborlbrrborlbrrre : Code := cE c3_rrrrrrrlrborlbrrborlbrrr
noncomputable def c3_rrrrrrrlrborlbrrborr : Code := cR c3_rrrrrrrlrborlbrrbor
noncomputable def c3_rrrrrrrlrborr : Code := cR c3_rrrrrrrlrbor
noncomputable def c3_rrrrrrrr : Code := cR c3_rrrrrrr
noncomputable def c3_rrrrrrrrl : Code := cL c3_rrrrrrrr
noncomputable def c3_rrrrrrrrr : Code := cR c3_rrrrrrrr
noncomputable def c4 : Code := Try.f4.body.getD .skip
theorem body4 : Try.f4.body = some c4 := rfl
theorem name4 : (Try.f4.name == "runtime.NumGoroutine") = false := by kernel_rfl
noncomputable def c4_l : Code := cL c4
noncomputable def c4_r : Code := cR c4
noncomputable def c4_rl : Code := cL c4_r
noncomputable def c4_rr : Code := cR c4_r
noncomputable def c4_rrl : Code := cL c4_rr
noncomputable def c4_rrll : Code := cL c4_rrl
noncomputable def c4_rrlr : Code := cR c4_rrl
noncomputable def c4_rrlrt : Code := cT c4_rrlr
theorem c4_rrlrt_ok : drawOk X 4 (cOps c4_rrlrt) = true := by kernel_rfl
noncomputable def c4_rrlre : Code := cE c4_rrlr
noncomputable def c4_rrr : Code := cR c4_rr
noncomputable def c4_rrrl : Code := cL c4_rrr
noncomputable def c4_rrrll : Code := cL c4_rrrl
noncomputable def c4_rrrlr : Code := cR c4_rrrl
noncomputable def c4_rrrlrb : Code := cB c4_rrrlr
noncomputable def c4_rrrlrbo : Code := cO c4_rrrlrb
noncomputable def c4_rrrlrbol : Code := cL c4_rrrlrbo
noncomputable def c4_rrrlrboll : Code := cL c4_rrrlrbol
theorem c4_rrrlrboll_gs : (cOps c4_rrrlrboll).toList.map (gres (cOps c4_rrrlrboll)) = [none, none, none, none, none, none, some (some 29, true), some (some 29, true), none] := by kernel_rfl
noncomputable def c4_rrrlrbolr : Code := cR c4_rrrlrbol
noncomputable def c4_rrrlrbolrt : Code := cT c4_rrrlrbolr
noncomputable def c4_rrrlrbolre : Code := cE c4_rrrlrbolr
noncomputable def c4_rrrlrbor : Code := cR c4_rrrlrbo
noncomputable def c4_rrrlrborl : Code := cL c4_rrrlrbor
noncomputable def c4_rrrlrborlb : Code := cB c4_rrrlrborl
theorem c4_rrrlrborlb_ok : drawOk X 4 (cOps c4_rrrlrborlb) = true := by kernel_rfl
noncomputable def c4_rrrlrborr : Code := cR c4_rrrlrbor
noncomputable def c4_rrrr : Code := cR c4_rrr
noncomputable def c4_rrrrl : Code := cL c4_rrrr
noncomputable def c4_rrrrr : Code := cR c4_rrrr
theorem c4_rrlrt_dr : drs X 4 (cOps c4_rrlrt) = [([], false, false), ([], false, false), ([], false, false), ([], true, false), ([], true, false), ([], true, false), ([], true, false), ([], false, false), ([], false, false)] := by kernel_rfl
theorem c4_rrrlrborlb_dr : drs X 4 (cOps c4_rrrlrborlb) = [([], false, false), ([], false, false), ([], false, false), ([], false, false), ([], false, false), ([], false, false), ([], false, false), ([], false, false), ([], false, false), ([], false, false), ([], false, false), ([], false, false), ([], false, false), ([], false, false)] := by kernel_rfl
noncomputable def c5 : Code := Try.f5.body.getD .skip
theorem body5 : Try.f5.body = some c5 := rfl
theorem name5 : (Try.f5.name == "runtime.NumGoroutine") = false := by kernel_rfl
noncomputable def c5_l : Code := cL c5
noncomputable def c5_r : Code := cR c5
noncomputable def c5_rl : Code := cL c5_r
noncomputable def c5_rr : Code := cR c5_r
noncomputable def c5_rrl : Code := cL c5_rr
noncomputable def c5_rrr : Code := cR c5_rr
noncomputable def c5_rrrl : Code := cL c5_rrr
noncomputable def c5_rrrll : Code := cL c5_rrrl
theorem c5_rrrll_gs : (cOps c5_rrrll).toList.map (gres (cOps c5_rrrll)) = [none, none, none, some (some 15, true), some (some 15, true), none] := by kernel_rfl
noncomputable def c5_rrrlr : Code := cR c5_rrrl
noncomputable def c5_rrrlrt : Code := cT c5_rrrlr
noncomputable def c5_rrrlre : Code := cE c5_rrrlr
noncomputable def c5_rrrr : Code := cR c5_rrr
noncomputable def c5_rrrrl : Code := cL c5_rrrr
noncomputable def c5_rrrrll : Code := cL c5_rrrrl
noncomputable def c5_rrrrlr : Code := cR c5_rrrrl
noncomputable def c5_rrrrlrb : Code := cB c5_rrrrlr
noncomputable def c5_rrrrlrbl : Code := cL c5_rrrrlrb
noncomputable def c5_rrrrlrbll : Code := cL c5_rrrrlrbl
noncomputable def c5_rrrrlrblr : Code := cR c5_rrrrlrbl
noncomputable def c5_rrrrlrblrt : Code := cT c5_rrrrlrblr
noncomputable def c5_rrrrlrblre : Code := cE c5_rrrrlrblr
noncomputable def c5_rrrrlrbr : Code := cR c5_rrrrlrb
noncomputable def c5_rrrrlrbrt : Code := cT c5_rrrrlrbr
noncomputable def c5_rrrrlrbrtl : Code := cL c5_rrrrlrbrt
noncomputable def c5_rrrrlrbrtr : Code := cR c5_rrrrlrbrt
noncomputable def c5_rrrrlrbre : Code := cE c5_rrrrlrbr
noncomputable def c5_rrrrlrbrel : Code := cL c5_rrrrlrbre
noncomputable def c5_rrrrlrbrell : Code := cL c5_rrrrlrbrel
noncomputable def c5_rrrrlrbrelr : Code := cR c5_rrrrlrbrel
noncomputable def c5_rrrrlrbrelrt : Code := cT c5_rrrrlrbrelr
noncomputable def c5_rrrrlrbrelre : Code := cE c5_rrrrlrbrelr
noncomputable def c5_rrrrlrbrer : Code := cR c5_rrrrlrbre
noncomputable def c5_rrrrlrbrert : Code := cT c5_rrrrlrbrer
noncomputable def c5_rrrrlrbrertl : Code := cL c5_rrrrlrbrert
noncomputable def c5_rrrrlrbrertr : Code := cR c5_rrrrlrbrert
noncomputable def c5_rrrrlrbrere : Code := cE c5_rrrrlrbrer
noncomputable def c5_rrrrlrbrerel : Code := cL c5_rrrrlrbrere
noncomputable def c5_rrrrlrbrerer : Code := cR c5_rrrrlrbrere
noncomputable def c5_rrrrlrbrerert : Code := cT c5_rrrrlrbrerer
noncomputable def c5_rrrrlrbrerertl : Code := cL c5_rrrrlrbrerert
noncomputable def c5_rrrrlrbrerertr : Code := cR c5_rrrrlrbrerert
noncomputable def c5_rrrrlrbrerere : Code := cE c5_rrrrlrbrerer
noncomputable def c5_rrrrlrbrererel : Code := cL c5_rrrrlrbrerere
noncomputable def c5_rrrrlrbrererer : Code := cR c5_rrrrlrbrerere
noncomputable def c5_rrrrlrbrererert : Code := cT c5_rrrrlrbrererer
noncomputable def c5_rrrrlrbrererertl : Code := cL c5_rrrrlrbrererert
noncomputable def c5_rrrrlrbrererertr : Code := cR c5_rrrrlrbrererert
noncomputable def c5_rrrrlrbrererere : Code := cE c5_rrrrlrbrererer
noncomputable def c5_rrrrlrbrerererel : Code := cL c5_rrrrlrbrererere
noncomputable def c5_rrrrlrbrerererer : Code := cR c5_rrrrlrbrererere
noncomputable def c5_rrrrlrbrerererert : Code := cT c5_rrrrlrbrerererer
noncomputable def c5_rrrrlrbrerererertl : Code := cL c5_rrrrlrbrerererert
noncomputable def c5_rrrrlrbrerererertr : Code := cR c5_rrrrlrbrerererert
noncomputable def c5_rrrrlrbrerererere : Code := cE c5_rrrrlrbrerererer
noncomputable def c5_rrrrlrbrererererel : Code := cL c5_rrrrlrbrerererere
noncomputable def c5_rrrrlrbrererererell : Code := cL c5_rrrrlrbrererererel
noncomputable def c5_rrrrlrbrererererelr : Code := cR c5_rrrrlrbrererererel
noncomputable def c5_rrrrlrbrererererelrt : Code := cT c5_rrrrlrbrererererelr
noncomputable def c5_rrrrlrbrererererelre : Code := cE c5_rrrrlrbrererererelr
noncomputable def c5_rrrrlrbrererererer : Code := cR c5_rrrrlrbrerererere
noncomputable def c5_rrrrlrbrererererert : Code := cT c5_rrrrlrbrererererer
noncomputable def c5_rrrrlrbrererererertl : Code := cL c5_rrrrlrbrererererert
noncomputable def c5_rrrrlrbrererererertr : Code := cR c5_rrrrlrbrererererert
noncomputable def c5_rrrrlrbrererererere : Code := cE c5_rrrrlrbrererererer
noncomputable def c5_rrrrlrbrerererererel : Code := cL c5_rrrrlrbrererererere
noncomputable def c5_rrrrlrbrerererererer : Code := cR c5_rrrrlrbrererererere
noncomputable def c5_rrrrlrbrerererererert : Code := cT c5_rrrrlrbrerererererer
noncomputable def c5_rrrrlrbrerererererertl : Code := cL c5_rrrrlrbrerererererert
noncomputable def c5_rrrrlrbrerererererertr : Code := cR c5_rrrrlrbrerererererert
noncomputable def c5_rrrrlrbrerererererertrl : Code := cL c5_rrrrlrbrerererererertr
noncomputable def c5_rrrrlrbrerererererertrll : Code := cL c5_rrrrlrbrerererererertrl
noncomputable def c5_rrrrlrbrerererererertrlr : Code := cR c5_rrrrlrbrerererererertrl
noncomputable def c5_rrrrlrbrerererererertrlrb : Code := cB c5_rrrrlrbrerererererertrlr
noncomputable def c5_rrrrlrbrerererererertrlrbo : Code := cO c5_rrrrlrbrerererererertrlrb
noncomputable def c5_rrrrlrbrerererererertrlrbol : Code := cL c5_rrrrlrbrerererererertrlrbo
noncomputable def c5_rrrrlrbrerererererertrlrboll : Code := cL c5_rrrrlrbrerererererertrlrbol
noncomputable def c5_rrrrlrbrerererererertrlrbolr : Code := cR c5_rrrrlrbrerererererertrlrbol
noncomputable def c5_rrrrlrbrerererererertrlrbolrt : Code := cT c5_rrrrlrbrerererererertrlrbolr
noncomputable def c5_rrrrlrbrerererererertrlrbolre : Code := cE c5_rrrrlrbrerererererertrlrbolr
noncomputable def c5_rrrrlrbrerererererertrlrbor : Code := cR c5_rrrrlrbrerererererertrlrbo
noncomputable def c5_rrrrlrbrerererererertrlrborl : Code := cL c5_rrrrlrbrerererererertrlrbor
noncomputable def c5_rrrrlrbrerererererertrlrborlb : Code := cB c5_rrrrlrbrerererererertrlrborl
theorem c5_rrrrlrbrerererererertrlrborlb_gs : (cOps c5_rrrrlrbrerererererertrlrborlb).toList.map (gres (cOps c5_rrrrlrbrerererererertrlrborlb)) = [none, none, none, none, some (some 73, false), some (some 73, false), some (some 73, false), some (some 76, true), some (some 76, true), some (some 76, true), some (some 76, true), some (some 73, false), none, none, some (some 83, false), some (some 83, false), some (some 83, false), some (some 83, false), none, none, none] := by kernel_rfl
noncomputable def c5_rrrrlrbrerererererertrlrborr : Code := cR c5_rrrrlrbrerererererertrlrbor
noncomputable def c5_rrrrlrbrerererererertrr : Code := cR c5_rrrrlrbrerererererertr
noncomputable def c5_rrrrlrbrerererererertrrl : Code := cL c5_rrrrlrbrerererererertrr
noncomputable def c5_rrrrlrbrerererererertrrr : Code := cR c5_rrrrlrbrerererererertrr
noncomputable def c5_rrrrlrbrerererererere : Code := cE c5_rrrrlrbrerererererer
noncomputable def c5_rrrrlrbrererererererel : Code := cL c5_rrrrlrbrerererererere
noncomputable def c5_rrrrlrbrererererererer : Code := cR c5_rrrrlrbrerererererere
noncomputable def c5_rrrrlrbrererererererert : Code := cT c5_rrrrlrbrererererererer
noncomputable def c5_rrrrlrbrererererererertl : Code := cL c5_rrrrlrbrererererererert
noncomputable def c5_rrrrlrbrererererererertr : Code := cR c5_rrrrlrbrererererererert
noncomputable def c5_rrrrlrbrererererererere : Code := cE c5_rrrrlrbrererererererer
noncomputable def c5_rrrrr : Code := cR c5_rrrr
noncomputable def c5_rrrrrl : Code := cL c5_rrrrr
noncomputable def c5_rrrrrr : Code := cR c5_rrrrr
noncomputable def c6 : Code := Try.f6.body.getD .skip
theorem body6 : Try.f6.body = some c6 := rfl
theorem name6 : (Try.f6.name == "runtime.NumGoroutine") = false := by kernel_rfl
noncomputable def c6_l : Code := cL c6
noncomputable def c6_r : Code := cR c6
noncomputable def c6_rl : Code := cL c6_r
noncomputable def c6_rll : Code := cL c6_rl
noncomputable def c6_rlr : Code := cR c6_rl
noncomputable def c6_rlrt : Code := cT c6_rlr
noncomputable def c6_rlrtl : Code := cL c6_rlrt
noncomputable def c6_rlrtr : Code := cR c6_rlrt
noncomputable def c6_rlre : Code := cE c6_rlr
noncomputable def c6_rr : Code := cR c6_r
noncomputable def c6_rrl : Code := cL c6_rr
noncomputable def c6_rrr : Code := cR c6_rr
noncomputable def c7 : Code := Try.f7.body.getD .skip
theorem body7 : Try.f7.body = some c7 := rfl
theorem name7 : (Try.f7.name == "runtime.NumGoroutine") = false := by kernel_rfl
noncomputable def c7_l : Code := cL c7
noncomputable def c7_r : Code := cR c7
noncomputable def c7_rl : Code := cL c7_r
noncomputable def c7_rr : Code := cR c7_r
noncomputable def c7_rrl : Code := cL c7_rr
noncomputable def c7_rrr : Code := cR c7_rr
noncomputable def c7_rrrl : Code := cL c7_rrr
noncomputable def c7_rrrr : Code := cR c7_rrr
noncomputable def c7_rrrrl : Code := cL c7_rrrr
noncomputable def c7_rrrrr : Code := cR c7_rrrr
noncomputable def c7_rrrrrl : Code := cL c7_rrrrr
noncomputable def c7_rrrrrr : Code := cR c7_rrrrr
noncomputable def c7_rrrrrrl : Code := cL c7_rrrrrr
theorem c7_rrrrrrl_gs : (cOps c7_rrrrrrl).toList.map (gres (cOps c7_rrrrrrl)) = [none, none, none, some (some 31, true), some (some 31, true), some (some 31, true), some (some 31, true), some (some 31, true), some (some 31, true), some (some 31, true), some (some 31, true), none, none, some (some 41, true), some (some 41, true), none, none, some (some 45, true), some (some 45, true), some (some 45, true), some (some 45, true), some (some 45, true), some (some 45, true), none, none, some (some 53, true), some (some 53, true), none, none, some (some 57, true), some (some 57, true), none, none] := by kernel_rfl
noncomputable def c7_rrrrrrr : Code := cR c7_rrrrrr
noncomputable def c8 : Code := Try.f8.body.getD .skip
theorem body8 : Try.f8.body = some c8 := rfl
theorem name8 : (Try.f8.name == "runtime.NumGoroutine") = false := by kernel_rfl
noncomputable def c8_l : Code := cL c8
noncomputable def c8_r : Code := cR c8
noncomputable def c8_rl : Code := cL c8_r
theorem c8_rl_gs : (cOps c8_rl).toList.map (gres (cOps c8_rl)) = [none, none, none, some (some 5, true), some (some 5, true), none, none, some (some 9, true), some (some 9, true), some (some 9, true), none, none] := by kernel_rfl
noncomputable def c8_rr : Code := cR c8_r
noncomputable def c9 : Code := Try.f9.body.getD .skip
theorem body9 : Try.f9.body = some c9 := rfl
theorem name9 : (Try.f9.name == "runtime.NumGoroutine") = false := by kernel_rfl
noncomputable def c9_l : Code := cL c9
noncomputable def c9_r : Code := cR c9
noncomputable def c9_rl : Code := cL c9_r
noncomputable def c9_rll : Code := cL c9_rl
noncomputable def c9_rlr : Code := cR c9_rl
noncomputable def c9_rlrt : Code := cT c9_rlr
noncomputable def c9_rlre : Code := cE c9_rlr
noncomputable def c9_rr : Code := cR c9_r
noncomputable def c9_rrl : Code := cL c9_rr
noncomputable def c9_rrr : Code := cR c9_rr
noncomputable def c9_rrrl : Code := cL c9_rrr
noncomputable def c9_rrrr : Code := cR c9_rrr
noncomputable def c9_rrrrl : Code := cL c9_rrrr
noncomputable def c9_rrrrll : Code := cL c9_rrrrl
theorem c9_rrrrll_gs : (cOps c9_rrrrll).toList.map (gres (cOps c9_rrrrll)) = [none, none, none, none, none, none, some (some 20, true), some (some 20, true), none] := by kernel_rfl
noncomputable def c9_rrrrlr : Code := cR c9_rrrrl
noncomputable def c9_rrrrlrt : Code := cT c9_rrrrlr
noncomputable def c9_rrrrlre : Code := cE c9_rrrrlr
noncomputable def c9_rrrrr : Code := cR c9_rrrr
noncomputable def c9_rrrrrl : Code := cL c9_rrrrr
noncomputable def c9_rrrrrll : Code := cL c9_rrrrrl
theorem c9_rrrrrll_gs : (cOps c9_rrrrrll).toList.map (gres (cOps c9_rrrrrll)) = [none, none, none, none, none, none, some (some 35, true), some (some 35, true), some (some 35, true), some (some 38, false), some (some 38, false), some (some 38, false), some (some 38, false), some (some 35, true), none] := by kernel_rfl
noncomputable def c9_rrrrrlr : Code := cR c9_rrrrrl
noncomputable def c9_rrrrrlrt : Code := cT c9_rrrrrlr
noncomputable def c9_rrrrrlre : Code := cE c9_rrrrrlr
noncomputable def c9_rrrrrr : Code := cR c9_rrrrr
noncomputable def c9_rrrrrrl : Code := cL c9_rrrrrr
noncomputable def c9_rrrrrrll : Code := cL c9_rrrrrrl
noncomputable def c9_rrrrrrlr : Code := cR c9_rrrrrrl
noncomputable def c9_rrrrrrlrt : Code := cT c9_rrrrrrlr
noncomputable def c9_rrrrrrlrtl : Code := cL c9_rrrrrrlrt
theorem c9_rrrrrrlrtl_ok : drawOk X 9 (cOps c9_rrrrrrlrtl) = true := by kernel_rfl
noncomputable def c9_rrrrrrlrtr : Code := cR c9_rrrrrrlrt
noncomputable def c9_rrrrrrlre : Code := cE c9_rrrrrrlr
noncomputable def c9_rrrrrrr : Code := cR c9_rrrrrr
noncomputable def c9_rrrrrrrl : Code := cL c9_rrrrrrr
noncomputable def c9_rrrrrrrr : Code := cR c9_rrrrrrr
theorem c9_rrrrrrlrtl_dr : drs X 9 (cOps c9_rrrrrrlrtl) = [([], false, false), ([], false, true), ([], false, true), ([], false, true), ([], false, true), ([], false, true), ([], false, true), ([], false, true), ([], false, true), ([], false, false), ([], false, false), ([], false, false)] := by kernel_rfl
noncomputable def c10 : Code := Try.f10.body.getD .skip
theorem body10 : Try.f10.body = some c10 := rfl
theorem name10 : (Try.f10.name == "runtime.NumGoroutine") = false := by kernel_rfl
noncomputable def c10_l : Code := cL c10
noncomputable def c10_r : Code := cR c10
noncomputable def c10_rl : Code := cL c10_r
noncomputable def c10_rr : Code := cR c10_r
noncomputable def c10_rrl : Code := cL c10_rr
noncomputable def c10_rrll : Code := cL c10_rrl
noncomputable def c10_rrlr : Code := cR c10_rrl
noncomputable def c10_rrlrb : Code := cB c10_rrlr
noncomputable def c10_rrlrbo : Code := cO c10_rrlrb
noncomputable def c10_rrlrbol : Code := cL c10_rrlrbo
noncomputable def c10_rrlrboll : Code := cL c10_rrlrbol
theorem c10_rrlrboll_gs : (cOps c10_rrlrboll).toList.map (gres (cOps c10_rrlrboll)) = [none, none, none, none, none, some (some 11, true), some (some 11, true), some (some 11, true), none] := by kernel_rfl
noncomputable def c10_rrlrbolr : Code := cR c10_rrlrbol
noncomputable def c10_rrlrbolrt : Code := cT c10_rrlrbolr
noncomputable def c10_rrlrbolre : Code := cE c10_rrlrbolr
noncomputable def c10_rrlrbor : Code := cR c10_rrlrbo
noncomputable def c10_rrlrborl : Code := cL c10_rrlrbor
noncomputable def c10_rrlrborlb : Code := cB c10_rrlrborl
theorem c10_rrlrborlb_ok : drawOk X 10 (cOps c10_rrlrborlb) = true := by kernel_rfl
noncomputable def c10_rrlrborr : Code := cR c10_rrlrbor
noncomputable def c10_rrr : Code := cR c10_rr
noncomputable def c10_rrrl : Code := cL c10_rrr
noncomputable def c10_rrrr : Code := cR c10_rrr
theorem c10_rrlrborlb_dr : drs X 10 (cOps c10_rrlrborlb) = [([], false, false), ([], false, false), ([], false, false), ([], false, false), ([], false, false), ([], false, false), ([], false, false), ([], false, false), ([], false, false), ([], false, false), ([], false, false), ([], false, false), ([], false, false), ([], false, false), ([], false, false)] := by kernel_rfl
noncomputable def c11 : Code := Try.f11.body.getD .skip
theorem body11 : Try.f11.body = some c11 := rfl
theorem name11 : (Try.f11.name == "runtime.NumGoroutine") = false := by kernel_rfl
noncomputable def c11_l : Code := cL c11
noncomputable def c11_r : Code := cR c11
noncomputable def c11_rl : Code := cL c11_r
noncomputable def c11_rll : Code := cL c11_rl
theorem c11_rll_gs : (cOps c11_rll).toList.map (gres (cOps c11_rll)) = [none, none, none, some (some 12, false), some (some 12, false), some (some 12, false), some (some 12, false), none] := by kernel_rfl
noncomputable def c11_rlr : Code := cR c11_rl
noncomputable def c11_rlrt : Code := cT c11_rlr
noncomputable def c11_rlre : Code := cE c11_rlr
noncomputable def c11_rr : Code := cR c11_r
noncomputable def c11_rrl : Code := cL c11_rr
noncomputable def c11_rrr : Code := cR c11_rr
noncomputable def c11_rrrl : Code := cL c11_rrr
noncomputable def c11_rrrr : Code := cR c11_rrr
noncomputable def c11_rrrrl : Code := cL c11_rrrr
noncomputable def c11_rrrrr : Code := cR c11_rrrr
noncomputable def c11_rrrrrl : Code := cL c11_rrrrr
noncomputable def c11_rrrrrll : Code := cL c11_rrrrrl
noncomputable def c11_rrrrrlr : Code := cR c11_rrrrrl
noncomputable def c11_rrrrrlrb : Code := cB c11_rrrrrlr
noncomputable def c11_rrrrrlrbo : Code := cO c11_rrrrrlrb
noncomputable def c11_rrrrrlrbol : Code := cL c11_rrrrrlrbo
noncomputable def c11_rrrrrlrboll : Code := cL c11_rrrrrlrbol
noncomputable def c11_rrrrrlrbolr : Code := cR c11_rrrrrlrbol
noncomputable def c11_rrrrrlrbolrt : Code := cT c11_rrrrrlrbolr
noncomputable def c11_rrrrrlrbolre : Code := cE c11_rrrrrlrbolr
noncomputable def c11_rrrrrlrbor : Code := cR c11_rrrrrlrbo
noncomputable def c11_rrrrrlrborl : Code := cL c11_rrrrrlrbor
noncomputable def c11_rrrrrlrborlb : Code := cB c11_rrrrrlrborl
noncomputable def c11_rrrrrlrborlbl : Code := cL c11_rrrrrlrborlb
noncomputable def c11_rrrrrlrborlbr : Code := cR c11_rrrrrlrborlb
noncomputable def c11_rrrrrlrborlbrt : Code := cT c11_rrrrrlrborlbr
noncomputable def c11_rrrrrlrborlbrtl : Code := cL c11_rrrrrlrborlbrt
noncomputable def c11_rrrrrlrborlbrtr : Code := cR c11_rrrrrlrborlbrt
noncomputable def c11_rrrrrlrborlbre : Code := cE c11_rrrrrlrborlbr
noncomputable def c11_rrrrrlrborr : Code := cR c11_rrrrrlrbor
noncomputable def c11_rrrrrr : Code := cR c11_rrrrr
noncomputable def c11_rrrrrrl : Code := cL c11_rrrrrr
noncomputable def c11_rrrrrrr : Code := cR c11_rrrrrr
noncomputable def c12 : Code := Try.f12.body.getD .skip
theorem body12 : Try.f12.body = some c12 := rfl
theorem name12 : (Try.f12.name == "runtime.NumGoroutine") = false := by kernel_rfl
noncomputable def c12_l : Code := cL c12
noncomputable def c12_r : Code := cR c12
noncomputable def c12_rl : Code := cL c12_r
noncomputable def c12_rr : Code := cR c12_r
noncomputable def c12_rrl : Code := cL c12_rr
noncomputable def c12_rrll : Code := cL c12_rrl
noncomputable def c12_rrlr : Code := cR c12_rrl
noncomputable def c12_rrlrt : Code := cT c12_rrlr
noncomputable def c12_rrlre : Code := cE c12_rrlr
noncomputable def c12_rrr : Code := cR c12_rr
noncomputable def c12_rrrl : Code := cL c12_rrr
noncomputable def c12_rrrr : Code := cR c12_rrr
noncomputable def c13 : Code := Try.f13.body.getD .skip
theorem body13 : Try.f13.body = some c13 := rfl
theorem name13 : (Try.f13.name == "runtime.NumGoroutine") = false := by kernel_rfl
noncomputable def c13_l : Code := cL c13
noncomputable def c13_r : Code := cR c13
noncomputable def c13_rl : Code := cL c13_r
noncomputable def c13_rll : Code := cL c13_rl
theorem c13_rll_gs : (cOps c13_rll).toList.map (gres (cOps c13_rll)) = [none, none, none, none, none, none, some (some 10, true), some (some 10, true), none] := by kernel_rfl
noncomputable def c13_rlr : Code := cR c13_rl
noncomputable def c13_rlrt : Code := cT c13_rlr
noncomputable def c13_rlrtl : Code := cL c13_rlrt
theorem c13_rlrtl_ok : drawOk X 13 (cOps c13_rlrtl) = true := by kernel_rfl
noncomputable def c13_rlrtr : Code := cR c13_rlrt
noncomputable def c13_rlre : Code := cE c13_rlr
noncomputable def c13_rr : Code := cR c13_r
noncomputable def c13_rrl : Code := cL c13_rr
noncomputable def c13_rrr : Code := cR c13_rr
theorem c13_rlrtl_dr : drs X 13 (cOps c13_rlrtl) = [([], false, false), ([], false, false), ([], false, false), ([], false, false), ([], false, false), ([], false, false), ([], false, false), ([], false, false), ([], false, false)] := by kernel_rfl
noncomputable def c16 : Code := Try.f16.body.getD .skip
theorem body16 : Try.f16.body = some c16 := rfl
theorem name16 : (Try.f16.name == "runtime.NumGoroutine") = false := by kernel_rfl
noncomputable def c16_l : Code := cL c16
noncomputable def c16_r : Code := cR c16
noncomputable def c16_rl : Code := cL c16_r
noncomputable def c16_rr : Code := cR c16_r
noncomputable def c16_rrl : Code := cL c16_rr
noncomputable def c16_rrr : Code := cR c16_rr
noncomputable def c17 : Code := Try.f17.body.getD .skip
theorem body17 : Try.f17.body = some c17 := rfl
theorem name17 : (Try.f17.name == "runtime.NumGoroutine") = false := by kernel_rfl
noncomputable def c17_l : Code := cL c17
noncomputable def c17_r : Code := cR c17
noncomputable def c17_rl : Code := cL c17_r
noncomputable def c17_rll : Code := cL c17_rl
noncomputable def c17_rlr : Code := cR c17_rl
noncomputable def c17_rlrb : Code := cB c17_rlr
noncomputable def c17_rlrbl : Code := cL c17_rlrb
noncomputable def c17_rlrbr : Code := cR c17_rlrb
noncomputable def c17_rlrbrt : Code := cT c17_rlrbr
noncomputable def c17_rlrbrtl : Code := cL c17_rlrbrt
noncomputable def c17_rlrbrtr : Code := cR c17_rlrbrt
noncomputable def c17_rlrbre : Code := cE c17_rlrbr
noncomputable def c17_rlrbrel : Code := cL c17_rlrbre
noncomputable def c17_rlrbrer : Code := cR c17_rlrbre
noncomputable def c17_rlrbrert : Code := cT c17_rlrbrer
noncomputable def c17_rlrbrertl : Code := cL c17_rlrbrert
noncomputable def c17_rlrbrertr : Code := cR c17_rlrbrert
noncomputable def c17_rlrbrere : Code := cE c17_rlrbrer
noncomputable def c17_rlrbrerel : Code := cL c17_rlrbrere
noncomputable def c17_rlrbrerer : Code := cR c17_rlrbrere
noncomputable def c17_rlrbrerert : Code := cT c17_rlrbrerer
noncomputable def c17_rlrbrerertl : Code := cL c17_rlrbrerert
theorem c17_rlrbrerertl_ok : drawOk X 17 (cOps c17_rlrbrerertl) = true := by kernel_rfl
noncomputable def c17_rlrbrerertr : Code := cR c17_rlrbrerert
noncomputable def c17_rlrbrerere : Code := cE c17_rlrbrerer
noncomputable def c17_rlrbrererel : Code := cL c17_rlrbrerere
noncomputable def c17_rlrbrererer : Code := cR c17_rlrbrerere
noncomputable def c17_rlrbrererert : Code := cT c17_rlrbrererer
noncomputable def c17_rlrbrererertl : Code := cL c17_rlrbrererert
theorem c17_rlrbrererertl_ok : drawOk X 17 (cOps c17_rlrbrererertl) = true := by kernel_rfl
noncomputable def c17_rlrbrererertr : Code := cR c17_rlrbrererert
noncomputable def c17_rlrbrererere : Code := cE c17_rlrbrererer
noncomputable def c17_rlrbrerererel : Code := cL c17_rlrbrererere
noncomputable def c17_rlrbrerererer : Code := cR c17_rlrbrererere
noncomputable def c17_rlrbrerererert : Code := cT c17_rlrbrerererer
noncomputable def c17_rlrbrerererertl : Code := cL c17_rlrbrerererert
noncomputable def c17_rlrbrerererertr : Code := cR c17_rlrbrerererert
noncomputable def c17_rlrbrerererere : Code := cE c17_rlrbrerererer
noncomputable def c17_rlrbrererererel : Code := cL c17_rlrbrerererere
noncomputable def c17_rlrbrererererer : Code := cR c17_rlrbrerererere
noncomputable def c17_rlrbrererererert : Code := cT c17_rlrbrererererer
noncomputable def c17_rlrbrererererertl : Code := cL c17_rlrbrererererert
noncomputable def c17_rlrbrererererertr : Code := cR c17_rlrbrererererert
noncomputable def c17_rlrbrererererere : Code := cE c17_rlrbrererererer
noncomputable def c17_rlrbrerererererel : Code := cL c17_rlrbrererererere
noncomputable def c17_rlrbrerererererer : Code := cR c17_rlrbrererererere
noncomputable def c17_rlrbrerererererert : Code := cT c17_rlrbrerererererer
noncomputable def c17_rlrbrerererererertl : Code := cL c17_rlrbrerererererert
noncomputable def c17_rlrbrerererererertr : Code := cR c17_rlrbrerererererert
noncomputable def c17_rlrbrerererererere : Code := cE c17_rlrbrerererererer
noncomputable def c17_rlrbrererererererel : Code := cL c17_rlrbrerererererere
noncomputable def c17_rlrbrererererererer : Code := cR c17_rlrbrerererererere
noncomputable def c17_rlrbrererererererert : Code := cT c17_rlrbrererererererer
noncomputable def c17_rlrbrererererererertl : Code := cL c17_rlrbrererererererert
noncomputable def c17_rlrbrererererererertr : Code := cR c17_rlrbrererererererert
noncomputable def c17_rlrbrererererererere : Code := cE c17_rlrbrererererererer
noncomputable def c17_rr : Code := cR c17_r
noncomputable def c17_rrl : Code := cL c17_rr
noncomputable def c17_rrr : Code := cR c17_rr
theorem c17_rlrbrerertl_dr : drs X 17 (cOps c17_rlrbrerertl) = [([], false, false), ([], false, false), ([], false, false), ([], false, false), ([], false, false), ([], false, false), ([], false, false), ([], true, false), ([], true, false), ([], true, false), ([], true, false), ([], false, false), ([], false, false), ([], false, false), ([], false, false)] := by kernel_rfl
theorem c17_rlrbrererertl_dr : drs X 17 (cOps c17_rlrbrererertl) = [([], false, false), ([], false, false), ([], false, false), ([], false, false), ([], false, false), ([], false, false), ([], false, false), ([], true, false), ([], true, false), ([], true, false), ([], true, false), ([], false, false), ([], false, false), ([], false, false), ([], false, false)] := by kernel_rfl
noncomputable def c18 : Code := Try.f18.body.getD .skip
theorem body18 : Try.f18.body = some c18 := rfl
theorem name18 : (Try.f18.name == "runtime.NumGoroutine") = false := by kernel_rfl
noncomputable def c18_l : Code := cL c18
noncomputable def c18_r : Code := cR c18
noncomputable def c18_rl : Code := cL c18_r
noncomputable def c18_rll : Code := cL c18_rl
theorem c18_rll_gs : (cOps c18_rll).toList.map (gres (cOps c18_rll)) = [none, none, none, none, none, none, some (some 11, false), some (some 11, false), some (some 11, false), some (some 11, false), some (some 11, false), none, none, some (some 18, false), some (some 18, false), some (some 18, false), some (some 18, false), some (some 18, false), some (some 18, false), some (some 18, false), none] := by kernel_rfl
noncomputable def c18_rlr : Code := cR c18_rl
noncomputable def c18_rlrt : Code := cT c18_rlr
noncomputable def c18_rlre : Code := cE c18_rlr
noncomputable def c18_rr : Code := cR c18_r
noncomputable def c18_rrl : Code := cL c18_rr
noncomputable def c18_rrll : Code := cL c18_rrl
noncomputable def c18_rrlr : Code := cR c18_rrl
noncomputable def c18_rrlrb : Code := cB c18_rrlr
noncomputable def c18_rrlrbo : Code := cO c18_rrlrb
noncomputable def c18_rrlrbol : Code := cL c18_rrlrbo
noncomputable def c18_rrlrboll : Code := cL c18_rrlrbol
noncomputable def c18_rrlrbolr : Code := cR c18_rrlrbol
noncomputable def c18_rrlrbolrt : Code := cT c18_rrlrbolr
noncomputable def c18_rrlrbolre : Code := cE c18_rrlrbolr
noncomputable def c18_rrlrbor : Code := cR c18_rrlrbo
noncomputable def c18_rrlrborl : Code := cL c18_rrlrbor
noncomputable def c18_rrlrborlb : Code := cB c18_rrlrborl
noncomputable def c18_rrlrborlbl : Code := cL c18_rrlrborlb
theorem c18_rrlrborlbl_ok : drawOk X 18 (cOps c18_rrlrborlbl) = true := by kernel_rfl
noncomputable def c18_rrlrborlbr : Code := cR c18_rrlrborlb
noncomputable def c18_rrlrborlbrt : Code := cT c18_rrlrborlbr
noncomputable def c18_rrlrborlbre : Code := cE c18_rrlrborlbr
noncomputable def c18_rrlrborr : Code := cR c18_rrlrbor
noncomputable def c18_rrr : Code := cR c18_rr
noncomputable def c18_rrrl : Code := cL c18_rrr
noncomputable def c18_rrrr : Code := cR c18_rrr
theorem c18_rrlrborlbl_dr : drs X 18 (cOps c18_rrlrborlbl) = [([], false, false), ([], false, false), ([], false, false), ([], false, false), ([], false, false), ([], false, false), ([], false, false), ([], false, false), ([], false, false), ([], false, false), ([], false, false), ([], false, false)] := by kernel_rfl
noncomputable def c19 : Code := Try.f19.body.getD .skip
theorem body19 : Try.f19.body = some c19 := rfl
theorem name19 : (Try.f19.name == "runtime.NumGoroutine") = false := by kernel_rfl
noncomputable def c19_l : Code := cL c19
noncomputable def c19_r : Code := cR c19
noncomputable def c19_rl : Code := cL c19_r
noncomputable def c19_rll : Code := cL c19_rl
theorem c19_rll_ok : drawOk X 19 (cOps c19_rll) = true := by kernel_rfl
theorem c19_rll_gs : (cOps c19_rll).toList.map (gres (cOps c19_rll)) = [none, none, none, none, none, none, none, none, some (some 11, false), some (some 11, false), some (some 11, false), some (some 11, false), some (some 15, true), some (some 15, true), some (some 15, true), some (some 15, true), some (some 11, false), none] := by kernel_rfl
noncomputable def c19_rlr : Code := cR c19_rl
noncomputable def c19_rlrt : Code := cT c19_rlr
noncomputable def c19_rlrtl : Code := cL c19_rlrt
noncomputable def c19_rlrtr : Code := cR c19_rlrt
noncomputable def c19_rlre : Code := cE c19_rlr
noncomputable def c19_rr : Code := cR c19_r
noncomputable def c19_rrl : Code := cL c19_rr
noncomputable def c19_rrll : Code := cL c19_rrl
noncomputable def c19_rrlr : Code := cR c19_rrl
noncomputable def c19_rrlrb : Code := cB c19_rrlr
noncomputable def c19_rrlrbo : Code := cO c19_rrlrb
noncomputable def c19_rrlrbol : Code := cL c19_rrlrbo
noncomputable def c19_rrlrboll : Code := cL c19_rrlrbol
noncomputable def c19_rrlrbolr : Code := cR c19_rrlrbol
noncomputable def c19_rrlrbolrt : Code := cT c19_rrlrbolr
noncomputable def c19_rrlrbolre : Code := cE c19_rrlrbolr
noncomputable def c19_rrlrbor : Code := cR c19_rrlrbo
noncomputable def c19_rrlrborl : Code := cL c19_rrlrbor
noncomputable def c19_rrlrborlb : Code := cB c19_rrlrborl
noncomputable def c19_rrlrborlbl : Code := cL c19_rrlrborlb
noncomputable def c19_rrlrborlbr : Code := cR c19_rrlrborlb
noncomputable def c19_rrlrborlbrt : Code := cT c19_rrlrborlbr
noncomputable def c19_rrlrborlbrtl : Code := cL c19_rrlrborlbrt
noncomputable def c19_rrlrborlbrtr : Code := cR c19_rrlrborlbrt
noncomputable def c19_rrlrborlbre : Code := cE c19_rrlrborlbr
noncomputable def c19_rrlrborr : Code := cR c19_rrlrbor
noncomputable def c19_rrr : Code := cR c19_rr
noncomputable def c19_rrrl : Code := cL c19_rrr
noncomputable def c19_rrrr : Code := cR c19_rrr
theorem c19_rll_dr : drs X 19 (cOps c19_rll) = [([], false, false), ([], false, false), ([], false, false), ([], false, false), ([], false, false), ([], false, false), ([], false, false), ([], false, false), ([], false, false), ([], false, false), ([], false, false), ([], false, false), ([], false, false), ([], false, false), ([], false, false), ([], false, false), ([], false, false), ([], false, false)] := by kernel_rfl
noncomputable def c20 : Code := Try.f20.body.getD .skip
theorem body20 : Try.f20.body = some c20 := rfl
theorem name20 : (Try.f20.name == "runtime.NumGoroutine") = false := by kernel_rfl
noncomputable def c20_l : Code := cL c20
noncomputable def c20_r : Code := cR c20
noncomputable def c20_rl : Code := cL c20_r
noncomputable def c20_rll : Code := cL c20_rl
noncomputable def c20_rlr : Code := cR c20_rl
noncomputable def c20_rlrt : Code := cT c20_rlr
noncomputable def c20_rlre : Code := cE c20_rlr
noncomputable def c20_rr : Code := cR c20_r
noncomputable def c20_rrl : Code := cL c20_rr
noncomputable def c20_rrll : Code := cL c20_rrl
noncomputable def c20_rrlr : Code := cR c20_rrl
noncomputable def c20_rrlrb : Code := cB c20_rrlr
noncomputable def c20_rrlrbo : Code := cO c20_rrlrb
noncomputable def c20_rrlrbol : Code := cL c20_rrlrbo
noncomputable def c20_rrlrboll : Code := cL c20_rrlrbol
noncomputable def c20_rrlrbolr : Code := cR c20_rrlrbol
noncomputable def c20_rrlrbolrt : Code := cT c20_rrlrbolr
noncomputable def c20_rrlrbolre : Code := cE c20_rrlrbolr
noncomputable def c20_rrlrbor : Code := cR c20_rrlrbo
noncomputable def c20_rrlrborl : Code := cL c20_rrlrbor
noncomputable def c20_rrlrborlb : Code := cB c20_rrlrborl
noncomputable def c20_rrlrborlbl : Code := cL c20_rrlrborlb
noncomputable def c20_rrlrborlbr : Code := cR c20_rrlrborlb
noncomputable def c20_rrlrborlbrl : Code := cL c20_rrlrborlbr
noncomputable def c20_rrlrborlbrll : Code := cL c20_rrlrborlbrl
theorem c20_rrlrborlbrll_gs : (cOps c20_rrlrborlbrll).toList.map (gres (cOps c20_rrlrborlbrll)) = [none, none, none, some (some 20, true), some (some 20, true), some (some 20, true), some (some 20, true), some (some 24, false), some (some 24, false), some (some 24, false), some (some 20, true), none] := by kernel_rfl
noncomputable def c20_rrlrborlbrlr : Code := cR c20_rrlrborlbrl
noncomputable def c20_rrlrborlbrlrt : Code := cT c20_rrlrborlbrlr
noncomputable def c20_rrlrborlbrlre : Code := cE c20_rrlrborlbrlr
noncomputable def c20_rrlrborlbrr : Code := cR c20_rrlrborlbr
noncomputable def c20_rrlrborlbrrl : Code := cL c20_rrlrborlbrr
noncomputable def c20_rrlrborlbrrr : Code := cR c20_rrlrborlbrr
noncomputable def c20_rrlrborlbrrrt : Code := cT c20_rrlrborlbrrr
noncomputable def c20_rrlrborlbrrre : Code := cE c20_rrlrborlbrrr
noncomputable def c20_rrlrborr : Code := cR c20_rrlrbor
noncomputable def c20_rrr : Code := cR c20_rr
noncomputable def c20_rrrl : Code := cL c20_rrr
noncomputable def c20_rrrr : Code := cR c20_rrr
noncomputable def c21 : Code := Try.f21.body.getD .skip
theorem body21 : Try.f21.body = some c21 := rfl
theorem name21 : (Try.f21.name == "runtime.NumGoroutine") = false := by kernel_rfl
noncomputable def c21_l : Code := cL c21
noncomputable def c21_r : Code := cR c21
noncomputable def c21_rl : Code := cL c21_r
noncomputable def c21_rll : Code := cL c21_rl
noncomputable def c21_rlr : Code := cR c21_rl
noncomputable def c21_rlrt : Code := cT c21_rlr
noncomputable def c21_rlrtl : Code := cL c21_rlrt
noncomputable def c21_rlrtr : Code := cR c21_rlrt
noncomputable def c21_rlre : Code := cE c21_rlr
noncomputable def c21_rr : Code := cR c21_r
noncomputable def c21_rrl : Code := cL c21_rr
noncomputable def c21_rrr : Code := cR c21_rr
noncomputable def c21_rrrl : Code := cL c21_rrr
noncomputable def c21_rrrll : Code := cL c21_rrrl
noncomputable def c21_rrrlr : Code := cR c21_rrrl
noncomputable def c21_rrrlrb : Code := cB c21_rrrlr
noncomputable def c21_rrrlrbo : Code := cO c21_rrrlrb
noncomputable def c21_rrrlrbol : Code := cL c21_rrrlrbo
noncomputable def c21_rrrlrboll : Code := cL c21_rrrlrbol
noncomputable def c21_rrrlrbolr : Code := cR c21_rrrlrbol
noncomputable def c21_rrrlrbolrt : Code := cT c21_rrrlrbolr
noncomputable def c21_rrrlrbolre : Code := cE c21_rrrlrbolr
noncomputable def c21_rrrlrbor : Code := cR c21_rrrlrbo
noncomputable def c21_rrrlrborl : Code := cL c21_rrrlrbor
noncomputable def c21_rrrlrborlb : Code := cB c21_rrrlrborl
noncomputable def c21_rrrlrborr : Code := cR c21_rrrlrbor
noncomputable def c21_rrrr : Code := cR c21_rrr
noncomputable def c21_rrrrl : Code := cL c21_rrrr
noncomputable def c21_rrrrr : Code := cR c21_rrrr
noncomputable def c22 : Code := Try.f22.body.getD .skip
theorem body22 : Try.f22.body = some c22 := rfl
theorem name22 : (Try.f22.name == "runtime.NumGoroutine") = false := by kernel_rfl
noncomputable def c22_l : Code := cL c22
noncomputable def c22_r : Code := cR c22
noncomputable def c22_rl : Code := cL c22_r
noncomputable def c22_rr : Code := cR c22_r
noncomputable def c22_rrl : Code := cL c22_rr
noncomputable def c22_rrlb : Code := cB c22_rrl
noncomputable def c22_rrlbo : Code := cO c22_rrlb
noncomputable def c22_rrlbol : Code := cL c22_rrlbo
noncomputable def c22_rrlboll : Code := cL c22_rrlbol
theorem c22_rrlboll_gs : (cOps c22_rrlboll).toList.map (gres (cOps c22_rrlboll)) = [none, none, none, none, none, none, some (some 12, true), some (some 12, true), none] := by kernel_rfl
noncomputable def c22_rrlbolr : Code := cR c22_rrlbol
noncomputable def c22_rrlbolrt : Code := cT c22_rrlbolr
noncomputable def c22_rrlbolre : Code := cE c22_rrlbolr
noncomputable def c22_rrlbor : Code := cR c22_rrlbo
noncomputable def c22_rrlborb : Code := cB c22_rrlbor
noncomputable def c22_rrlborbl : Code := cL c22_rrlborb
noncomputable def c22_rrlborbr : Code := cR c22_rrlborb
noncomputable def c22_rrr : Code := cR c22_rr
noncomputable def c22_rrrl : Code := cL c22_rrr
noncomputable def c22_rrrr : Code := cR c22_rrr
noncomputable def c23 : Code := Try.f23.body.getD .skip
theorem body23 : Try.f23.body = some c23 := rfl
theorem name23 : (Try.f23.name == "runtime.NumGoroutine") = false := by kernel_rfl
noncomputable def c23_l : Code := cL c23
noncomputable def c23_r : Code := cR c23
noncomputable def c23_rl : Code := cL c23_r
theorem c23_rl_ok : drawOk X 23 (cOps c23_rl) = true := by kernel_rfl
noncomputable def c23_rr : Code := cR c23_r
theorem c23_rl_dr : drs X 23 (cOps c23_rl) = [([], false, false), ([], false, false), ([], false, false), ([], false, false), ([], false, false), ([], false, false), ([], false, false), ([], false, false), ([], false, false), ([], false, false), ([], false, false)] := by kernel_rfl
noncomputable def c24 : Code := Try.f24.body.getD .skip
theorem body24 : Try.f24.body = some c24 := rfl
theorem name24 : (Try.f24.name == "runtime.NumGoroutine") = false := by kernel_rfl
noncomputable def c24_l : Code := cL c24
noncomputable def c24_r : Code := cR c24
noncomputable def c24_rt : Code := cT c24_r
noncomputable def c24_re : Code := cE c24_r
noncomputable def c25 : Code := Try.f25.body.getD .skip
theorem body25 : Try.f25.body = some c25 := rfl
theorem name25 : (Try.f25.name == "runtime.NumGoroutine") = false := by kernel_rfl
noncomputable def c25_l : Code := cL c25
noncomputable def c25_r : Code := cR c25
noncomputable def c25_rl : Code := cL c25_r
noncomputable def c25_rr : Code := cR c25_r
noncomputable def c25_rrl : Code := cL c25_rr
noncomputable def c25_rrll : Code := cL c25_rrl
noncomputable def c25_rrlr : Code := cR c25_rrl
noncomputable def c25_rrlrb : Code := cB c25_rrlr
noncomputable def c25_rrlrbl : Code := cL c25_rrlrb
noncomputable def c25_rrlrbr : Code := cR c25_rrlrb
noncomputable def c25_rrlrbrt : Code := cT c25_rrlrbr
noncomputable def c25_rrlrbre : Code := cE c25_rrlrbr
noncomputable def c25_rrlrbrel : Code := cL c25_rrlrbre
noncomputable def c25_rrlrbrer : Code := cR c25_rrlrbre
noncomputable def c25_rrlrbrert : Code := cT c25_rrlrbrer
noncomputable def c25_rrlrbrertl : Code := cL c25_rrlrbrert
noncomputable def c25_rrlrbrertr : Code := cR c25_rrlrbrert
noncomputable def c25_rrlrbrertrl : Code := cL c25_rrlrbrertr
noncomputable def c25_rrlrbrertrr : Code := cR c25_rrlrbrertr
noncomputable def c25_rrlrbrertrrb : Code := cB c25_rrlrbrertrr
noncomputable def c25_rrlrbrertrrbo : Code := cO c25_rrlrbrertrrb
noncomputable def c25_rrlrbrertrrbol : Code := cL c25_rrlrbrertrrbo
noncomputable def c25_rrlrbrertrrboll : Code := cL c25_rrlrbrertrrbol
noncomputable def c25_rrlrbrertrrbolr : Code := cR c25_rrlrbrertrrbol
noncomputable def c25_rrlrbrertrrbolrt : Code := cT c25_rrlrbrertrrbolr
noncomputable def c25_rrlrbrertrrbolre : Code := cE c25_rrlrbrertrrbolr
noncomputable def c25_rrlrbrertrrbor : Code := cR c25_rrlrbrertrrbo
noncomputable def c25_rrlrbrertrrborl : Code := cL c25_rrlrbrertrrbor
noncomputable def c25_rrlrbrertrrborlb : Code := cB c25_rrlrbrertrrborl
theorem c25_rrlrbrertrrborlb_gs : (cOps c25_rrlrbrertrrborlb).toList.map (gres (cOps c25_rrlrbrertrrborlb)) = [none, none, none, none, none, none, none, none, some (some 38, true), some (some 38, true), some (some 38, true), some (some 38, true), some (some 38, true), none, none, none] := by kernel_rfl
noncomputable def c25_rrlrbrertrrborr : Code := cR c25_rrlrbrertrrbor
noncomputable def c25_rrlrbrere : Code := cE c25_rrlrbrer
noncomputable def c25_rrlrbrerel : Code := cL c25_rrlrbrere
noncomputable def c25_rrlrbrerer : Code := cR c25_rrlrbrere
noncomputable def c25_rrlrbrerert : Code := cT c25_rrlrbrerer
noncomputable def c25_rrlrbrerere : Code := cE c25_rrlrbrerer
noncomputable def c25_rrlrbrererel : Code := cL c25_rrlrbrerere
noncomputable def c25_rrlrbrererer : Code := cR c25_rrlrbrerere
noncomputable def c25_rrlrbrererert : Code := cT c25_rrlrbrererer
noncomputable def c25_rrlrbrererere : Code := cE c25_rrlrbrererer
noncomputable def c25_rrlrbrerererel : Code := cL c25_rrlrbrererere
noncomputable def c25_rrlrbrerererer : Code := cR c25_rrlrbrererere
noncomputable def c25_rrlrbrerererert : Code := cT c25_rrlrbrerererer
noncomputable def c25_rrlrbrerererertl : Code := cL c25_rrlrbrerererert
theorem c25_rrlrbrerererertl_ok : drawOk X 25 (cOps c25_rrlrbrerererertl) = true := by kernel_rfl
noncomputable def c25_rrlrbrerererertr : Code := cR c25_rrlrbrerererert
noncomputable def c25_rrlrbrerererere : Code := cE c25_rrlrbrerererer
noncomputable def c25_rrlrbrererererel : Code := cL c25_rrlrbrerererere
noncomputable def c25_rrlrbrererererer : Code := cR c25_rrlrbrerererere
noncomputable def c25_rrlrbrererererert : Code := cT c25_rrlrbrererererer
noncomputable def c25_rrlrbrererererertl : Code := cL c25_rrlrbrererererert
theorem c25_rrlrbrererererertl_ok : drawOk X 25 (cOps c25_rrlrbrererererertl) = true := by kernel_rfl
noncomputable def c25_rrlrbrererererertr : Code := cR c25_rrlrbrererererert
noncomputable def c25_rrlrbrererererere : Code := cE c25_rrlrbrererererer
noncomputable def c25_rrlrbrerererererel : Code := cL c25_rrlrbrererererere
noncomputable def c25_rrlrbrerererererer : Code := cR c25_rrlrbrererererere
noncomputable def c25_rrlrbrerererererert : Code := cT c25_rrlrbrerererererer
noncomputable def c25_rrlrbrerererererertl : Code := cL c25_rrlrbrerererererert
noncomputable def c25_rrlrbrerererererertr : Code := cR c25_rrlrbrerererererert
noncomputable def c25_rrlrbrerererererere : Code := cE c25_rrlrbrerererererer
noncomputable def c25_rrlrbrererererererel : Code := cL c25_rrlrbrerererererere
noncomputable def c25_rrlrbrererererererer : Code := cR c25_rrlrbrerererererere
noncomputable def c25_rrlrbrererererererert : Code := cT c25_rrlrbrererererererer
noncomputable def c25_rrlrbrererererererertl : Code := cL c25_rrlrbrererererererert
noncomputable def c25_rrlrbrererererererertr : Code := cR c25_rrlrbrererererererert
noncomputable def c25_rrlrbrererererererere : Code := cE c25_rrlrbrererererererer
noncomputable def c25_rrlrbrerererererererel : Code := cL c25_rrlrbrererererererere
noncomputable def c25_rrlrbrerererererererer : Code := cR c25_rrlrbrererererererere
noncomputable def c25_rrlrbrerererererererert : Code := cT c25_rrlrbrerererererererer
noncomputable def c25_rrlrbrerererererererertl : Code := cL c25_rrlrbrerererererererert
theorem c25_rrlrbrerererererererertl_ok : drawOk X 25 (cOps c25_rrlrbrerererererererertl) = true := by kernel_rfl
noncomputable def c25_rrlrbrerererererererertr : Code := cR c25_rrlrbrerererererererert
noncomputable def c25_rrlrbrerererererererere : Code := cE c25_rrlrbrerererererererer
noncomputable def c25_rrr : Code := cR c25_rr
noncomputable def c25_rrrl : Code := cL c25_rrr
noncomputable def c25_rrrr : Code := cR c25_rrr
theorem c25_rrlrbrerererertl_dr : drs X 25 (cOps c25_rrlrbrerererertl) = [([], false, false), ([], false, false), ([], false, false), ([], false, false), ([], false, false), ([], false, false), ([], false, false), ([], false, false), ([], false, false), ([], false, false), ([], false, false), ([], false, false), ([], false, false), ([], false, false)] := by kernel_rfl
theorem c25_rrlrbrererererertl_dr : drs X 25 (cOps c25_rrlrbrererererertl) = [([], false, false), ([], false, false), ([], false, false), ([], false, false), ([], false, false), ([], false, false), ([], false, false), ([], true, false), ([], true, false), ([], true, false), ([], true, false), ([], true, false), ([], true, false), ([], false, false), ([], false, false), ([], false, false)] := by kernel_rfl
theorem c25_rrlrbrerererererererertl_dr : drs X 25 (cOps c25_rrlrbrerererererererertl) = [([], false, false), ([], false, false), ([], false, false), ([], false, false), ([], false, false), ([], false, false), ([], false, false), ([], false, false), ([], false, false), ([], false, false), ([], false, false), ([], false, false), ([], false, false), ([], false, false)] := by kernel_rfl
noncomputable def c26 : Code := Try.f26.body.getD .skip
theorem body26 : Try.f26.body = some c26 := rfl
theorem name26 : (Try.f26.name == "runtime.NumGoroutine") = false := by kernel_rfl
noncomputable def c26_l : Code := cL c26
noncomputable def c26_r : Code := cR c26
noncomputable def c26_rl : Code := cL c26_r
noncomputable def c26_rll : Code := cL c26_rl
theorem c26_rll_ok : drawOk X 26 (cOps c26_rll) = true := by kernel_rfl
theorem c26_rll_gs : (cOps c26_rll).toList.map (gres (cOps c26_rll)) = [none, none, none, some (some 12, false), some (some 12, false), some (some 12, false), some (some 12, false), some (some 12, false), some (some 12, false), some (some 12, false), none, none, some (some 21, false), some (some 21, false), some (some 21, false), some (some 21, false), some (some 25, true), some (some 25, true), some (some 25, true), some (some 25, true), some (some 21, false), none] := by kernel_rfl
noncomputable def c26_rlr : Code := cR c26_rl
noncomputable def c26_rlrt : Code := cT c26_rlr
noncomputable def c26_rlrtl : Code := cL c26_rlrt
noncomputable def c26_rlrtr : Code := cR c26_rlrt
noncomputable def c26_rlre : Code := cE c26_rlr
noncomputable def c26_rr : Code := cR c26_r
noncomputable def c26_rrl : Code := cL c26_rr
noncomputable def c26_rrll : Code := cL c26_rrl
noncomputable def c26_rrlr : Code := cR c26_rrl
noncomputable def c26_rrlrt : Code := cT c26_rrlr
noncomputable def c26_rrlre : Code := cE c26_rrlr
noncomputable def c26_rrr : Code := cR c26_rr
noncomputable def c26_rrrl : Code := cL c26_rrr
noncomputable def c26_rrrll : Code := cL c26_rrrl
noncomputable def c26_rrrlr : Code := cR c26_rrrl
noncomputable def c26_rrrlrb : Code := cB c26_rrrlr
noncomputable def c26_rrrlrbo : Code := cO c26_rrrlrb
noncomputable def c26_rrrlrbol : Code := cL c26_rrrlrbo
noncomputable def c26_rrrlrbor : Code := cR c26_rrrlrbo
noncomputable def c26_rrrlrborl : Code := cL c26_rrrlrbor
noncomputable def c26_rrrlrborlt : Code := cT c26_rrrlrborl
noncomputable def c26_rrrlrborle : Code := cE c26_rrrlrborl
noncomputable def c26_rrrlrborr : Code := cR c26_rrrlrbor
noncomputable def c26_rrrlrborrl : Code := cL c26_rrrlrborr
noncomputable def c26_rrrlrborrlb : Code := cB c26_rrrlrborrl
noncomputable def c26_rrrlrborrlbl : Code := cL c26_rrrlrborrlb
noncomputable def c26_rrrlrborrlbr : Code := cR c26_rrrlrborrlb
noncomputable def c26_rrrlrborrlbrl : Code := cL c26_rrrlrborrlbr
noncomputable def c26_rrrlrborrlbrr : Code := cR c26_rrrlrborrlbr
noncomputable def c26_rrrlrborrlbrrl : Code := cL c26_rrrlrborrlbrr
noncomputable def c26_rrrlrborrlbrrr : Code := cR c26_rrrlrborrlbrr
noncomputable def c26_rrrlrborrlbrrrl : Code := cL c26_rrrlrborrlbrrr
theorem c26_rrrlrborrlbrrrl_gs : (cOps c26_rrrlrborrlbrrrl).toList.map (gres (cOps c26_rrrlrborrlbrrrl)) = [none, none, none, some (some 58, false), some (some 58, false), none] := by kernel_rfl
noncomputable def c26_rrrlrborrlbrrrr : Code := cR c26_rrrlrborrlbrrr
noncomputable def c26_rrrlrborrlbrrrrt : Code := cT c26_rrrlrborrlbrrrr
noncomputable def c26_rrrlrborrlbrrrrtl : Code := cL c26_rrrlrborrlbrrrrt
noncomputable def c26_rrrlrborrlbrrrrtr : Code := cR c26_rrrlrborrlbrrrrt
noncomputable def c26_rrrlrborrlbrrrre : Code := cE c26_rrrlrborrlbrrrr
noncomputable def c26_rrrlrborrr : Code := cR c26_rrrlrborr
noncomputable def c26_rrrr : Code := cR c26_rrr
noncomputable def c26_rrrrl : Code := cL c26_rrrr
noncomputable def c26_rrrrr : Code := cR c26_rrrr
theorem c26_rll_dr : drs X 26 (cOps c26_rll) = [([], false, false), ([], false, false), ([], false, false), ([], false, false), ([], false, false), ([], false, false), ([], true, false), ([], true, false), ([], true, false), ([], false, false), ([], false, false), ([], false, false), ([], false, false), ([], false, false), ([], false, false), ([], false, false), ([], false, false), ([], false, false), ([], false, false), ([], false, false), ([], false, false), ([], false, false)] := by kernel_rfl
noncomputable def c27 : Code := Try.f27.body.getD .skip
theorem body27 : Try.f27.body = some c27 := rfl
theorem name27 : (Try.f27.name == "runtime.NumGoroutine") = false := by kernel_rfl
noncomputable def c27_l : Code := cL c27
noncomputable def c27_r : Code := cR c27
noncomputable def c27_rl : Code := cL c27_r
noncomputable def c27_rll : Code := cL c27_rl
noncomputable def c27_rlr : Code := cR c27_rl
noncomputable def c27_rlrb : Code := cB c27_rlr
noncomputable def c27_rlrbl : Code := cL c27_rlrb
noncomputable def c27_rlrbr : Code := cR c27_rlrb
noncomputable def c27_rlrbrt : Code := cT c27_rlrbr
noncomputable def c27_rlrbrtl : Code := cL c27_rlrbrt
noncomputable def c27_rlrbrtr : Code := cR c27_rlrbrt
noncomputable def c27_rlrbre : Code := cE c27_rlrbr
noncomputable def c27_rlrbrel : Code := cL c27_rlrbre
noncomputable def c27_rlrbrer : Code := cR c27_rlrbre
noncomputable def c27_rlrbrert : Code := cT c27_rlrbrer
noncomputable def c27_rlrbrertl : Code := cL c27_rlrbrert
noncomputable def c27_rlrbrertr : Code := cR c27_rlrbrert
noncomputable def c27_rlrbrere : Code := cE c27_rlrbrer
noncomputable def c27_rr : Code := cR c27_r
noncomputable def c27_rrl : Code := cL c27_rr
noncomputable def c27_rrr : Code := cR c27_rr
noncomputable def c27_rrrl : Code := cL c27_rrr
noncomputable def c27_rrrll : Code := cL c27_rrrl
noncomputable def c27_rrrlr : Code := cR c27_rrrl
noncomputable def c27_rrrlrb : Code := cB c27_rrrlr
noncomputable def c27_rrrlrbo : Code := cO c27_rrrlrb
noncomputable def c27_rrrlrbol : Code := cL c27_rrrlrbo
noncomputable def c27_rrrlrboll : Code := cL c27_rrrlrbol
noncomputable def c27_rrrlrbolr : Code := cR c27_rrrlrbol
noncomputable def c27_rrrlrbolrt : Code := cT c27_rrrlrbolr
noncomputable def c27_rrrlrbolre : Code := cE c27_rrrlrbolr
noncomputable def c27_rrrlrbor : Code := cR c27_rrrlrbo
noncomputable def c27_rrrlrborl : Code := cL c27_rrrlrbor
noncomputable def c27_rrrlrborlb : Code := cB c27_rrrlrborl
noncomputable def c27_rrrlrborlbl : Code := cL c27_rrrlrborlb
noncomputable def c27_rrrlrborlbr : Code := cR c27_rrrlrborlb
noncomputable def c27_rrrlrborlbrt : Code := cT c27_rrrlrborlbr
noncomputable def c27_rrrlrborlbre : Code := cE c27_rrrlrborlbr
noncomputable def c27_rrrlrborr : Code := cR c27_rrrlrbor
noncomputable def c27_rrrr : Code := cR c27_rrr
noncomputable def c27_rrrrl : Code := cL c27_rrrr
noncomputable def c27_rrrrr : Code := cR c27_rrrr
noncomputable def c28 : Code := Try.f28.body.getD .skip
theorem body28 : Try.f28.body = some c28 := rfl
theorem name28 : (Try.f28.name == "runtime.NumGoroutine") = false := by kernel_rfl
noncomputable def c28_l : Code := cL c28
noncomputable def c28_r : Code := cR c28
noncomputable def c28_rl : Code := cL c28_r
noncomputable def c28_rll : Code := cL c28_rl
noncomputable def c28_rlr : Code := cR c28_rl
noncomputable def c28_rlrb : Code := cB c28_rlr
noncomputable def c28_rlrbl : Code := cL c28_rlrb
noncomputable def c28_rlrbll : Code := cL c28_rlrbl
noncomputable def c28_rlrblr : Code := cR c28_rlrbl
noncomputable def c28_rlrblrt : Code := cT c28_rlrblr
noncomputable def c28_rlrblre : Code := cE c28_rlrblr
noncomputable def c28_rlrblrel : Code := cL c28_rlrblre
noncomputable def c28_rlrblrer : Code := cR c28_rlrblre
noncomputable def c28_rlrblrert : Code := cT c28_rlrblrer
noncomputable def c28_rlrblrere : Code := cE c28_rlrblrer
noncomputable def c28_rlrblrerel : Code := cL c28_rlrblrere
noncomputable def c28_rlrblrerer : Code := cR c28_rlrblrere
noncomputable def c28_rlrblrerert : Code := cT c28_rlrblrerer
noncomputable def c28_rlrblrerere : Code := cE c28_rlrblrerer
noncomputable def c28_rlrbr : Code := cR c28_rlrb
noncomputable def c28_rlrbrt : Code := cT c28_rlrbr
noncomputable def c28_rlrbre : Code := cE c28_rlrbr
noncomputable def c28_rlrbrel : Code := cL c28_rlrbre
noncomputable def c28_rlrbrell : Code := cL c28_rlrbrel
noncomputable def c28_rlrbrelr : Code := cR c28_rlrbrel
noncomputable def c28_rlrbrelrt : Code := cT c28_rlrbrelr
noncomputable def c28_rlrbrelre : Code := cE c28_rlrbrelr
noncomputable def c28_rlrbrelrel : Code := cL c28_rlrbrelre
noncomputable def c28_rlrbrelrer : Code := cR c28_rlrbrelre
noncomputable def c28_rlrbrelrert : Code := cT c28_rlrbrelrer
noncomputable def c28_rlrbrelrere : Code := cE c28_rlrbrelrer
noncomputable def c28_rlrbrer : Code := cR c28_rlrbre
noncomputable def c28_rlrbrert : Code := cT c28_rlrbrer
noncomputable def c28_rlrbrere : Code := cE c28_rlrbrer
noncomputable def c28_rlrbrerel : Code := cL c28_rlrbrere
noncomputable def c28_rlrbrerell : Code := cL c28_rlrbrerel
noncomputable def c28_rlrbrerelr : Code := cR c28_rlrbrerel
noncomputable def c28_rlrbrerelrt : Code := cT c28_rlrbrerelr
noncomputable def c28_rlrbrerelre : Code := cE c28_rlrbrerelr
noncomputable def c28_rlrbrerer : Code := cR c28_rlrbrere
noncomputable def c28_rlrbrerert : Code := cT c28_rlrbrerer
noncomputable def c28_rlrbrerere : Code := cE c28_rlrbrerer
noncomputable def c28_rr : Code := cR c28_r
noncomputable def c28_rrl : Code := cL c28_rr
noncomputable def c28_rrr : Code := cR c28_rr
noncomputable def c29 : Code := Try.f29.body.getD .skip
theorem body29 : Try.f29.body = some c29 := rfl
theorem name29 : (Try.f29.name == "runtime.NumGoroutine") = false := by kernel_rfl
noncomputable def c29_l : Code := cL c29
noncomputable def c29_r : Code := cR c29
noncomputable def c29_rl : Code := cL c29_r
noncomputable def c29_rr : Code := cR c29_r
noncomputable def c29_rrl : Code := cL c29_rr
noncomputable def c29_rrlb : Code := cB c29_rrl
noncomputable def c29_rrlbo : Code := cO c29_rrlb
noncomputable def c29_rrlbol : Code := cL c29_rrlbo
noncomputable def c29_rrlboll : Code := cL c29_rrlbol
theorem c29_rrlboll_gs : (cOps c29_rrlboll).toList.map (gres (cOps c29_rrlboll)) = [none, none, none, none, none, none, some (some 12, true), some (some 12, true), none, none, some (some 16, true), some (some 16, true), some (some 16, true), none, none, some (some 21, true), some (some 21, true), some (some 21, true), none] := by kernel_rfl
noncomputable def c29_rrlbolr : Code := cR c29_rrlbol
noncomputable def c29_rrlbolrt : Code := cT c29_rrlbolr
noncomputable def c29_rrlbolre : Code := cE c29_rrlbolr
noncomputable def c29_rrlbor : Code := cR c29_rrlbo
noncomputable def c29_rrlborb : Code := cB c29_rrlbor
noncomputable def c29_rrr : Code := cR c29_rr
noncomputable def c29_rrrl : Code := cL c29_rrr
noncomputable def c29_rrrr : Code := cR c29_rrr
noncomputable def c30 : Code := Try.f30.body.getD .skip
theorem body30 : Try.f30.body = some c30 := rfl
theorem name30 : (Try.f30.name == "runtime.NumGoroutine") = false := by kernel_rfl
noncomputable def c30_l : Code := cL c30
noncomputable def c30_r : Code := cR c30
noncomputable def c30_rl : Code := cL c30_r
theorem c30_rl_ok : drawOk X 30 (cOps c30_rl) = true := by kernel_rfl
noncomputable def c30_rr : Code := cR c30_r
theorem c30_rl_dr : drs X 30 (cOps c30_rl) = [([], false, false), ([], false, false), ([], false, false), ([], false, false), ([], false, false), ([], false, false), ([], false, false), ([], false, false), ([], false, false), ([], false, false), ([], false, false), ([], false, false), ([], false, false), ([], false, false), ([], false, false), ([], false, false)] := by kernel_rfl
noncomputable def c31 : Code := Try.f31.body.getD .skip
theorem body31 : Try.f31.body = some c31 := rfl
theorem name31 : (Try.f31.name == "runtime.NumGoroutine") = false := by kernel_rfl
noncomputable def c31_l : Code := cL c31
noncomputable def c31_r : Code := cR c31
noncomputable def c31_rl : Code := cL c31_r
noncomputable def c31_rr : Code := cR c31_r
noncomputable def c31_rrl : Code := cL c31_rr
noncomputable def c31_rrll : Code := cL c31_rrl
noncomputable def c31_rrlr : Code := cR c31_rrl
noncomputable def c31_rrlrb : Code := cB c31_rrlr
noncomputable def c31_rrlrbo : Code := cO c31_rrlrb
noncomputable def c31_rrlrbol : Code := cL c31_rrlrbo
noncomputable def c31_rrlrboll : Code := cL c31_rrlrbol
noncomputable def c31_rrlrbolr : Code := cR c31_rrlrbol
noncomputable def c31_rrlrbolrt : Code := cT c31_rrlrbolr
noncomputable def c31_rrlrbolre : Code := cE c31_rrlrbolr
noncomputable def c31_rrlrbor : Code := cR c31_rrlrbo
noncomputable def c31_rrlrborl : Code := cL c31_rrlrbor
noncomputable def c31_rrlrborlb : Code := cB c31_rrlrborl
theorem c31_rrlrborlb_ok : drawOk X 31 (cOps c31_rrlrborlb) = true := by kernel_rfl
noncomputable def c31_rrlrborr : Code := cR c31_rrlrbor
noncomputable def c31_rrr : Code := cR c31_rr
noncomputable def c31_rrrl : Code := cL c31_rrr
noncomputable def c31_rrrr : Code := cR c31_rrr
theorem c31_rrlrborlb_dr : drs X 31 (cOps c31_rrlrborlb) = [([], false, false), ([], false, false), ([], false, false), ([], false, false), ([], false, false), ([], false, false), ([], false, false), ([], false, false)] := by kernel_rfl
noncomputable def c33 : Code := Try.f33.body.getD .skip
theorem body33 : Try.f33.body = some c33 := rfl
theorem name33 : (Try.f33.name == "runtime.NumGoroutine") = false := by kernel_rfl
noncomputable def c33_l : Code := cL c33
noncomputable def c33_r : Code := cR c33
noncomputable def c33_rl : Code := cL c33_r
noncomputable def c33_rr : Code := cR c33_r
noncomputable def c33_rrl : Code := cL c33_rr
noncomputable def c33_rrll : Code := cL c33_rrl
noncomputable def c33_rrlr : Code := cR c33_rrl
noncomputable def c33_rrlrb : Code := cB c33_rrlr
noncomputable def c33_rrlrbo : Code := cO c33_rrlrb
noncomputable def c33_rrlrbol : Code := cL c33_rrlrbo
noncomputable def c33_rrlrboll : Code := cL c33_rrlrbol
noncomputable def c33_rrlrbolr : Code := cR c33_rrlrbol
noncomputable def c33_rrlrbolrt : Code := cT c33_rrlrbolr
noncomputable def c33_rrlrbolre : Code := cE c33_rrlrbolr
noncomputable def c33_rrlrbor : Code := cR c33_rrlrbo
noncomputable def c33_rrlrborl : Code := cL c33_rrlrbor
noncomputable def c33_rrlrborlb : Code := cB c33_rrlrborl
theorem c33_rrlrborlb_gs : (cOps c33_rrlrborlb).toList.map (gres (cOps c33_rrlrborlb)) = [none, none, none, none, none, none, none, some (some 22, false), some (some 22, false), some (some 22, false), some (some 22, false), none, none, none] := by kernel_rfl
noncomputable def c33_rrlrborr : Code := cR c33_rrlrbor
noncomputable def c33_rrr : Code := cR c33_rr
noncomputable def c33_rrrl : Code := cL c33_rrr
noncomputable def c33_rrrr : Code := cR c33_rrr
noncomputable def c34 : Code := Try.f34.body.getD .skip
theorem body34 : Try.f34.body = some c34 := rfl
theorem name34 : (Try.f34.name == "runtime.NumGoroutine") = false := by kernel_rfl
noncomputable def c34_l : Code := cL c34
noncomputable def c34_r : Code := cR c34
noncomputable def c34_rl : Code := cL c34_r
noncomputable def c34_rlb : Code := cB c34_rl
noncomputable def c34_rlbo : Code := cO c34_rlb
noncomputable def c34_rlbol : Code := cL c34_rlbo
noncomputable def c34_rlboll : Code := cL c34_rlbol
theorem c34_rlboll_gs : (cOps c34_rlboll).toList.map (gres (cOps c34_rlboll)) = [none, none, none, none, some (some 14, false), some (some 14, false), some (some 14, false), none, none, some (some 19, false), some (some 19, false), some (some 19, false), none] := by kernel_rfl
noncomputable def c34_rlbolr : Code := cR c34_rlbol
noncomputable def c34_rlbolrt : Code := cT c34_rlbolr
noncomputable def c34_rlbolre : Code := cE c34_rlbolr
noncomputable def c34_rlbor : Code := cR c34_rlbo
noncomputable def c34_rlborb : Code := cB c34_rlbor
noncomputable def c34_rr : Code := cR c34_r
noncomputable def c34_rrl : Code := cL c34_rr
noncomputable def c34_rrr : Code := cR c34_rr
noncomputable def c34_rrrb : Code := cB c34_rrr
noncomputable def c34_rrrbo : Code := cO c34_rrrb
noncomputable def c34_rrrbob : Code := cB c34_rrrbo
noncomputable def c34_rrrbobl : Code := cL c34_rrrbob
noncomputable def c34_rrrbobr : Code := cR c34_rrrbob
noncomputable def c34_rrrbobrl : Code := cL c34_rrrbobr
noncomputable def c34_rrrbobrr : Code := cR c34_rrrbobr
noncomputable def c34_rrrbobrrl : Code := cL c34_rrrbobrr
noncomputable def c34_rrrbobrrll : Code := cL c34_rrrbobrrl
noncomputable def c34_rrrbobrrlr : Code := cR c34_rrrbobrrl
noncomputable def c34_rrrbobrrlrb : Code := cB c34_rrrbobrrlr
noncomputable def c34_rrrbobrrlrbo : Code := cO c34_rrrbobrrlrb
noncomputable def c34_rrrbobrrlrbol : Code := cL c34_rrrbobrrlrbo
noncomputable def c34_rrrbobrrlrboll : Code := cL c34_rrrbobrrlrbol
noncomputable def c34_rrrbobrrlrbolr : Code := cR c34_rrrbobrrlrbol
noncomputable def c34_rrrbobrrlrbolrt : Code := cT c34_rrrbobrrlrbolr
noncomputable def c34_rrrbobrrlrbolre : Code := cE c34_rrrbobrrlrbolr
noncomputable def c34_rrrbobrrlrbor : Code := cR c34_rrrbobrrlrbo
noncomputable def c34_rrrbobrrlrborl : Code := cL c34_rrrbobrrlrbor
noncomputable def c34_rrrbobrrlrborlb : Code := cB c34_rrrbobrrlrborl
theorem c34_rrrbobrrlrborlb_ok : drawOk X 34 (cOps c34_rrrbobrrlrborlb) = true := by kernel_rfl
theorem c34_rrrbobrrlrborlb_gs : (cOps c34_rrrbobrrlrborlb).toList.map (gres (cOps c34_rrrbobrrlrborlb)) = [none, none, some (some 44, true), some (some 44, true), some (some 44, true), some (some 44, true), some (some 44, true), some (some 44, true), some (some 44, true), some (some 44, true), some (some 44, true), none, none] := by kernel_rfl
noncomputable def c34_rrrbobrrlrborr : Code := cR c34_rrrbobrrlrbor
noncomputable def c34_rrrbobrrr : Code := cR c34_rrrbobrr
noncomputable def c34_rrrbobrrrl : Code := cL c34_rrrbobrrr
noncomputable def c34_rrrbobrrrll : Code := cL c34_rrrbobrrrl
noncomputable def c34_rrrbobrrrlr : Code := cR c34_rrrbobrrrl
noncomputable def c34_rrrbobrrrlrt : Code := cT c34_rrrbobrrrlr
noncomputable def c34_rrrbobrrrlrtl : Code := cL c34_rrrbobrrrlrt
noncomputable def c34_rrrbobrrrlrtr : Code := cR c34_rrrbobrrrlrt
noncomputable def c34_rrrbobrrrlre : Code := cE c34_rrrbobrrrlr
noncomputable def c34_rrrbobrrrr : Code := cR c34_rrrbobrrr
theorem c34_rrrbobrrlrborlb_dr : drs X 34 (cOps c34_rrrbobrrlrborlb) = [([], false, false), ([], false, false), ([], false, false), ([], false, false), ([], false, false), ([], false, false), ([], false, false), ([], false, false), ([], false, false), ([], false, false), ([], false, false), ([], false, false), ([], false, false)] := by kernel_rfl
noncomputable def c35 : Code := Try.f35.body.getD .skip
theorem body35 : Try.f35.body = some c35 := rfl
theorem name35 : (Try.f35.name == "runtime.NumGoroutine") = false := by kernel_rfl
noncomputable def c35_l : Code := cL c35
noncomputable def c35_r : Code := cR c35
noncomputable def c35_rl : Code := cL c35_r
noncomputable def c35_rll : Code := cL c35_rl
noncomputable def c35_rlr : Code := cR c35_rl
noncomputable def c35_rlrb : Code := cB c35_rlr
noncomputable def c35_rlrbl : Code := cL c35_rlrb
noncomputable def c35_rlrbll : Code := cL c35_rlrbl
noncomputable def c35_rlrblr : Code := cR c35_rlrbl
noncomputable def c35_rlrblrt : Code := cT c35_rlrblr
noncomputable def c35_rlrblre : Code := cE c35_rlrblr
noncomputable def c35_rlrblrel : Code := cL c35_rlrblre
noncomputable def c35_rlrblrer : Code := cR c35_rlrblre
noncomputable def c35_rlrblrert : Code := cT c35_rlrblrer
noncomputable def c35_rlrblrere : Code := cE c35_rlrblrer
noncomputable def c35_rlrblrerel : Code := cL c35_rlrblrere
noncomputable def c35_rlrblrerer : Code := cR c35_rlrblrere
noncomputable def c35_rlrblrerert : Code := cT c35_rlrblrerer
noncomputable def c35_rlrblrerere : Code := cE c35_rlrblrerer
noncomputable def c35_rlrbr : Code := cR c35_rlrb
noncomputable def c35_rlrbrt : Code := cT c35_rlrbr
noncomputable def c35_rlrbre : Code := cE c35_rlrbr
noncomputable def c35_rlrbrel : Code := cL c35_rlrbre
noncomputable def c35_rlrbrell : Code := cL c35_rlrbrel
noncomputable def c35_rlrbrelr : Code := cR c35_rlrbrel
noncomputable def c35_rlrbrelrt : Code := cT c35_rlrbrelr
noncomputable def c35_rlrbrelre : Code := cE c35_rlrbrelr
noncomputable def c35_rlrbrer : Code := cR c35_rlrbre
noncomputable def c35_rlrbrert : Code := cT c35_rlrbrer
noncomputable def c35_rlrbrere : Code := cE c35_rlrbrer
noncomputable def c35_rlrbrerel : Code := cL c35_rlrbrere
noncomputable def c35_rlrbrerell : Code := cL c35_rlrbrerel
noncomputable def c35_rlrbrerelr : Code := cR c35_rlrbrerel
noncomputable def c35_rlrbrerelrt : Code := cT c35_rlrbrerelr
noncomputable def c35_rlrbrerelre : Code := cE c35_rlrbrerelr
noncomputable def c35_rlrbrerelrel : Code := cL c35_rlrbrerelre
noncomputable def c35_rlrbrerelrer : Code := cR c35_rlrbrerelre
noncomputable def c35_rlrbrerelrert : Code := cT c35_rlrbrerelrer
noncomputable def c35_rlrbrerelrere : Code := cE c35_rlrbrerelrer
noncomputable def c35_rlrbrerer : Code := cR c35_rlrbrere
noncomputable def c35_rlrbrerert : Code := cT c35_rlrbrerer
noncomputable def c35_rlrbrerere : Code := cE c35_rlrbrerer
noncomputable def c35_rr : Code := cR c35_r
noncomputable def c35_rrl : Code := cL c35_rr
noncomputable def c35_rrr : Code := cR c35_rr
noncomputable def c37 : Code := Try.f37.body.getD .skip
theorem body37 : Try.f37.body = some c37 := rfl
theorem name37 : (Try.f37.name == "runtime.NumGoroutine") = false := by kernel_rfl
noncomputable def c37_l : Code := cL c37
noncomputable def c37_r : Code := cR c37
noncomputable def c37_rl : Code := cL c37_r
noncomputable def c37_rr : Code := cR c37_r
noncomputable def c38 : Code := Try.f38.body.getD .skip
theorem body38 : Try.f38.body = some c38 := rfl
theorem name38 : (Try.f38.name == "runtime.NumGoroutine") = false := by kernel_rfl
noncomputable def c38_l : Code := cL c38
noncomputable def c38_r : Code := cR c38
noncomputable def c38_rl : Code := cL c38_r
noncomputable def c38_rr : Code := cR c38_r
noncomputable def c39 : Code := Try.f39.body.getD .skip
theorem body39 : Try.f39.body = some c39 := rfl
theorem name39 : (Try.f39.name == "runtime.NumGoroutine") = false := by kernel_rfl
noncomputable def c39_l : Code := cL c39
noncomputable def c39_r : Code := cR c39
noncomputable def c39_rl : Code := cL c39_r
noncomputable def c39_rr : Code := cR c39_r
noncomputable def c39_rrl : Code := cL c39_rr
noncomputable def c39_rrlb : Code := cB c39_rrl
noncomputable def c39_rrlbo : Code := cO c39_rrlb
noncomputable def c39_rrlbol : Code := cL c39_rrlbo
noncomputable def c39_rrlboll : Code := cL c39_rrlbol
theorem c39_rrlboll_gs : (cOps c39_rrlboll).toList.map (gres (cOps c39_rrlboll)) = [none, none, none, none, none, none, some (some 11, true), some (some 11, true), none] := by kernel_rfl
noncomputable def c39_rrlbolr : Code := cR c39_rrlbol
noncomputable def c39_rrlbolrt : Code := cT c39_rrlbolr
noncomputable def c39_rrlbolre : Code := cE c39_rrlbolr
noncomputable def c39_rrlbor : Code := cR c39_rrlbo
noncomputable def c39_rrlborb : Code := cB c39_rrlbor
noncomputable def c39_rrlborbl : Code := cL c39_rrlborb
theorem c39_rrlborbl_ok : drawOk X 39 (cOps c39_rrlborbl) = true := by kernel_rfl
noncomputable def c39_rrlborbr : Code := cR c39_rrlborb
noncomputable def c39_rrlborbrb : Code := cB c39_rrlborbr
noncomputable def c39_rrlborbrbl : Code := cL c39_rrlborbrb
noncomputable def c39_rrlborbrbr : Code := cR c39_rrlborbrb
noncomputable def c39_rrlborbrbrt : Code := cT c39_rrlborbrbr
noncomputable def c39_rrlborbrbrtl : Code := cL c39_rrlborbrbrt
noncomputable def c39_rrlborbrbrtr : Code := cR c39_rrlborbrbrt
noncomputable def c39_rrlborbrbre : Code := cE c39_rrlborbrbr
noncomputable def c39_rrlborbrbrel : Code := cL c39_rrlborbrbre
noncomputable def c39_rrlborbrbrer : Code := cR c39_rrlborbrbre
noncomputable def c39_rrlborbrbrert : Code := cT c39_rrlborbrbrer
noncomputable def c39_rrlborbrbrertl : Code := cL c39_rrlborbrbrert
noncomputable def c39_rrlborbrbrertr : Code := cR c39_rrlborbrbrert
noncomputable def c39_rrlborbrbrere : Code := cE c39_rrlborbrbrer
noncomputable def c39_rrlborbrbrerel : Code := cL c39_rrlborbrbrere
noncomputable def c39_rrlborbrbrerer : Code := cR c39_rrlborbrbrere
noncomputable def c39_rrlborbrbrerert : Code := cT c39_rrlborbrbrerer
noncomputable def c39_rrlborbrbrerertl : Code := cL c39_rrlborbrbrerert
noncomputable def c39_rrlborbrbrerertr : Code := cR c39_rrlborbrbrerert
noncomputable def c39_rrlborbrbrerere : Code := cE c39_rrlborbrbrerer
noncomputable def c39_rrlborbrbrererel : Code := cL c39_rrlborbrbrerere
noncomputable def c39_rrlborbrbrererer : Code := cR c39_rrlborbrbrerere
noncomputable def c39_rrlborbrbrererert : Code := cT c39_rrlborbrbrererer
noncomputable def c39_rrlborbrbrererere : Code := cE c39_rrlborbrbrererer
noncomputable def c39_rrlborbrbrerererel : Code := cL c39_rrlborbrbrererere
noncomputable def c39_rrlborbrbrerererer : Code := cR c39_rrlborbrbrererere
noncomputable def c39_rrr : Code := cR c39_rr
noncomputable def c39_rrrl : Code := cL c39_rrr
noncomputable def c39_rrrr : Code := cR c39_rrr
theorem c39_rrlborbl_dr : drs X 39 (cOps c39_rrlborbl) = [([], false, false), ([], false, false), ([], false, false), ([], false, false), ([], false, false), ([], false, false), ([], false, false), ([], false, false), ([], false, false)] := by kernel_rfl
noncomputable def c40 : Code := Try.f40.body.getD .skip
theorem body40 : Try.f40.body = some c40 := rfl
theorem name40 : (Try.f40.name == "runtime.NumGoroutine") = false := by kernel_rfl
noncomputable def c40_l : Code := cL c40
noncomputable def c40_r : Code := cR c40
noncomputable def c40_rl : Code := cL c40_r
noncomputable def c40_rr : Code := cR c40_r
noncomputable def c42 : Code := Try.f42.body.getD .skip
theorem body42 : Try.f42.body = some c42 := rfl
theorem name42 : (Try.f42.name == "runtime.NumGoroutine") = false := by kernel_rfl
noncomputable def c42_l : Code := cL c42
noncomputable def c42_r : Code := cR c42
noncomputable def c42_rl : Code := cL c42_r
noncomputable def c42_rll : Code := cL c42_rl
noncomputable def c42_rlr : Code := cR c42_rl
noncomputable def c42_rlrt : Code := cT c42_rlr
noncomputable def c42_rlre : Code := cE c42_rlr
noncomputable def c42_rr : Code := cR c42_r
noncomputable def c42_rrl : Code := cL c42_rr
noncomputable def c42_rrr : Code := cR c42_rr
noncomputable def c42_rrrl : Code := cL c42_rrr
noncomputable def c42_rrrr : Code := cR c42_rrr
noncomputable def c42_rrrrl : Code := cL c42_rrrr
noncomputable def c42_rrrrr : Code := cR c42_rrrr
noncomputable def c42_rrrrrl : Code := cL c42_rrrrr
noncomputable def c42_rrrrrll : Code := cL c42_rrrrrl
noncomputable def c42_rrrrrlr : Code := cR c42_rrrrrl
noncomputable def c42_rrrrrlrb : Code := cB c42_rrrrrlr
noncomputable def c42_rrrrrlrbl : Code := cL c42_rrrrrlrb
noncomputable def c42_rrrrrlrbr : Code := cR c42_rrrrrlrb
noncomputable def c42_rrrrrlrbrt : Code := cT c42_rrrrrlrbr
noncomputable def c42_rrrrrlrbrtl : Code := cL c42_rrrrrlrbrt
noncomputable def c42_rrrrrlrbrtr : Code := cR c42_rrrrrlrbrt
noncomputable def c42_rrrrrlrbre : Code := cE c42_rrrrrlrbr
noncomputable def c42_rrrrrlrbrel : Code := cL c42_rrrrrlrbre
noncomputable def c42_rrrrrlrbrer : Code := cR c42_rrrrrlrbre
noncomputable def c42_rrrrrlrbrert : Code := cT c42_rrrrrlrbrer
noncomputable def c42_rrrrrlrbrertl : Code := cL c42_rrrrrlrbrert
noncomputable def c42_rrrrrlrbrertr : Code := cR c42_rrrrrlrbrert
noncomputable def c42_rrrrrlrbrere : Code := cE c42_rrrrrlrbrer
noncomputable def c42_rrrrrlrbrerel : Code := cL c42_rrrrrlrbrere
noncomputable def c42_rrrrrlrbrerer : Code := cR c42_rrrrrlrbrere
noncomputable def c42_rrrrrlrbrerert : Code := cT c42_rrrrrlrbrerer
noncomputable def c42_rrrrrlrbrerertl : Code := cL c42_rrrrrlrbrerert
theorem c42_rrrrrlrbrerertl_ok : drawOk X 42 (cOps c42_rrrrrlrbrerertl) = true := by kernel_rfl
noncomputable def c42_rrrrrlrbrerertr : Code := cR c42_rrrrrlrbrerert
noncomputable def c42_rrrrrlrbrerertrl : Code := cL c42_rrrrrlrbrerertr
noncomputable def c42_rrrrrlrbrerertrll : Code := cL c42_rrrrrlrbrerertrl
noncomputable def c42_rrrrrlrbrerertrlr : Code := cR c42_rrrrrlrbrerertrl
noncomputable def c42_rrrrrlrbrerertrlrt : Code := cT c42_rrrrrlrbrerertrlr
noncomputable def c42_rrrrrlrbrerertrlre : Code := cE c42_rrrrrlrbrerertrlr
noncomputable def c42_rrrrrlrbrerertrr : Code := cR c42_rrrrrlrbrerertr
noncomputable def c42_rrrrrlrbrerertrrl : Code := cL c42_rrrrrlrbrerertrr
noncomputable def c42_rrrrrlrbrerertrrr : Code := cR c42_rrrrrlrbrerertrr
noncomputable def c42_rrrrrlrbrerertrrrl : Code := cL c42_rrrrrlrbrerertrrr
noncomputable def c42_rrrrrlrbrerertrrrr : Code := cR c42_rrrrrlrbrerertrrr
noncomputable def c42_rrrrrlrbrerere : Code := cE c42_rrrrrlrbrerer
noncomputable def c42_rrrrrlrbrererel : Code := cL c42_rrrrrlrbrerere
noncomputable def c42_rrrrrlrbrererer : Code := cR c42_rrrrrlrbrerere
noncomputable def c42_rrrrrlrbrererert : Code := cT c42_rrrrrlrbrererer
noncomputable def c42_rrrrrlrbrererertl : Code := cL c42_rrrrrlrbrererert
noncomputable def c42_rrrrrlrbrererertr : Code := cR c42_rrrrrlrbrererert
noncomputable def c42_rrrrrlrbrererere : Code := cE c42_rrrrrlrbrererer
noncomputable def c42_rrrrrlrbrerererel : Code := cL c42_rrrrrlrbrererere
noncomputable def c42_rrrrrlrbrerererer : Code := cR c42_rrrrrlrbrererere
noncomputable def c42_rrrrrlrbrerererert : Code := cT c42_rrrrrlrbrerererer
noncomputable def c42_rrrrrlrbrerererertl : Code := cL c42_rrrrrlrbrerererert
noncomputable def c42_rrrrrlrbrerererertr : Code := cR c42_rrrrrlrbrerererert
noncomputable def c42_rrrrrlrbrerererere : Code := cE c42_rrrrrlrbrerererer
noncomputable def c42_rrrrrlrbrererererel : Code := cL c42_rrrrrlrbrerererere
noncomputable def c42_rrrrrlrbrererererer : Code := cR c42_rrrrrlrbrerererere
noncomputable def c42_rrrrrlrbrererererert : Code := cT c42_rrrrrlrbrererererer
noncomputable def c42_rrrrrlrbrererererere : Code := cE c42_rrrrrlrbrererererer
noncomputable def c42_rrrrrlrbrerererererel : Code := cL c42_rrrrrlrbrererererere
noncomputable def c42_rrrrrlrbrerererererell : Code := cL c42_rrrrrlrbrerererererel
noncomputable def c42_rrrrrlrbrerererererelr : Code := cR c42_rrrrrlrbrerererererel
noncomputable def c42_rrrrrlrbrerererererelrt : Code := cT c42_rrrrrlrbrerererererelr
noncomputable def c42_rrrrrlrbrerererererelre : Code := cE c42_rrrrrlrbrerererererelr
noncomputable def c42_rrrrrlrbrerererererelrel : Code := cL c42_rrrrrlrbrerererererelre
noncomputable def c42_rrrrrlrbrerererererelrer : Code := cR c42_rrrrrlrbrerererererelre
noncomputable def c42_rrrrrlrbrerererererelrert : Code := cT c42_rrrrrlrbrerererererelrer
noncomputable def c42_rrrrrlrbrerererererelrere : Code := cE c42_rrrrrlrbrerererererelrer
noncomputable def c42_rrrrrlrbrerererererelrerel : Code := cL c42_rrrrrlrbrerererererelrere
noncomputable def c42_rrrrrlrbrerererererelrerer : Code := cR c42_rrrrrlrbrerererererelrere
noncomputable def c42_rrrrrlrbrerererererelrerert : Code := cT c42_rrrrrlrbrerererererelrerer
noncomputable def c42_rrrrrlrbrerererererelrerere : Code := cE c42_rrrrrlrbrerererererelrerer
noncomputable def c42_rrrrrlrbrerererererelrererel : Code := cL c42_rrrrrlrbrerererererelrerere
noncomputable def c42_rrrrrlrbrerererererelrererer : Code := cR c42_rrrrrlrbrerererererelrerere
noncomputable def c42_rrrrrlrbrerererererelrererert : Code := cT c42_rrrrrlrbrerererererelrererer
noncomputable def c42_rrrrrlrbrerererererelrererere : Code := cE c42_rrrrrlrbrerererererelrererer
noncomputable def c42_rrrrrlrbrerererererelrerererel : Code := cL c42_rrrrrlrbrerererererelrererere
noncomputable def c42_rrrrrlrbrerererererelrerererer : Code := cR c42_rrrrrlrbrerererererelrererere
noncomputable def c42_rrrrrlrbrerererererelrerererert : Code := cT c42_rrrrrlrbrerererererelrerererer
noncomputable def c42_rrrrrlrbrerererererelrerererere : Code := cE c42_rrrrrlrbrerererererelrerererer
noncomputable def c42_rrrrrlrbrerererererer : Code := cR c42_rrrrrlrbrererererere
noncomputable def c42_rrrrrlrbrerererererert : Code := cT c42_rrrrrlrbrerererererer
noncomputable def c42_rrrrrlrbrerererererere : Code := cE c42_rrrrrlrbrerererererer
noncomputable def c42_rrrrrr : Code := cR c42_rrrrr
noncomputable def c42_rrrrrrl : Code := cL c42_rrrrrr
noncomputable def c42_rrrrrrr : Code := cR c42_rrrrrr
theorem c42_rrrrrlrbrerertl_dr : drs X 42 (cOps c42_rrrrrlrbrerertl) = [([5], false, false), ([5], false, false), ([5], false, false), ([5], false, false), ([5], false, false), ([5], false, false), ([5], false, false), ([5], false, false), ([5], false, false), ([5], false, false), ([5], false, false), ([5], false, true), ([5], false, true), ([], true, false), ([], false, false), ([], false, false), ([], false, false)] := by kernel_rfl
noncomputable def c43 : Code := Try.f43.body.getD .skip
theorem body43 : Try.f43.body = some c43 := rfl
theorem name43 : (Try.f43.name == "runtime.NumGoroutine") = false := by kernel_rfl
noncomputable def c43_l : Code := cL c43
noncomputable def c43_r : Code := cR c43
noncomputable def c43_rl : Code := cL c43_r
noncomputable def c43_rr : Code := cR c43_r
noncomputable def c44 : Code := Try.f44.body.getD .skip
theorem body44 : Try.f44.body = some c44 := rfl
theorem name44 : (Try.f44.name == "runtime.NumGoroutine") = false := by kernel_rfl
noncomputable def c44_l : Code := cL c44
noncomputable def c44_r : Code := cR c44
noncomputable def c44_rl : Code := cL c44_r
noncomputable def c44_rr : Code := cR c44_r
noncomputable def c44_rrl : Code := cL c44_rr
noncomputable def c44_rrr : Code := cR c44_rr
noncomputable def c44_rrrl : Code := cL c44_rrr
noncomputable def c44_rrrr : Code := cR c44_rrr
noncomputable def c44_rrrrl : Code := cL c44_rrrr
noncomputable def c44_rrrrr : Code := cR c44_rrrr
noncomputable def c44_rrrrrl : Code := cL c44_rrrrr
noncomputable def c44_rrrrrll : Code := cL c44_rrrrrl
noncomputable def c44_rrrrrlr : Code := cR c44_rrrrrl
noncomputable def c44_rrrrrlrt : Code := cT c44_rrrrrlr
noncomputable def c44_rrrrrlre : Code := cE c44_rrrrrlr
noncomputable def c44_rrrrrr : Code := cR c44_rrrrr
noncomputable def c44_rrrrrrl : Code := cL c44_rrrrrr
theorem c44_rrrrrrl_gs : (cOps c44_rrrrrrl).toList.map (gres (cOps c44_rrrrrrl)) = [none, none, none, some (some 43, true), some (some 43, true), none, none, some (some 47, true), some (some 47, true), some (some 49, false), some (some 49, false), some (some 49, false), some (some 49, false), some (some 53, true), some (some 53, true), some (some 49, false), some (some 47, true), none, none, some (some 59, true), some (some 59, true), none, none] := by kernel_rfl
noncomputable def c44_rrrrrrr : Code := cR c44_rrrrrr
noncomputable def c44_rrrrrrrl : Code := cL c44_rrrrrrr
noncomputable def c44_rrrrrrrll : Code := cL c44_rrrrrrrl
noncomputable def c44_rrrrrrrlr : Code := cR c44_rrrrrrrl
noncomputable def c44_rrrrrrrlrt : Code := cT c44_rrrrrrrlr
noncomputable def c44_rrrrrrrlre : Code := cE c44_rrrrrrrlr
noncomputable def c44_rrrrrrrr : Code := cR c44_rrrrrrr
noncomputable def c44_rrrrrrrrl : Code := cL c44_rrrrrrrr
noncomputable def c44_rrrrrrrrr : Code := cR c44_rrrrrrrr
noncomputable def c44_rrrrrrrrrl : Code := cL c44_rrrrrrrrr
noncomputable def c44_rrrrrrrrrr : Code := cR c44_rrrrrrrrr
noncomputable def c44_rrrrrrrrrrl : Code := cL c44_rrrrrrrrrr
noncomputable def c44_rrrrrrrrrrll : Code := cL c44_rrrrrrrrrrl
noncomputable def c44_rrrrrrrrrrlr : Code := cR c44_rrrrrrrrrrl
noncomputable def c44_rrrrrrrrrrlrt : Code := cT c44_rrrrrrrrrrlr
noncomputable def c44_rrrrrrrrrrlre : Code := cE c44_rrrrrrrrrrlr
noncomputable def c44_rrrrrrrrrrr : Code := cR c44_rrrrrrrrrr
noncomputable def c44_rrrrrrrrrrrl : Code := cL c44_rrrrrrrrrrr
noncomputable def c44_rrrrrrrrrrrll : Code := cL c44_rrrrrrrrrrrl
noncomputable def c44_rrrrrrrrrrrlr : Code := cR c44_rrrrrrrrrrrl
noncomputable def c44_rrrrrrrrrrrlrt : Code := cT c44_rrrrrrrrrrrlr
noncomputable def c44_rrrrrrrrrrrlrtl : Code := cL c44_rrrrrrrrrrrlrt
noncomputable def c44_rrrrrrrrrrrlrtr : Code := cR c44_rrrrrrrrrrrlrt
noncomputable def c44_rrrrrrrrrrrlre : Code := cE c44_rrrrrrrrrrrlr
noncomputable def c44_rrrrrrrrrrrr : Code := cR c44_rrrrrrrrrrr
noncomputable def c45 : Code := Try.f45.body.getD .skip
theorem body45 : Try.f45.body = some c45 := rfl
theorem name45 : (Try.f45.name == "runtime.NumGoroutine") = false := by kernel_rfl
noncomputable def c45_l : Code := cL c45
noncomputable def c45_r : Code := cR c45
noncomputable def c45_rl : Code := cL c45_r
noncomputable def c45_rll : Code := cL c45_rl
noncomputable def c45_rlr : Code := cR c45_rl
noncomputable def c45_rlrt : Code := cT c45_rlr
noncomputable def c45_rlre : Code := cE c45_rlr
noncomputable def c45_rr : Code := cR c45_r
noncomputable def c45_rrl : Code := cL c45_rr
noncomputable def c45_rrr : Code := cR c45_rr
noncomputable def c47 : Code := Try.f47.body.getD .skip
theorem body47 : Try.f47.body = some c47 := rfl
theorem name47 : (Try.f47.name == "runtime.NumGoroutine") = false := by kernel_rfl
noncomputable def c47_l : Code := cL c47
noncomputable def c47_r : Code := cR c47
noncomputable def c47_rl : Code := cL c47_r
noncomputable def c47_rr : Code := cR c47_r
noncomputable def c47_rrl : Code := cL c47_rr
noncomputable def c47_rrll : Code := cL c47_rrl
noncomputable def c47_rrlr : Code := cR c47_rrl
noncomputable def c47_rrlrt : Code := cT c47_rrlr
noncomputable def c47_rrlre : Code := cE c47_rrlr
noncomputable def c47_rrr : Code := cR c47_rr
noncomputable def c47_rrrl : Code := cL c47_rrr
noncomputable def c47_rrrr : Code := cR c47_rrr
noncomputable def c47_rrrrl : Code := cL c47_rrrr
noncomputable def c47_rrrrr : Code := cR c47_rrrr
noncomputable def c47_rrrrrl : Code := cL c47_rrrrr
noncomputable def c47_rrrrrll : Code := cL c47_rrrrrl
theorem c47_rrrrrll_gs : (cOps c47_rrrrrll).toList.map (gres (cOps c47_rrrrrll)) = [none, none, none, none, none, none, some (some 37, true), some (some 37, true), some (some 37, true), none] := by kernel_rfl
noncomputable def c47_rrrrrlr : Code := cR c47_rrrrrl
noncomputable def c47_rrrrrlrt : Code := cT c47_rrrrrlr
noncomputable def c47_rrrrrlre : Code := cE c47_rrrrrlr
noncomputable def c47_rrrrrr : Code := cR c47_rrrrr
noncomputable def c47_rrrrrrl : Code := cL c47_rrrrrr
noncomputable def c47_rrrrrrr : Code := cR c47_rrrrrr
noncomputable def c47_rrrrrrrl : Code := cL c47_rrrrrrr
noncomputable def c47_rrrrrrrr : Code := cR c47_rrrrrrr
noncomputable def c49 : Code := Try.f49.body.getD .skip
theorem body49 : Try.f49.body = some c49 := rfl
theorem name49 : (Try.f49.name == "runtime.NumGoroutine") = false := by kernel_rfl
noncomputable def c49_l : Code := cL c49
noncomputable def c49_r : Code := cR c49
noncomputable def c49_rl : Code := cL c49_r
noncomputable def c49_rll : Code := cL c49_rl
theorem c49_rll_gs : (cOps c49_rll).toList.map (gres (cOps c49_rll)) = [none, none, none, some (some 14, false), some (some 14, false), some (some 14, false), some (some 14, false), none] := by kernel_rfl
noncomputable def c49_rlr : Code := cR c49_rl
noncomputable def c49_rlrt : Code := cT c49_rlr
noncomputable def c49_rlre : Code := cE c49_rlr
noncomputable def c49_rr : Code := cR c49_r
noncomputable def c49_rrl : Code := cL c49_rr
noncomputable def c49_rrr : Code := cR c49_rr
noncomputable def c49_rrrl : Code := cL c49_rrr
noncomputable def c49_rrrr : Code := cR c49_rrr
noncomputable def c49_rrrrl : Code := cL c49_rrrr
noncomputable def c49_rrrrll : Code := cL c49_rrrrl
noncomputable def c49_rrrrlr : Code := cR c49_rrrrl
noncomputable def c49_rrrrlrt : Code := cT c49_rrrrlr
noncomputable def c49_rrrrlre : Code := cE c49_rrrrlr
noncomputable def c49_rrrrr : Code := cR c49_rrrr
noncomputable def c49_rrrrrl : Code := cL c49_rrrrr
noncomputable def c49_rrrrrll : Code := cL c49_rrrrrl
noncomputable def c49_rrrrrlr : Code := cR c49_rrrrrl
noncomputable def c49_rrrrrlrb : Code := cB c49_rrrrrlr
noncomputable def c49_rrrrrlrbo : Code := cO c49_rrrrrlrb
noncomputable def c49_rrrrrlrbol : Code := cL c49_rrrrrlrbo
noncomputable def c49_rrrrrlrboll : Code := cL c49_rrrrrlrbol
theorem c49_rrrrrlrboll_gs : (cOps c49_rrrrrlrboll).toList.map (gres (cOps c49_rrrrrlrboll)) = [none, none, some (some 36, false), some (some 36, false), some (some 36, false), none] := by kernel_rfl
noncomputable def c49_rrrrrlrbolr : Code := cR c49_rrrrrlrbol
noncomputable def c49_rrrrrlrbolrt : Code := cT c49_rrrrrlrbolr
noncomputable def c49_rrrrrlrbolre : Code := cE c49_rrrrrlrbolr
noncomputable def c49_rrrrrlrbor : Code := cR c49_rrrrrlrbo
noncomputable def c49_rrrrrlrborl : Code := cL c49_rrrrrlrbor
noncomputable def c49_rrrrrlrborlb : Code := cB c49_rrrrrlrborl
noncomputable def c49_rrrrrlrborlbl : Code := cL c49_rrrrrlrborlb
noncomputable def c49_rrrrrlrborlbr : Code := cR c49_rrrrrlrborlb
noncomputable def c49_rrrrrlrborlbrl : Code := cL c49_rrrrrlrborlbr
noncomputable def c49_rrrrrlrborlbrll : Code := cL c49_rrrrrlrborlbrl
noncomputable def c49_rrrrrlrborlbrlr : Code := cR c49_rrrrrlrborlbrl
noncomputable def c49_rrrrrlrborlbrlrt : Code := cT c49_rrrrrlrborlbrlr
noncomputable def c49_rrrrrlrborlbrlre : Code := cE c49_rrrrrlrborlbrlr
noncomputable def c49_rrrrrlrborlbrr : Code := cR c49_rrrrrlrborlbr
noncomputable def c49_rrrrrlrborr : Code := cR c49_rrrrrlrbor
noncomputable def c49_rrrrrr : Code := cR c49_rrrrr
noncomputable def c49_rrrrrrl : Code := cL c49_rrrrrr
noncomputable def c49_rrrrrrll : Code := cL c49_rrrrrrl
noncomputable def c49_rrrrrrlr : Code := cR c49_rrrrrrl
noncomputable def c49_rrrrrrlrt : Code := cT c49_rrrrrrlr
noncomputable def c49_rrrrrrlre : Code := cE c49_rrrrrrlr
noncomputable def c49_rrrrrrr : Code := cR c49_rrrrrr
noncomputable def c49_rrrrrrrl : Code := cL c49_rrrrrrr
theorem c49_rrrrrrrl_ok : drawOk X 49 (cOps c49_rrrrrrrl) = true := by kernel_rfl
noncomputable def c49_rrrrrrrr : Code := cR c49_rrrrrrr
theorem c49_rrrrrrrl_dr : drs X 49 (cOps c49_rrrrrrrl) = [([], false, false), ([], false, true), ([], false, true), ([], false, true), ([], false, true), ([], false, true), ([], false, false), ([], false, false), ([], false, false)] := by kernel_rfl
noncomputable def c50 : Code := Try.f50.body.getD .skip
theorem body50 : Try.f50.body = some c50 := rfl
theorem name50 : (Try.f50.name == "runtime.NumGoroutine") = false := by kernel_rfl
noncomputable def c50_l : Code := cL c50
noncomputable def c50_r : Code := cR c50
noncomputable def c50_rl : Code := cL c50_r
noncomputable def c50_rr : Code := cR c50_r
noncomputable def c50_rrl : Code := cL c50_rr
noncomputable def c50_rrll : Code := cL c50_rrl
noncomputable def c50_rrlr : Code := cR c50_rrl
noncomputable def c50_rrlrb : Code := cB c50_rrlr
noncomputable def c50_rrlrbo : Code := cO c50_rrlrb
noncomputable def c50_rrlrbol : Code := cL c50_rrlrbo
noncomputable def c50_rrlrbor : Code := cR c50_rrlrbo
noncomputable def c50_rrlrborl : Code := cL c50_rrlrbor
noncomputable def c50_rrlrborlt : Code := cT c50_rrlrborl
noncomputable def c50_rrlrborle : Code := cE c50_rrlrborl
noncomputable def c50_rrlrborr : Code := cR c50_rrlrbor
noncomputable def c50_rrlrborrl : Code := cL c50_rrlrborr
noncomputable def c50_rrlrborrlb : Code := cB c50_rrlrborrl
noncomputable def c50_rrlrborrlbl : Code := cL c50_rrlrborrlb
noncomputable def c50_rrlrborrlbr : Code := cR c50_rrlrborrlb
noncomputable def c50_rrlrborrr : Code := cR c50_rrlrborr
noncomputable def c50_rrr : Code := cR c50_rr
noncomputable def c50_rrrl : Code := cL c50_rrr
noncomputable def c50_rrrr : Code := cR c50_rrr
noncomputable def c52 : Code := Try.f52.body.getD .skip
theorem body52 : Try.f52.body = some c52 := rfl
theorem name52 : (Try.f52.name == "runtime.NumGoroutine") = false := by kernel_rfl
noncomputable def c52_l : Code := cL c52
noncomputable def c52_r : Code := cR c52
noncomputable def c52_rl : Code := cL c52_r
theorem c52_rl_ok : drawOk X 52 (cOps c52_rl) = true := by kernel_rfl
noncomputable def c52_rr : Code := cR c52_r
noncomputable def c52_rrl : Code := cL c52_rr
noncomputable def c52_rrlb : Code := cB c52_rrl
noncomputable def c52_rrlbo : Code := cO c52_rrlb
noncomputable def c52_rrlbol : Code := cL c52_rrlbo
noncomputable def c52_rrlboll : Code := cL c52_rrlbol
theorem c52_rrlboll_ok : drawOk X 52 (cOps c52_rrlboll) = true := by kernel_rfl
theorem c52_rrlboll_gs : (cOps c52_rrlboll).toList.map (gres (cOps c52_rrlboll)) = [none, none, none, some (some 11, true), some (some 11, true), some (some 11, true), some (some 11, true), some (some 11, true), some (some 11, true), some (some 11, true), some (some 11, true), some (some 11, true), some (some 11, true), none, none, some (some 23, true), some (some 23, true), some (some 23, true), some (some 23, true), some (some 23, true), some (some 23, true), some (some 23, true), some (some 23, true), some (some 23, true), some (some 23, true), none, none, some (some 35, true), some (some 35, true), some (some 35, true), some (some 35, true), some (some 35, true), some (some 35, true), some (some 35, true), none] := by kernel_rfl
noncomputable def c52_rrlbolr : Code := cR c52_rrlbol
noncomputable def c52_rrlbolrt : Code := cT c52_rrlbolr
noncomputable def c52_rrlbolre : Code := cE c52_rrlbolr
noncomputable def c52_rrlbor : Code := cR c52_rrlbo
noncomputable def c52_rrlborb : Code := cB c52_rrlbor
noncomputable def c52_rrlborbl : Code := cL c52_rrlborb
theorem c52_rrlborbl_ok : drawOk X 52 (cOps c52_rrlborbl) = true := by kernel_rfl
noncomputable def c52_rrlborbr : Code := cR c52_rrlborb
noncomputable def c52_rrr : Code := cR c52_rr
noncomputable def c52_rrrl : Code := cL c52_rrr
noncomputable def c52_rrrll : Code := cL c52_rrrl
noncomputable def c52_rrrlr : Code := cR c52_rrrl
noncomputable def c52_rrrlrt : Code := cT c52_rrrlr
noncomputable def c52_rrrlre : Code := cE c52_rrrlr
noncomputable def c52_rrrr : Code := cR c52_rrr
noncomputable def c52_rrrrl : Code := cL c52_rrrr
noncomputable def c52_rrrrr : Code := cR c52_rrrr
theorem c52_rl_dr : drs X 52 (cOps c52_rl) = [([], false, false), ([], false, false), ([], false, false), ([], false, false), ([], false, false), ([], false, false)] := by kernel_rfl
theorem c52_rrlboll_dr : drs X 52 (cOps c52_rrlboll) = [([], false, false), ([], false, false), ([], false, false), ([], false, false), ([], false, false), ([], false, false), ([], false, false), ([], false, false), ([], false, false), ([], false, false), ([], false, false), ([], false, false), ([], false, false), ([], false, false), ([], false, false), ([], false, false), ([], false, false), ([], false, false), ([], false, false), ([], false, false), ([], false, false), ([], false, false), ([], false, false), ([], false, false), ([], false, false), ([], false, false), ([], false, false), ([], false, false), ([], false, false), ([], false, false), ([], false, false), ([], false, false), ([], false, false), ([], false, false), ([], false, false)] := by kernel_rfl
theorem c52_rrlborbl_dr : drs X 52 (cOps c52_rrlborbl) = [([], false, false), ([], false, false), ([], false, false), ([], false, false), ([], false, false), ([], false, false), ([], false, false), ([], false, false), ([], false, false), ([], false, false), ([], false, false), ([], false, false), ([], false, false), ([], false, false), ([], false, false)] := by kernel_rfl
noncomputable def c54 : Code := Try.f54.body.getD .skip
theorem body54 : Try.f54.body = some c54 := rfl
theorem name54 : (Try.f54.name == "runtime.NumGoroutine") = false := by kernel_rfl
noncomputable def c54_l : Code := cL c54
noncomputable def c54_r : Code := cR c54
noncomputable def c54_rl : Code := cL c54_r
noncomputable def c54_rr : Code := cR c54_r
noncomputable def c54_rrl : Code := cL c54_rr
theorem c54_rrl_gs : (cOps c54_rrl).toList.map (gres (cOps c54_rrl)) = [none, none, some (some 16, true), some (some 16, true), some (some 16, true), none, none] := by kernel_rfl
noncomputable def c54_rrr : Code := cR c54_rr
noncomputable def c55 : Code := Try.f55.body.getD .skip
theorem body55 : Try.f55.body = some c55 := rfl
theorem name55 : (Try.f55.name == "runtime.NumGoroutine") = false := by kernel_rfl
noncomputable def c55_l : Code := cL c55
noncomputable def c55_r : Code := cR c55
noncomputable def c55_rl : Code := cL c55_r
noncomputable def c55_rll : Code := cL c55_rl
theorem c55_rll_gs : (cOps c55_rll).toList.map (gres (cOps c55_rll)) = [none, none, none, some (some 11, true), some (some 11, true), none] := by kernel_rfl
noncomputable def c55_rlr : Code := cR c55_rl
noncomputable def c55_rlrt : Code := cT c55_rlr
noncomputable def c55_rlre : Code := cE c55_rlr
noncomputable def c55_rr : Code := cR c55_r
noncomputable def c55_rrl : Code := cL c55_rr
noncomputable def c55_rrr : Code := cR c55_rr
noncomputable def c55_rrrl : Code := cL c55_rrr
noncomputable def c55_rrrll : Code := cL c55_rrrl
noncomputable def c55_rrrlr : Code := cR c55_rrrl
noncomputable def c55_rrrlrt : Code := cT c55_rrrlr
noncomputable def c55_rrrlre : Code := cE c55_rrrlr
noncomputable def c55_rrrr : Code := cR c55_rrr
noncomputable def c55_rrrrl : Code := cL c55_rrrr
noncomputable def c55_rrrrll : Code := cL c55_rrrrl
noncomputable def c55_rrrrlr : Code := cR c55_rrrrl
noncomputable def c55_rrrrlrl : Code := cL c55_rrrrlr
theorem c55_rrrrlrl_gs : (cOps c55_rrrrlrl).toList.map (gres (cOps c55_rrrrlrl)) = [none, none, none, none, some (some 35, false), some (some 35, false), none, none, some (some 39, false), some (some 39, false), none] := by kernel_rfl
noncomputable def c55_rrrrlrr : Code := cR c55_rrrrlr
noncomputable def c55_rrrrlrrt : Code := cT c55_rrrrlrr
noncomputable def c55_rrrrlrrtl : Code := cL c55_rrrrlrrt
noncomputable def c55_rrrrlrrtr : Code := cR c55_rrrrlrrt
noncomputable def c55_rrrrlrre : Code := cE c55_rrrrlrr
noncomputable def c55_rrrrr : Code := cR c55_rrrr
noncomputable def c55_rrrrrl : Code := cL c55_rrrrr
noncomputable def c55_rrrrrr : Code := cR c55_rrrrr
noncomputable def c55_rrrrrrl : Code := cL c55_rrrrrr
noncomputable def c55_rrrrrrll : Code := cL c55_rrrrrrl
theorem c55_rrrrrrll_gs : (cOps c55_rrrrrrll).toList.map (gres (cOps c55_rrrrrrll)) = [none, none, none, some (some 55, true), some (some 55, true), none] := by kernel_rfl
noncomputable def c55_rrrrrrlr : Code := cR c55_rrrrrrl
noncomputable def c55_rrrrrrlrt : Code := cT c55_rrrrrrlr
noncomputable def c55_rrrrrrlre : Code := cE c55_rrrrrrlr
noncomputable def c55_rrrrrrr : Code := cR c55_rrrrrr
noncomputable def c55_rrrrrrrl : Code := cL c55_rrrrrrr
noncomputable def c55_rrrrrrrr : Code := cR c55_rrrrrrr
noncomputable def c55_rrrrrrrrl : Code := cL c55_rrrrrrrr
theorem c55_rrrrrrrrl_gs : (cOps c55_rrrrrrrrl).toList.map (gres (cOps c55_rrrrrrrrl)) = [none, none, none, none, none, some (some 69, true), some (some 69, true), some (some 69, true), none, none, none] := by kernel_rfl
noncomputable def c55_rrrrrrrrr : Code := cR c55_rrrrrrrr
noncomputable def c57 : Code := Try.f57.body.getD .skip
theorem body57 : Try.f57.body = some c57 := rfl
theorem name57 : (Try.f57.name == "runtime.NumGoroutine") = false := by kernel_rfl
noncomputable def c57_l : Code := cL c57
noncomputable def c57_r : Code := cR c57
noncomputable def c57_rl : Code := cL c57_r
noncomputable def c57_rr : Code := cR c57_r
noncomputable def c57_rrl : Code := cL c57_rr
noncomputable def c57_rrr : Code := cR c57_rr
noncomputable def c58 : Code := Try.f58.body.getD .skip
theorem body58 : Try.f58.body = some c58 := rfl
theorem name58 : (Try.f58.name == "runtime.NumGoroutine") = false := by kernel_rfl
noncomputable def c58_l : Code := cL c58
noncomputable def c58_r : Code := cR c58
noncomputable def c58_rl : Code := cL c58_r
noncomputable def c58_rll : Code := cL c58_rl
theorem c58_rll_ok : drawOk X 58 (cOps c58_rll) = true := by kernel_rfl
noncomputable def c58_rlr : Code := cR c58_rl
noncomputable def c58_rlrt : Code := cT c58_rlr
noncomputable def c58_rlrtl : Code := cL c58_rlrt
noncomputable def c58_rlrtr : Code := cR c58_rlrt
noncomputable def c58_rlre : Code := cE c58_rlr
noncomputable def c58_rr : Code := cR c58_r
noncomputable def c58_rrl : Code := cL c58_rr
theorem c58_rrl_ok : drawOk X 58 (cOps c58_rrl) = true := by kernel_rfl
noncomputable def c58_rrr : Code := cR c58_rr
theorem c58_rll_dr : drs X 58 (cOps c58_rll) = [([], false, false), ([], false, false), ([], false, false), ([], false, false), ([], false, false), ([], false, false), ([], false, false), ([], false, false), ([], false, false), ([], false, false), ([], false, false), ([], false, false)] := by kernel_rfl
theorem c58_rrl_dr : drs X 58 (cOps c58_rrl) = [([], false, false), ([], false, false), ([], false, false), ([], false, false), ([], false, false), ([], false, false), ([], false, false), ([], false, false), ([], false, false), ([], false, false), ([], false, false), ([], false, false), ([], false, false)] := by kernel_rfl
noncomputable def c60 : Code := Try.f60.body.getD .skip
theorem body60 : Try.f60.body = some c60 := rfl
theorem name60 : (Try.f60.name == "runtime.NumGoroutine") = false := by kernel_rfl
noncomputable def c60_l : Code := cL c60
noncomputable def c60_r : Code := cR c60
noncomputable def c60_rl : Code := cL c60_r
noncomputable def c60_rr : Code := cR c60_r
noncomputable def c60_rrl : Code := cL c60_rr
noncomputable def c60_rrr : Code := cR c60_rr
noncomputable def c60_rrrl : Code := cL c60_rrr
noncomputable def c60_rrrll : Code := cL c60_rrrl
theorem c60_rrrll_gs : (cOps c60_rrrll).toList.map (gres (cOps c60_rrrll)) = [none, none, none, some (some 24, false), some (some 24, false), none] := by kernel_rfl
noncomputable def c60_rrrlr : Code := cR c60_rrrl
noncomputable def c60_rrrlrt : Code := cT c60_rrrlr
noncomputable def c60_rrrlre : Code := cE c60_rrrlr
noncomputable def c60_rrrr : Code := cR c60_rrr
noncomputable def c60_rrrrl : Code := cL c60_rrrr
noncomputable def c60_rrrrr : Code := cR c60_rrrr
noncomputable def c60_rrrrrl : Code := cL c60_rrrrr
noncomputable def c60_rrrrrr : Code := cR c60_rrrrr
noncomputable def c60_rrrrrrl : Code := cL c60_rrrrrr
noncomputable def c60_rrrrrrlb : Code := cB c60_rrrrrrl
noncomputable def c60_rrrrrrlbl : Code := cL c60_rrrrrrlb
noncomputable def c60_rrrrrrlbr : Code := cR c60_rrrrrrlb
noncomputable def c60_rrrrrrlbrt : Code := cT c60_rrrrrrlbr
noncomputable def c60_rrrrrrlbre : Code := cE c60_rrrrrrlbr
noncomputable def c60_rrrrrrlbrel : Code := cL c60_rrrrrrlbre
noncomputable def c60_rrrrrrlbrer : Code := cR c60_rrrrrrlbre
noncomputable def c60_rrrrrrlbrert : Code := cT c60_rrrrrrlbrer
noncomputable def c60_rrrrrrlbrere : Code := cE c60_rrrrrrlbrer
noncomputable def c60_rrrrrrlbrerel : Code := cL c60_rrrrrrlbrere
noncomputable def c60_rrrrrrlbrerer : Code := cR c60_rrrrrrlbrere
noncomputable def c60_rrrrrrlbrerert : Code := cT c60_rrrrrrlbrerer
noncomputable def c60_rrrrrrlbrerere : Code := cE c60_rrrrrrlbrerer
noncomputable def c60_rrrrrrlbrererel : Code := cL c60_rrrrrrlbrerere
theorem c60_rrrrrrlbrererel_gs : (cOps c60_rrrrrrlbrererel).toList.map (gres (cOps c60_rrrrrrlbrererel)) = [none, none, none, some (some 54, false), some (some 54, false), none, none] := by kernel_rfl
noncomputable def c60_rrrrrrlbrererer : Code := cR c60_rrrrrrlbrerere
noncomputable def c60_rrrrrrlbrererert : Code := cT c60_rrrrrrlbrererer
noncomputable def c60_rrrrrrlbrererere : Code := cE c60_rrrrrrlbrererer
noncomputable def c60_rrrrrrr : Code := cR c60_rrrrrr
noncomputable def c60_rrrrrrrl : Code := cL c60_rrrrrrr
noncomputable def c60_rrrrrrrr : Code := cR c60_rrrrrrr
noncomputable def c60_rrrrrrrrl : Code := cL c60_rrrrrrrr
noncomputable def c60_rrrrrrrrll : Code := cL c60_rrrrrrrrl
noncomputable def c60_rrrrrrrrlr : Code := cR c60_rrrrrrrrl
noncomputable def c60_rrrrrrrrlrb : Code := cB c60_rrrrrrrrlr
noncomputable def c60_rrrrrrrrlrbo : Code := cO c60_rrrrrrrrlrb
noncomputable def c60_rrrrrrrrlrbol : Code := cL c60_rrrrrrrrlrbo
noncomputable def c60_rrrrrrrrlrboll : Code := cL c60_rrrrrrrrlrbol
noncomputable def c60_rrrrrrrrlrbolr : Code := cR c60_rrrrrrrrlrbol
noncomputable def c60_rrrrrrrrlrbolrt : Code := cT c60_rrrrrrrrlrbolr
noncomputable def c60_rrrrrrrrlrbolre : Code := cE c60_rrrrrrrrlrbolr
noncomputable def c60_rrrrrrrrlrbor : Code := cR c60_rrrrrrrrlrbo
noncomputable def c60_rrrrrrrrlrborl : Code := cL c60_rrrrrrrrlrbor
noncomputable def c60_rrrrrrrrlrborlb : Code := cB c60_rrrrrrrrlrborl
noncomputable def c60_rrrrrrrrlrborlbl : Code := cL c60_rrrrrrrrlrborlb
noncomputable def c60_rrrrrrrrlrborlbr : Code := cR c60_rrrrrrrrlrborlb
noncomputable def c60_rrrrrrrrlrborlbrl : Code := cL c60_rrrrrrrrlrborlbr
noncomputable def c60_rrrrrrrrlrborlbrll : Code := cL c60_rrrrrrrrlrborlbrl
theorem c60_rrrrrrrrlrborlbrll_gs : (cOps c60_rrrrrrrrlrborlbrll).toList.map (gres (cOps c60_rrrrrrrrlrborlbrll)) = [none, none, none, some (some 73, false), some (some 73, false), none, none, some (some 77, false), some (some 77, false), none] := by kernel_rfl
noncomputable def c60_rrrrrrrrlrborlbrlr : Code := cR c60_rrrrrrrrlrborlbrl
noncomputable def c60_rrrrrrrrlrborlbrlrt : Code := cT c60_rrrrrrrrlrborlbrlr
noncomputable def c60_rrrrrrrrlrborlbrlre : Code := cE c60_rrrrrrrrlrborlbrlr
noncomputable def c60_rrrrrrrrlrborlbrr : Code := cR c60_rrrrrrrrlrborlbr
noncomputable def c60_rrrrrrrrlrborlbrrl : Code := cL c60_rrrrrrrrlrborlbrr
noncomputable def c60_rrrrrrrrlrborlbrrr : Code := cR c60_rrrrrrrrlrborlbrr
noncomputable def c60_rrrrrrrrlrborr : Code := cR c60_rrrrrrrrlrbor
noncomputable def c60_rrrrrrrrr : Code := cR c60_rrrrrrrr
noncomputable def c60_rrrrrrrrrl : Code := cL c60_rrrrrrrrr
noncomputable def c60_rrrrrrrrrr : Code := cR c60_rrrrrrrrr
end Go.Proofs.Ytmgofjgfmcmceaa
end
