/- Functions of the program, and what they come to. -/
import Derived.Test.YtgmadfpnljibhaaGreatBlocksBentF28
namespace Go.Tf
noncomputable section
open Go.Proofs
set_option synthInstance.maxHeartbeats 400000
set_option synthInstance.maxSize 10000
set_option linter.unusedVariables false
set_option linter.unusedSimpArgs false
set_option maxRecDepth 100000
section
def yNh:Code:=(Tryz.f114.body).getD .skip
def yND:Env:=zj3 TT [(113,yHu),(124,ybC),(125,yJp),(141,ydT),(150,yz),(211,yJo),(212,yzz),(213,ysx)] [(61952,(.pr .fz .fz))]
theorem yXW:FrOk Tryz.prog ⟨yND,92,fun _=>none⟩ yNh:=zj7 yb yc ⟨y2e,yey,y4b,yhC,yO,y4a,yL2,yBF,trivial⟩
def yZ7:Nat→Option Seg:=fun _=>none
abbrev yrh:List Par:= [.pt tU .fz,.rd tI]
abbrev yxh:List OT:= [⟨false,tA,(.pr .fz (.pr (.pr .fz .fz) (.pr (.ow (.pr (.ow .fz) (.pr (.ow (.pr .fz .fz)) (.pr .fz (.ow .fz))))) (.pr .fz (.pr .fz (.pr .fz (.pr .fz (.pr .fz (.pr (.ow (.pr .fz .fz)) (.pr .fz (.pr .fz .fz)))))))))))⟩]
def ybH (a0:dU) (a1:Int):Option (ResD yxh×MutD yrh) :=
 bnd (yd2 a0 a1) fun r1 =>
 bnd (yd r1.2.1 (r1.1.1.2.2.1.length:Int)) fun r2 =>
 bnd (yd r2.2.1 20) fun r3 =>
 bif (r3.1.1==0) then
 bnd (yhE r3.2.1) fun r4 =>
 bif (inb r2.1.1 r1.1.1.2.2.1.length) then
 some (((r1.1.1.1,r1.1.1.2.1,(r1.1.1.2.2.1.set (r2.1.1).toNat r4.1.1),r1.1.1.2.2.2),()),(r4.2.1,()))
 else none
 else
 bif (r3.1.1==1) then
 bnd (yr r3.2.1 ([(-2),(-1),0,5]:List Int)) fun r5 =>
 some (((r1.1.1.1,r1.1.1.2.1,r1.1.1.2.2.1,r5.1.1,r1.1.1.2.2.2.2),()),(r5.2.1,()))
 else
 bif (r3.1.1==2) then
 bnd (yr r3.2.1 ([(-1),1,9]:List Int)) fun r6 =>
 some (((r1.1.1.1,r1.1.1.2.1,r1.1.1.2.2.1,r1.1.1.2.2.2.1,r6.1.1,r1.1.1.2.2.2.2.2),()),(r6.2.1,()))
 else
 bif (r3.1.1==3) then
 bnd (yr r3.2.1 ([(-1),0,9,60000]:List Int)) fun r7 =>
 some (((r1.1.1.1,r1.1.1.2.1,r1.1.1.2.2.1,r1.1.1.2.2.2.1,r1.1.1.2.2.2.2.1,r7.1.1,r1.1.1.2.2.2.2.2.2),()),(r7.2.1,()))
 else
 bif (r3.1.1==4) then
 bnd (yr r3.2.1 ([(-1),60000,59990,60001]:List Int)) fun r8 =>
 some (((r1.1.1.1,r1.1.1.2.1,r1.1.1.2.2.1,r1.1.1.2.2.2.1,r1.1.1.2.2.2.2.1,r1.1.1.2.2.2.2.2.1,r1.1.1.2.2.2.2.2.2.1,r8.1.1,r1.1.1.2.2.2.2.2.2.2.2),()),(r8.2.1,()))
 else
 bif (r3.1.1==5) then
 bnd (yd r3.2.1 5) fun r9 =>
 bnd (ydf r9.2.1) fun r10 =>
 bif (zjR r1.1.1.2.2.2.2.2.2.2.2.1.length ([((IntKind.i64.wrap (r9.1.1 - 1)),r10.1.1)]:List dW).length 32) then
 some (((r1.1.1.1,r1.1.1.2.1,r1.1.1.2.2.1,r1.1.1.2.2.2.1,r1.1.1.2.2.2.2.1,r1.1.1.2.2.2.2.2.1,r1.1.1.2.2.2.2.2.2.1,r1.1.1.2.2.2.2.2.2.2.1,(r1.1.1.2.2.2.2.2.2.2.2.1++([((IntKind.i64.wrap (r9.1.1 - 1)),r10.1.1)]:List dW)),r1.1.1.2.2.2.2.2.2.2.2.2),()),(r10.2.1,()))
 else none
 else
 bif (r3.1.1==6) then
 some (((r1.1.1.1,r1.1.1.2.1,r1.1.1.2.2.1,r1.1.1.2.2.2.1,r1.1.1.2.2.2.2.1,r1.1.1.2.2.2.2.2.1,r1.1.1.2.2.2.2.2.2.1,r1.1.1.2.2.2.2.2.2.2.1,r1.1.1.2.2.2.2.2.2.2.2.1,r1.1.1.2.2.2.2.2.2.2.2.2.1,r1.1.1.2.2.2.2.2.2.2.2.2.2.1,true),()),(r3.2.1,()))
 else
 bif (r3.1.1==7) then
 bnd (yr r3.2.1 ([(-2),0,1,2,5,1001]:List Int)) fun r11 =>
 some (((r1.1.1.1,r1.1.1.2.1,r1.1.1.2.2.1,r1.1.1.2.2.2.1,r1.1.1.2.2.2.2.1,r1.1.1.2.2.2.2.2.1,r1.1.1.2.2.2.2.2.2.1,r1.1.1.2.2.2.2.2.2.2.1,r1.1.1.2.2.2.2.2.2.2.2.1,r11.1.1,r1.1.1.2.2.2.2.2.2.2.2.2.2),()),(r11.2.1,()))
 else
 bif (r3.1.1==8) then
 some (((r1.1.1.1,r1.1.1.2.1,r1.1.1.2.2.1,r1.1.1.2.2.2.1,r1.1.1.2.2.2.2.1,r1.1.1.2.2.2.2.2.1,r1.1.1.2.2.2.2.2.2.1,r1.1.1.2.2.2.2.2.2.2.1,r1.1.1.2.2.2.2.2.2.2.2.1,r1.1.1.2.2.2.2.2.2.2.2.2.1,true,r1.1.1.2.2.2.2.2.2.2.2.2.2.2),()),(r3.2.1,()))
 else
 bif (r3.1.1==9) then
 bif (inb r2.1.1 r1.1.1.2.2.1.length) then
 let r12:=yaG 0
 bnd (ydg r3.2.1) fun r13 =>
 bif (inb r12 ((nth r1.1.1.2.2.1 r2.1.1 ([],[],false,[])).1).length) then
 let r14:=(r1.1.1.2.2.1.set (r2.1.1).toNat ((((nth r1.1.1.2.2.1 r2.1.1 ([],[],false,[])).1).set (r12).toNat r13.1.1),((nth r1.1.1.2.2.1 r2.1.1 ([],[],false,[])).2).1,(((nth r1.1.1.2.2.1 r2.1.1 ([],[],false,[])).2).2).1,(((nth r1.1.1.2.2.1 r2.1.1 ([],[],false,[])).2).2).2))
 some (((r1.1.1.1,r1.1.1.2.1,r14,r1.1.1.2.2.2),()),(r13.2.1,()))
 else none
 else none
 else
 bif (r3.1.1==10) then
 bnd (yhF r3.2.1) fun r15 =>
 some (((r1.1.1.1,r15.1.1,r1.1.1.2.2),()),(r15.2.1,()))
 else
 some ((r1.1.1,()),(r3.2.1,()))
theorem y4N (x:InD yrh):zjx ⟨yND,92,yZ7⟩ Tryz.f114.results.toList yNh yrh yxh x=ybH x.1 x.2.1:=by kernel_rfl
theorem y1N:ConOk Tryz.prog 114 ⟨yrh,yxh,fun x=>ybH x.1 x.2.1⟩:=zj2 (yXW) Tryz.func114 (by kernel_rfl) (by kernel_rfl) Tryz.ntmps114.symm (by decide) (fun x r h=>(y4N x).trans h)
def ymq:Con:=⟨yrh,yxh,fun x=>ybH x.1 x.2.1⟩
theorem yuZ:ConOk Tryz.prog 114 ymq:=y1N
theorem yKf (u:dU) (most:Int) (h:yG u) (h0:0≤most) (h1:most≤1000): ∃ (a:dA) (u':dU),ybH u most=some ((a,()),(u',()))∧yff a∧yG u':=by
 unfold ybH
 obtain ⟨a,u1,e1,q1,d1⟩:=y6q u most h h0 h1
 have hg:=yk.1 q1.1.1
 have hl:=q1.2.1.1.2
 have hd:=yb6 q1.1.2.2.1 q1.1.1
 have hA:yff a:=y41 (y63 (y6K q1)) (by omega)
 have hL: ∀ b:dA,b.2.2.1=a.2.2.1→b.2.2.2.2.2.2.2.2.1=a.2.2.2.2.2.2.2.2.1→yff b:=fun b e1 e2=>by unfold yff; rw [e1,e2]; exact hA
 have hS: ∀ (m:dM) (k:Nat),m.1.length≤1000000000→m.2.1.length≤1000000000→yff (a.1,a.2.1,a.2.2.1.set k m,a.2.2.2):=fun m k g1 g2=>⟨by show (a.2.2.1.set k m).length≤_; rw [List.length_set]; exact hA.1,fun x hx=>by
  rcases List.mem_or_eq_of_mem_set hx with h1 | rfl
  ·exact hA.2.1 x h1
  ·exact ⟨g1,g2⟩,hA.2.2⟩
 obtain ⟨m,u2,e2,q2,d2⟩:=yA u1 (a.2.2.1.length:Int) d1
 obtain ⟨r,u3,e3,_,d3⟩:=yA u2 20 d2
 have hm:inb m a.2.2.1.length=true:=zjD.2 ⟨q2.1,q2.2.1 (by omega)⟩
 simp only [e1,e2,e3,zkd,hm]
 cases (r==0)
 ·cases (r==1)
  ·cases (r==2)
   ·cases (r==3)
    ·cases (r==4)
     ·cases (r==5)
      ·cases (r==6)
       ·cases (r==7)
        ·cases (r==8)
         ·cases (r==9)
          ·cases (r==10)
           ·exact ⟨_,_,rfl,hL _ rfl rfl,d3⟩
           ·obtain ⟨g,u4,e4,d4⟩:=y6W u3 d3
            simp only [cond_true,cond_false,e4,zkd]
            exact ⟨_,_,rfl,hL _ rfl rfl,d4⟩
          ·obtain ⟨l,u4,e4,_,d4⟩:=yST u3 d3
           have hmi:=zjD.1 hm
           have hs:=(q1.2.1.1.1 m.toNat (by omega)).2.1
           rw [Int.toNat_of_nonneg hmi.1]at hs
           simp only [cond_true,cond_false,e4,zkd,ye9]
           rw [show dataAt 0=6 from rfl,zjD.2 (show (0:Int)≤6∧(6:Int) < ((nth a.2.2.1 m noMem).1.length:Int) by omega)]
           have hnm:=yzG (P:=fun x:dM=>x.1.length≤1000000000∧x.2.1.length≤1000000000) (d:=noMem) hm hA.2.1
           exact ⟨_,_,rfl,hS _ _ (by show ((nth a.2.2.1 m noMem).1.set _ _).length≤_; rw [List.length_set]; exact hnm.1) hnm.2,d4⟩
         ·exact ⟨_,_,rfl,hL _ rfl rfl,d3⟩
        ·obtain ⟨x,u4,e4,_,d4⟩:=ykr u3 [(-2),0,1,2,5,1001] d3 (by simp)
         simp only [cond_true,cond_false,e4,zkd]
         exact ⟨_,_,rfl,hL _ rfl rfl,d4⟩
       ·exact ⟨_,_,rfl,hL _ rfl rfl,d3⟩
      ·obtain ⟨x,u4,e4,_,d4⟩:=yA u3 5 d3
       obtain ⟨l,u5,e5,_,d5⟩:=ySS u4 d4
       simp only [cond_true,cond_false,e4,zkd,e5]
       rw [zkb.2 (show (a.2.2.2.2.2.2.2.2.1.length+ [(IntKind.i64.wrap (x - 1),l)].length) * 32≤140737488355328 by simp only [List.length_cons,List.length_nil]; omega)]
       exact ⟨_,_,rfl,⟨hA.1,hA.2.1,by show (a.2.2.2.2.2.2.2.2.1++ [(IntKind.i64.wrap (x - 1),l)]).length≤1000000000; rw [List.length_append]; simp only [List.length_cons,List.length_nil]; omega⟩,d5⟩
     ·obtain ⟨x,u4,e4,_,d4⟩:=ykr u3 [(-1),60000,59990,60001] d3 (by simp)
      simp only [cond_true,cond_false,e4,zkd]
      exact ⟨_,_,rfl,hL _ rfl rfl,d4⟩
    ·obtain ⟨x,u4,e4,_,d4⟩:=ykr u3 [(-1),0,9,60000] d3 (by simp)
     simp only [cond_true,cond_false,e4,zkd]
     exact ⟨_,_,rfl,hL _ rfl rfl,d4⟩
   ·obtain ⟨x,u4,e4,_,d4⟩:=ykr u3 [(-1),1,9] d3 (by simp)
    simp only [cond_true,cond_false,e4,zkd]
    exact ⟨_,_,rfl,hL _ rfl rfl,d4⟩
  ·obtain ⟨x,u4,e4,_,d4⟩:=ykr u3 [(-2),(-1),0,5] d3 (by simp)
   simp only [cond_true,cond_false,e4,zkd]
   exact ⟨_,_,rfl,hL _ rfl rfl,d4⟩
 ·obtain ⟨x,u4,e4,q4,d4⟩:=y6V u3 d3
  simp only [cond_true,e4,zkd]
  exact ⟨_,_,rfl,hS _ _ (by omega) (by omega),d4⟩
end
section
def yIq:Code:=(Tryz.f170.body).getD .skip
def yJb:Env:=zj3 TT [(124,ybC)] []
theorem yQ0:FrOk Tryz.prog ⟨yJb,6,fun _=>none⟩ yIq:=zj7 yb yc ⟨yey,trivial⟩
def ySE:Nat→Option Seg:=fun _=>none
abbrev yl8:List Par:= [.pt tU .fz]
abbrev ysu:List OT:= [⟨false,tI,.fz⟩]
def ycV (a0:dU):Option (ResD ysu×MutD yl8) :=
 bnd (yr a0 ([0,1,2,3,5,8,(-1),40]:List Int)) fun r1 =>
 some ((r1.1.1,()),(r1.2.1,()))
theorem y0H (x:InD yl8):zjx ⟨yJb,6,ySE⟩ Tryz.f170.results.toList yIq yl8 ysu x=ycV x.1:=by kernel_rfl
theorem yVh:ConOk Tryz.prog 170 ⟨yl8,ysu,fun x=>ycV x.1⟩:=zj2 (yQ0) Tryz.func170 (by kernel_rfl) (by kernel_rfl) Tryz.ntmps170.symm (by decide) (fun x r h=>(y0H x).trans h)
def yvm:Con:=⟨yl8,ysu,fun x=>ycV x.1⟩
theorem yHO:ConOk Tryz.prog 170 yvm:=yVh
theorem y4p (u:dU) (h:yG u): ∃ (b:Int) (u':dU),ycV u=some ((b,()),(u',()))∧(-1≤b∧b≤40)∧yG u':=by
 unfold ycV
 obtain ⟨b,u1,e1,q1,d1⟩:=ykr u [0,1,2,3,5,8,-1,40] h (by simp)
 rw [e1,zkd]
 refine ⟨b,u1,rfl,?_,d1⟩
 simp only [List.mem_cons,List.not_mem_nil,or_false]at q1
 omega
end
section
def yyB:Code:=(Tryz.f76.body).getD .skip
def yyH:Env:=zj3 TT [(94,ymp),(96,ykq),(114,ymq),(170,yvm)] []
theorem yHZ:FrOk Tryz.prog ⟨yyH,13,fun _=>none⟩ yyB:=zj7 yb yc ⟨yuY,ysH,yuZ,yHO,trivial⟩
def yIC:Nat→Option Seg:=fun _=>none
abbrev yeD:List Par:= [.kp tYs .fz]
abbrev yiC:List OT:= [⟨false,tA,(.pr .fz (.pr (.pr .fz .fz) (.pr (.ow (.pr (.ow .fz) (.pr (.ow (.pr .fz .fz)) (.pr .fz (.ow .fz))))) (.pr .fz (.pr .fz (.pr .fz (.pr .fz (.pr .fz (.pr (.ow (.pr .fz .fz)) (.pr .fz (.pr .fz .fz)))))))))))⟩,⟨false,tI,.fz⟩]
def ybb (a0:List Int):Option (ResD yiC×MutD yeD) :=
 let r1:=ydZ a0
 let r2:=ycz a0 14
 bnd (ybH r1 r2) fun r3 =>
 bnd (ycV r3.2.1) fun r4 =>
 some ((r3.1.1,r4.1.1,()),())
theorem yMm (x:InD yeD):zjx ⟨yyH,13,yIC⟩ Tryz.f76.results.toList yyB yeD yiC x=ybb x.1:=by kernel_rfl
theorem yJN:ConOk Tryz.prog 76 ⟨yeD,yiC,fun x=>ybb x.1⟩:=zj2 (yHZ) Tryz.func76 (by kernel_rfl) (by kernel_rfl) Tryz.ntmps76.symm (by decide) (fun x r h=>(yMm x).trans h)
def yv9:Con:=⟨yeD,yiC,fun x=>ybb x.1⟩
theorem yKM:ConOk Tryz.prog 76 yv9:=yJN
theorem yWM (a0:List Int) (hb:a0.length≤140737488355328): ∃ (a:dA) (b:Int),ybb a0=some ((a,b,()),()):=by
 unfold ybb
 obtain ⟨h1,h2⟩:=yPK a0 14 (by omega) hb
 obtain ⟨a,u1,e1,q1,d1⟩:=yKf _ _ (yWO a0 hb) h1 (by omega)
 obtain ⟨b,u2,e2,_,d2⟩:=y4p u1 d1
 simp only [e1,e2,zkd]
 exact ⟨a,b,rfl⟩
end
section
def yKX:Code:=(Tryz.f120.body).getD .skip
def yLu:Env:=zj3 TT [(122,ymn)] []
theorem yS3:FrOk Tryz.prog ⟨yLu,12,fun _=>none⟩ yKX:=zj7 yb yc ⟨yuW,trivial⟩
def yVT:Nat→Option Seg:=fun _=>none
abbrev yn2:List Par:= [.rd tG]
abbrev yue:List OT:= [⟨false,tI,.fz⟩]
def yya (a0:dG):Option (ResD yue×MutD yn2) :=
 let r1:=yct a0
 bif (!r1) then
 some ((0,()),())
 else
 some (((IntKind.i64.wrap (a0.2 * (IntKind.i64.wrap (a0.1 - 1)))),()),())
theorem y2X (x:InD yn2):zjx ⟨yLu,12,yVT⟩ Tryz.f120.results.toList yKX yn2 yue x=yya x.1:=by kernel_rfl
theorem yYD:ConOk Tryz.prog 120 ⟨yn2,yue,fun x=>yya x.1⟩:=zj2 (yS3) Tryz.func120 (by kernel_rfl) (by kernel_rfl) Tryz.ntmps120.symm (by decide) (fun x r h=>(y2X x).trans h)
def yoC (a0:dG):Int :=
 let r1:=yct a0
 bif (!r1) then
 0
 else
 (IntKind.i64.wrap (a0.2 * (IntKind.i64.wrap (a0.1 - 1))))
def yHh:Con:=⟨yn2,yue,fun x=>(fun n=>some ((n,()),())) (yoC x.1)⟩
theorem y0R (a0:dG):yya a0=(fun n=>some ((n,()),())) (yoC a0):=zkq (p:=fun (n:Int)=>((n,()),())) (zkc (p:=fun (n:Int)=>((n,()),())) rfl rfl)
theorem y1V:ConOk Tryz.prog 120 yHh:=(yYD).mono (fun x r _ h=>(y0R x.1).trans h)
theorem y0N (a:Int×Int):yoC a=ym a:=by kernel_rfl
end
section
def yF8:Code:=(Tryz.f242.body).getD .skip
def yGO:Env:=zj3 TT [(120,yHh),(126,yy)] []
theorem yOp:FrOk Tryz.prog ⟨yGO,10,fun _=>none⟩ yF8:=zj7 yb yc ⟨y1V,yN,trivial⟩
def yPU:Nat→Option Seg:=fun _=>none
abbrev yjq:List Par:= [.rd tG,.rd tI]
abbrev ypN:List OT:= [⟨false,tB,.fz⟩]
def ytA (a0:dG) (a1:Int):Option (ResD ypN×MutD yjq) :=
 let r1:=yoC a0
 let r2:=yf a1 0 (IntKind.i64.wrap (r1 - 1))
 some ((r2,()),())
theorem yW1 (x:InD yjq):zjx ⟨yGO,10,yPU⟩ Tryz.f242.results.toList yF8 yjq ypN x=ytA x.1 x.2.1:=by kernel_rfl
theorem yRF:ConOk Tryz.prog 242 ⟨yjq,ypN,fun x=>ytA x.1 x.2.1⟩:=zj2 (yOp) Tryz.func242 (by kernel_rfl) (by kernel_rfl) Tryz.ntmps242.symm (by decide) (fun x r h=>(yW1 x).trans h)
def yb9 (a0:dG) (a1:Int):Bool :=
 let r1:=yoC a0
 let r2:=yf a1 0 (IntKind.i64.wrap (r1 - 1))
 r2
def ylb:Con:=⟨yjq,ypN,fun x=>(fun n=>some ((n,()),())) (yb9 x.1 x.2.1)⟩
theorem yUE (a0:dG) (a1:Int):ytA a0 a1=(fun n=>some ((n,()),())) (yb9 a0 a1):=zkq (p:=fun (n:Bool)=>((n,()),())) rfl
theorem yvE:ConOk Tryz.prog 242 ylb:=(yRF).mono (fun x r _ h=>(yUE x.1 x.2.1).trans h)
theorem yH1 (g:dG) (b:Int):yb9 g b=blkOk g b:=by
 unfold yb9
 simp only [y0N,yag,yWF]
end
section
def yDH:Code:=(Tryz.f171.body).getD .skip
def yD6:Env:=zj3 TT [(45,yhw),(242,ylb)] []
theorem yMt:FrOk Tryz.prog ⟨yD6,18,fun _=>none⟩ yDH:=zj7 yb yc ⟨yoM,yvE,trivial⟩
def yNo:Nat→Option Seg:=fun _=>none
abbrev yhK:List Par:= [.rd tA,.rd tI]
abbrev ym5:List OT:= [⟨false,tI,.fz⟩]
def yrM (a0:dA) (a1:Int):Option (ResD ym5×MutD yhK) :=
 let r1:=yah a0
 bif (!r1) then
 some ((1,()),())
 else
 bif a0.2.2.2.2.2.2.2.2.2.2.1 then
 some ((6,()),())
 else
 let r2:=yb9 a0.2.1 a1
 bif (!r2) then
 some ((2,()),())
 else
 some ((0,()),())
theorem ySX (x:InD yhK):zjx ⟨yD6,18,yNo⟩ Tryz.f171.results.toList yDH yhK ym5 x=yrM x.1 x.2.1:=by kernel_rfl
theorem yPh:ConOk Tryz.prog 171 ⟨yhK,ym5,fun x=>yrM x.1 x.2.1⟩:=zj2 (yMt) Tryz.func171 (by kernel_rfl) (by kernel_rfl) Tryz.ntmps171.symm (by decide) (fun x r h=>(ySX x).trans h)
def ye5 (a0:dA) (a1:Int):Int :=
 let r1:=yah a0
 bif (!r1) then
 1
 else
 bif a0.2.2.2.2.2.2.2.2.2.2.1 then
 6
 else
 let r2:=yb9 a0.2.1 a1
 bif (!r2) then
 2
 else
 0
def yrp:Con:=⟨yhK,ym5,fun x=>(fun n=>some ((n,()),())) (ye5 x.1 x.2.1)⟩
theorem yRq (a0:dA) (a1:Int):yrM a0 a1=(fun n=>some ((n,()),())) (ye5 a0 a1):=zkq (p:=fun (n:Int)=>((n,()),())) (zkc (p:=fun (n:Int)=>((n,()),())) rfl (zkc (p:=fun (n:Int)=>((n,()),())) rfl (zkc (p:=fun (n:Int)=>((n,()),())) rfl rfl)))
theorem yDa:ConOk Tryz.prog 171 yrp:=(yPh).mono (fun x r _ h=>(yRq x.1 x.2.1).trans h)
theorem yOK (a:dA) (b:Int):ye5 a b=yau a b:=by
 unfold ye5 yau yah
 simp only [yH1]
 cases yx a<;>cases a.2.2.2.2.2.2.2.2.2.2.1<;>cases blkOk a.2.1 b<;>rfl
end
end
end Go.Tf
