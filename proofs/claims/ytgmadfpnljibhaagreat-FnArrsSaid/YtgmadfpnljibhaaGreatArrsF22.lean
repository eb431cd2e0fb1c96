/- Functions of the program, and what they come to. -/
import Derived.Test.YtgmadfpnljibhaaGreatArrsF21
namespace Go.Tf
noncomputable section
open Go.Proofs
set_option synthInstance.maxHeartbeats 400000
set_option synthInstance.maxSize 10000
set_option linter.unusedVariables false
set_option linter.unusedSimpArgs false
set_option maxRecDepth 100000
section
def yJz:Code:=(Tryz.f114.body).getD .skip
def yJS:Env:=zj2 TT [(113,yEy),(124,ycn),(125,yw1),(141,yc0),(150,yz),(211,yGq),(212,ywZ),(213,yqz)] [(61952,(.pr .fz .fz))]
theorem yS4:FrOk Tryz.prog ⟨yJS,92,fun _=>none⟩ yJz:=zj6 yc yd ⟨yXg,yfu,yIw,ygu,yM,yY8,yIu,yyW,trivial⟩
def yVh:Nat→Option Seg:=fun _=>none
abbrev ypo:List Par:= [.pt tU .fz,.rd tI]
abbrev yuW:List OT:= [⟨false,tA,(.pr .fz (.pr (.pr .fz .fz) (.pr (.ow (.pr (.ow .fz) (.pr (.ow (.pr .fz .fz)) (.pr .fz (.ow .fz))))) (.pr .fz (.pr .fz (.pr .fz (.pr .fz (.pr .fz (.pr (.ow (.pr .fz .fz)) (.pr .fz (.pr .fz .fz)))))))))))⟩]
def ycv (a0:dU) (a1:Int):Option (ResD yuW×MutD ypo) :=
 bnd (yda a0 a1) fun r1 =>
 bnd (ye r1.2.1 (r1.1.1.2.2.1.length:Int)) fun r2 =>
 bnd (ye r2.2.1 20) fun r3 =>
 bif (r3.1.1==0) then
 bnd (ygx r3.2.1) fun r4 =>
 bif (inb r2.1.1 r1.1.1.2.2.1.length) then
 some (((r1.1.1.1,r1.1.1.2.1,(r1.1.1.2.2.1.set (r2.1.1).toNat r4.1.1),r1.1.1.2.2.2),()),(r4.2.1,()))
 else none
 else
 bif (r3.1.1==1) then
 bnd (yp r3.2.1 ([(-2),(-1),0,5]:List Int)) fun r5 =>
 some (((r1.1.1.1,r1.1.1.2.1,r1.1.1.2.2.1,r5.1.1,r1.1.1.2.2.2.2),()),(r5.2.1,()))
 else
 bif (r3.1.1==2) then
 bnd (yp r3.2.1 ([(-1),1,9]:List Int)) fun r6 =>
 some (((r1.1.1.1,r1.1.1.2.1,r1.1.1.2.2.1,r1.1.1.2.2.2.1,r6.1.1,r1.1.1.2.2.2.2.2),()),(r6.2.1,()))
 else
 bif (r3.1.1==3) then
 bnd (yp r3.2.1 ([(-1),0,9,60000]:List Int)) fun r7 =>
 some (((r1.1.1.1,r1.1.1.2.1,r1.1.1.2.2.1,r1.1.1.2.2.2.1,r1.1.1.2.2.2.2.1,r7.1.1,r1.1.1.2.2.2.2.2.2),()),(r7.2.1,()))
 else
 bif (r3.1.1==4) then
 bnd (yp r3.2.1 ([(-1),60000,59990,60001]:List Int)) fun r8 =>
 some (((r1.1.1.1,r1.1.1.2.1,r1.1.1.2.2.1,r1.1.1.2.2.2.1,r1.1.1.2.2.2.2.1,r1.1.1.2.2.2.2.2.1,r1.1.1.2.2.2.2.2.2.1,r8.1.1,r1.1.1.2.2.2.2.2.2.2.2),()),(r8.2.1,()))
 else
 bif (r3.1.1==5) then
 bnd (ye r3.2.1 5) fun r9 =>
 bnd (ycs r9.2.1) fun r10 =>
 bif (zjR r1.1.1.2.2.2.2.2.2.2.2.1.length ([((IntKind.i64.wrap (r9.1.1 - 1)),r10.1.1)]:List dW).length 32) then
 some (((r1.1.1.1,r1.1.1.2.1,r1.1.1.2.2.1,r1.1.1.2.2.2.1,r1.1.1.2.2.2.2.1,r1.1.1.2.2.2.2.2.1,r1.1.1.2.2.2.2.2.2.1,r1.1.1.2.2.2.2.2.2.2.1,(r1.1.1.2.2.2.2.2.2.2.2.1++([((IntKind.i64.wrap (r9.1.1 - 1)),r10.1.1)]:List dW)),r1.1.1.2.2.2.2.2.2.2.2.2),()),(r10.2.1,()))
 else none
 else
 bif (r3.1.1==6) then
 some (((r1.1.1.1,r1.1.1.2.1,r1.1.1.2.2.1,r1.1.1.2.2.2.1,r1.1.1.2.2.2.2.1,r1.1.1.2.2.2.2.2.1,r1.1.1.2.2.2.2.2.2.1,r1.1.1.2.2.2.2.2.2.2.1,r1.1.1.2.2.2.2.2.2.2.2.1,r1.1.1.2.2.2.2.2.2.2.2.2.1,r1.1.1.2.2.2.2.2.2.2.2.2.2.1,true),()),(r3.2.1,()))
 else
 bif (r3.1.1==7) then
 bnd (yp r3.2.1 ([(-2),0,1,2,5,1001]:List Int)) fun r11 =>
 some (((r1.1.1.1,r1.1.1.2.1,r1.1.1.2.2.1,r1.1.1.2.2.2.1,r1.1.1.2.2.2.2.1,r1.1.1.2.2.2.2.2.1,r1.1.1.2.2.2.2.2.2.1,r1.1.1.2.2.2.2.2.2.2.1,r1.1.1.2.2.2.2.2.2.2.2.1,r11.1.1,r1.1.1.2.2.2.2.2.2.2.2.2.2),()),(r11.2.1,()))
 else
 bif (r3.1.1==8) then
 some (((r1.1.1.1,r1.1.1.2.1,r1.1.1.2.2.1,r1.1.1.2.2.2.1,r1.1.1.2.2.2.2.1,r1.1.1.2.2.2.2.2.1,r1.1.1.2.2.2.2.2.2.1,r1.1.1.2.2.2.2.2.2.2.1,r1.1.1.2.2.2.2.2.2.2.2.1,r1.1.1.2.2.2.2.2.2.2.2.2.1,true,r1.1.1.2.2.2.2.2.2.2.2.2.2.2),()),(r3.2.1,()))
 else
 bif (r3.1.1==9) then
 bif (inb r2.1.1 r1.1.1.2.2.1.length) then
 let r12:=yaq 0
 bnd (yct r3.2.1) fun r13 =>
 bif (inb r12 ((nth r1.1.1.2.2.1 r2.1.1 ([],[],false,[])).1).length) then
 let r14:=(r1.1.1.2.2.1.set (r2.1.1).toNat ((((nth r1.1.1.2.2.1 r2.1.1 ([],[],false,[])).1).set (r12).toNat r13.1.1),((nth r1.1.1.2.2.1 r2.1.1 ([],[],false,[])).2).1,(((nth r1.1.1.2.2.1 r2.1.1 ([],[],false,[])).2).2).1,(((nth r1.1.1.2.2.1 r2.1.1 ([],[],false,[])).2).2).2))
 some (((r1.1.1.1,r1.1.1.2.1,r14,r1.1.1.2.2.2),()),(r13.2.1,()))
 else none
 else none
 else
 bif (r3.1.1==10) then
 bnd (ycu r3.2.1) fun r15 =>
 some (((r1.1.1.1,r15.1.1,r1.1.1.2.2),()),(r15.2.1,()))
 else
 some ((r1.1.1,()),(r3.2.1,()))
theorem yZR (x:InD ypo):zjx ⟨yJS,92,yVh⟩ Tryz.f114.results.toList yJz ypo yuW x=ycv x.1 x.2.1:=by kernel_rfl
theorem yWU:ConOk Tryz.prog 114 ⟨ypo,yuW,fun x=>ycv x.1 x.2.1⟩:=zj1 (yS4) Tryz.func114 (by kernel_rfl) (by kernel_rfl) Tryz.ntmps114.symm (by decide) (fun x r h=>(yZR x).trans h)
def yw2:Con:=⟨ypo,yuW,fun x=>ycv x.1 x.2.1⟩
theorem yIx:ConOk Tryz.prog 114 yw2:=yWU
theorem y1q (u:dU) (most:Int) (h:yD u) (h0:0≤most) (h1:most≤1000): ∃ (a:dA) (u':dU),ycv u most=some ((a,()),(u',()))∧yxs a∧GS a.2.1∧yD u':=by
 unfold ycv
 obtain ⟨a,u1,e1,q1,d1⟩:=y1r u most h h0 h1
 have hg:=yi.1 q1.1.1
 have hG:GS a.2.1:=y2u q1.1.1
 have hl:=q1.2.1.1.2
 have hd:=yxX q1.1.2.2.1 q1.1.1
 have hA:yxs a:=yZ5 (yZ7 (yU3 q1)) (by omega)
 have hL: ∀ b:dA,b.2.2.1=a.2.2.1→b.2.2.2.2.2.2.2.2.1=a.2.2.2.2.2.2.2.2.1→yxs b:=fun b e1 e2=>by unfold yxs; rw [e1,e2]; exact hA
 have hS: ∀ (m:dM) (k:Nat),m.1.length≤1000000000→m.2.1.length≤1000000000→yxs (a.1,a.2.1,a.2.2.1.set k m,a.2.2.2):=fun m k g1 g2=>⟨by show (a.2.2.1.set k m).length≤_; rw [List.length_set]; exact hA.1,fun x hx=>by
  rcases List.mem_or_eq_of_mem_set hx with h1 | rfl
  ·exact hA.2.1 x h1
  ·exact ⟨g1,g2⟩,hA.2.2⟩
 obtain ⟨m,u2,e2,q2,d2⟩:=yy u1 (a.2.2.1.length:Int) d1
 obtain ⟨r,u3,e3,_,d3⟩:=yy u2 20 d2
 have hm:inb m a.2.2.1.length=true:=zjD.2 ⟨q2.1,q2.2.1 (by omega)⟩
 simp only [e1,e2,e3,zkc,hm]
 cases (r==0)
 ·cases (r==1)
  ·cases (r==2)
   ·cases (r==3)
    ·cases (r==4)
     ·cases (r==5)
      ·cases (r==6)
       ·cases (r==7)
        ·cases (r==8)
         ·cases (r==9)
          ·cases (r==10)
           ·exact ⟨_,_,rfl,hL _ rfl rfl,hG,d3⟩
           ·obtain ⟨g,u4,e4,hG4,d4⟩:=yXD u3 d3
            simp only [cond_true,cond_false,e4,zkc]
            exact ⟨_,_,rfl,hL _ rfl rfl,hG4,d4⟩
          ·obtain ⟨l,u4,e4,_,d4⟩:=yOt u3 d3
           have hmi:=zjD.1 hm
           have hs:=(q1.2.1.1.1 m.toNat (by omega)).2.1
           rw [Int.toNat_of_nonneg hmi.1]at hs
           simp only [cond_true,cond_false,e4,zkc,yd9]
           rw [show dataAt 0=6 from rfl,zjD.2 (show (0:Int)≤6∧(6:Int) < ((nth a.2.2.1 m noMem).1.length:Int) by omega)]
           have hnm:=yAP (P:=fun x:dM=>x.1.length≤1000000000∧x.2.1.length≤1000000000) (d:=noMem) hm hA.2.1
           exact ⟨_,_,rfl,hS _ _ (by show ((nth a.2.2.1 m noMem).1.set _ _).length≤_; rw [List.length_set]; exact hnm.1) hnm.2,hG,d4⟩
         ·exact ⟨_,_,rfl,hL _ rfl rfl,hG,d3⟩
        ·obtain ⟨x,u4,e4,_,d4⟩:=yi3 u3 [(-2),0,1,2,5,1001] d3 (by simp)
         simp only [cond_true,cond_false,e4,zkc]
         exact ⟨_,_,rfl,hL _ rfl rfl,hG,d4⟩
       ·exact ⟨_,_,rfl,hL _ rfl rfl,hG,d3⟩
      ·obtain ⟨x,u4,e4,_,d4⟩:=yy u3 5 d3
       obtain ⟨l,u5,e5,_,d5⟩:=yOs u4 d4
       simp only [cond_true,cond_false,e4,zkc,e5]
       rw [zka.2 (show (a.2.2.2.2.2.2.2.2.1.length+ [(IntKind.i64.wrap (x - 1),l)].length) * 32≤140737488355328 by simp only [List.length_cons,List.length_nil]; omega)]
       exact ⟨_,_,rfl,⟨hA.1,hA.2.1,by show (a.2.2.2.2.2.2.2.2.1++ [(IntKind.i64.wrap (x - 1),l)]).length≤1000000000; rw [List.length_append]; simp only [List.length_cons,List.length_nil]; omega⟩,hG,d5⟩
     ·obtain ⟨x,u4,e4,_,d4⟩:=yi3 u3 [(-1),60000,59990,60001] d3 (by simp)
      simp only [cond_true,cond_false,e4,zkc]
      exact ⟨_,_,rfl,hL _ rfl rfl,hG,d4⟩
    ·obtain ⟨x,u4,e4,_,d4⟩:=yi3 u3 [(-1),0,9,60000] d3 (by simp)
     simp only [cond_true,cond_false,e4,zkc]
     exact ⟨_,_,rfl,hL _ rfl rfl,hG,d4⟩
   ·obtain ⟨x,u4,e4,_,d4⟩:=yi3 u3 [(-1),1,9] d3 (by simp)
    simp only [cond_true,cond_false,e4,zkc]
    exact ⟨_,_,rfl,hL _ rfl rfl,hG,d4⟩
  ·obtain ⟨x,u4,e4,_,d4⟩:=yi3 u3 [(-2),(-1),0,5] d3 (by simp)
   simp only [cond_true,cond_false,e4,zkc]
   exact ⟨_,_,rfl,hL _ rfl rfl,hG,d4⟩
 ·obtain ⟨x,u4,e4,q4,d4⟩:=y1Y u3 d3
  simp only [cond_true,e4,zkc]
  exact ⟨_,_,rfl,hS _ _ (by omega) (by omega),hG,d4⟩
theorem yZs (u:dU) (most:Int) (h:yD u) (h0:0≤most) (h1:most≤1000): ∃ (a:dA) (u':dU),ycv u most=some ((a,()),(u',()))∧yxs a∧yD u':=by
 obtain ⟨a,u',e,q,_,d⟩:=y1q u most h h0 h1
 exact ⟨a,u',e,q,d⟩
end
section
def yAU:Code:=(Tryz.f43.body).getD .skip
def yBf:Env:=zj2 TT [(94,yqy),(96,yu9),(114,yw2)] []
theorem yIS:FrOk Tryz.prog ⟨yBf,10,fun _=>none⟩ yAU:=zj6 yc yd ⟨yyV,yGK,yIx,trivial⟩
def yJF:Nat→Option Seg:=fun _=>none
abbrev ygG:List Par:= [.kp tYs .fz]
abbrev ylt:List OT:= [⟨false,tA,(.pr .fz (.pr (.pr .fz .fz) (.pr (.ow (.pr (.ow .fz) (.pr (.ow (.pr .fz .fz)) (.pr .fz (.ow .fz))))) (.pr .fz (.pr .fz (.pr .fz (.pr .fz (.pr .fz (.pr (.ow (.pr .fz .fz)) (.pr .fz (.pr .fz .fz)))))))))))⟩]
def ycr (a0:List Int):Option (ResD ylt×MutD ygG) :=
 let r1:=yeI a0
 let r2:=yft a0 12
 bnd (ycv r1 r2) fun r3 =>
 some ((r3.1.1,()),())
theorem yOy (x:InD ygG):zjx ⟨yBf,10,yJF⟩ Tryz.f43.results.toList yAU ygG ylt x=ycr x.1:=by kernel_rfl
theorem yLd:ConOk Tryz.prog 43 ⟨ygG,ylt,fun x=>ycr x.1⟩:=zj1 (yIS) Tryz.func43 (by kernel_rfl) (by kernel_rfl) Tryz.ntmps43.symm (by decide) (fun x r h=>(yOy x).trans h)
def yxV:Con:=⟨ygG,ylt,fun x=>ycr x.1⟩
theorem yNC:ConOk Tryz.prog 43 yxV:=yLd
end
section
def yy8:Code:=(Tryz.f44.body).getD .skip
def yzt:Env:=zj2 TT [(94,yqy),(96,yu9),(114,yw2),(124,ycn)] []
theorem yG0:FrOk Tryz.prog ⟨yzt,18,fun _=>none⟩ yy8:=zj6 yc yd ⟨yyV,yGK,yIx,yfu,trivial⟩
def yID:Nat→Option Seg:=fun _=>none
abbrev yfA:List Par:= [.kp tYs .fz]
abbrev yjz:List OT:= [⟨false,tA,(.pr .fz (.pr (.pr .fz .fz) (.pr (.ow (.pr (.ow .fz) (.pr (.ow (.pr .fz .fz)) (.pr .fz (.ow .fz))))) (.pr .fz (.pr .fz (.pr .fz (.pr .fz (.pr .fz (.pr (.ow (.pr .fz .fz)) (.pr .fz (.pr .fz .fz)))))))))))⟩,⟨false,tI,.fz⟩,⟨false,tI,.fz⟩]
def ybE (a0:List Int):Option (ResD yjz×MutD yfA) :=
 let r1:=yeI a0
 let r2:=yft a0 10
 bnd (ycv r1 r2) fun r3 =>
 bnd (yp r3.2.1 ([0,1,2,(-1),5]:List Int)) fun r4 =>
 bnd (yp r4.2.1 ([0,1,2,(-1),8]:List Int)) fun r5 =>
 some ((r3.1.1,r4.1.1,r5.1.1,()),())
theorem yMb (x:InD yfA):zjx ⟨yzt,18,yID⟩ Tryz.f44.results.toList yy8 yfA yjz x=ybE x.1:=by kernel_rfl
theorem yJb:ConOk Tryz.prog 44 ⟨yfA,yjz,fun x=>ybE x.1⟩:=zj1 (yG0) Tryz.func44 (by kernel_rfl) (by kernel_rfl) Tryz.ntmps44.symm (by decide) (fun x r h=>(yMb x).trans h)
def ywh:Con:=⟨yfA,yjz,fun x=>ybE x.1⟩
theorem yLh:ConOk Tryz.prog 44 ywh:=yJb
end
section
def yC9:Code:=(Tryz.f270.body).getD .skip
def yDN:Env:=zj2 TT [(218,ylE)] []
theorem yKk:FrOk Tryz.prog ⟨yDN,46,fun _=>none⟩ yC9:=zj6 yc yd ⟨yvG,trivial⟩
def yLH:Nat→Option Seg:=fun _=>none
abbrev yeS:List Par:= [.rd tL]
abbrev ynR:List OT:= [⟨false,tS,(.pr .fz (.pr .fz (.pr .fz (.pr .fz (.pr .fz (.pr .fz (.pr .fz .fz)))))))⟩,⟨false,tB,.fz⟩]
def yjU (a0:List Int):Option (ResD ynR×MutD yeS) :=
 bif (!((a0.length:Int) !=9)) then
 bif (inb 0 a0.length) then
 bif ((nth a0 0 0) !=21317) then
 some (((0,0,0,0,0,0,0,0),false,()),())
 else
 bif (inb 1 a0.length) then
 bif (inb 2 a0.length) then
 bif (inb 3 a0.length) then
 bif (inb 4 a0.length) then
 bif (inb 5 a0.length) then
 bif (inb 6 a0.length) then
 bif (inb 7 a0.length) then
 bif (inb 8 a0.length) then
 let r1:=ybd ((nth a0 1 0),(nth a0 2 0),(nth a0 3 0),(nth a0 4 0),(nth a0 5 0),(nth a0 6 0),(IntKind.i64.wrap ((nth a0 7 0) - 1)),(nth a0 8 0))
 bif (!r1) then
 some (((0,0,0,0,0,0,0,0),false,()),())
 else
 some ((((nth a0 1 0),(nth a0 2 0),(nth a0 3 0),(nth a0 4 0),(nth a0 5 0),(nth a0 6 0),(IntKind.i64.wrap ((nth a0 7 0) - 1)),(nth a0 8 0)),true,()),())
 else none
 else none
 else none
 else none
 else none
 else none
 else none
 else none
 else none
 else
 some (((0,0,0,0,0,0,0,0),false,()),())
theorem yR6 (x:InD yeS):zjx ⟨yDN,46,yLH⟩ Tryz.f270.results.toList yC9 yeS ynR x=yjU x.1:=by kernel_rfl
theorem yNf:ConOk Tryz.prog 270 ⟨yeS,ynR,fun x=>yjU x.1⟩:=zj1 (yKk) Tryz.func270 (by kernel_rfl) (by kernel_rfl) Tryz.ntmps270.symm (by decide) (fun x r h=>(yR6 x).trans h)
def yi9 (a0:List Int):dS×Bool:=yfm a0
theorem yP4 (a0:List Int) (hk:zi2 yeS (a0,())):yjU a0=(fun n=>some ((n.1,n.2,()),())) (yi9 a0):=by
 unfold yjU yi9 yfm
 by_cases h:(a0.length:Int)=9
 ·simp only [bne,h,yyO,beq_self_eq_true,zjD.2 (show (0:Int)≤0∧(0:Int) < a0.length by omega),zjD.2 (show (0:Int)≤1∧(1:Int) < a0.length by omega),zjD.2 (show (0:Int)≤2∧(2:Int) < a0.length by omega),zjD.2 (show (0:Int)≤3∧(3:Int) < a0.length by omega),zjD.2 (show (0:Int)≤4∧(4:Int) < a0.length by omega),zjD.2 (show (0:Int)≤5∧(5:Int) < a0.length by omega),zjD.2 (show (0:Int)≤6∧(6:Int) < a0.length by omega),zjD.2 (show (0:Int)≤7∧(7:Int) < a0.length by omega),zjD.2 (show (0:Int)≤8∧(8:Int) < a0.length by omega)]
  rw [show yA (nth a0 1 0,nth a0 2 0,nth a0 3 0,nth a0 4 0,nth a0 5 0,nth a0 6 0,IntKind.i64.wrap (nth a0 7 0 - 1),nth a0 8 0)=yA (yGQ a0) from rfl]
  cases (nth a0 0 0==21317)<;>cases yA (yGQ a0)<;>rfl
 ·rw [show ((a0.length:Int) !=9)=true from bne_iff_ne.2 h,show ((a0.length:Int)==9)=false from beq_eq_false_iff_ne.2 h]; rfl
def yzL:Con:=⟨yeS,ynR,fun x=>(fun n=>some ((n.1,n.2,()),())) (yi9 x.1)⟩
theorem yQQ:ConOk Tryz.prog 270 yzL:=(yNf).mono (fun x r hk h=>(yP4 x.1 hk).trans h)
end
section
def ygA:Code:=(Tryz.f227.body).getD .skip
def yll:Env:=zj2 TT [(156,ys5),(270,yzL)] []
theorem yIM:FrOk Tryz.prog ⟨yll,60,fun _=>none⟩ ygA:=zj6 yc yd ⟨yEP,yQQ,trivial⟩
def yxC:Nat→Option Seg:=fun _=>none
def yay:Shape:=⟨[(1,false,[.int .i64]),(2,false,[.ptr 0 0]),(4,false,[.ptr 64 0]),(6,false,[.ptr 4160 0]),(7,false,[.bool]),(14,false,[.int .i64])],[(0,[.br tL,.br tW,.bool,.br tI]),(64,[.int .i64,.int .i64,.int .i64,.int .i64,.int .i64,.int .i64,.int .i64,.int .i64]),(4160,[.int .i64,.int .i64,.int .i64,.int .i64,.int .i64,.int .i64,.int .i64,.int .i64])],[]⟩
def ydN:Shape:=⟨[(1,false,[.int .i64]),(2,false,[.ptr 0 0]),(4,false,[.ptr 64 0]),(6,false,[.ptr 4160 0]),(7,false,[.cb false]),(14,false,[.ci .i64 0])],[(0,[.br tL,.br tW,.bool,.br tI]),(64,[.int .i64,.int .i64,.int .i64,.int .i64,.int .i64,.int .i64,.int .i64,.int .i64]),(4160,[.int .i64,.int .i64,.int .i64,.int .i64,.int .i64,.int .i64,.int .i64,.int .i64])],[]⟩
def ydG:Shape:=⟨[(4,false,[.ptr 64 0]),(6,false,[.ptr 4160 0]),(7,false,[.bool])],[(64,[.int .i64,.int .i64,.int .i64,.int .i64,.int .i64,.int .i64,.int .i64,.int .i64]),(4160,[.int .i64,.int .i64,.int .i64,.int .i64,.int .i64,.int .i64,.int .i64,.int .i64])],[]⟩
def yht:Shape:=⟨[],[],[]⟩
abbrev ylI (v0:Int) (v1:Bool) (v2:Int) (v3:dM) (v4 v5:dS):(yay).X:=(((v0,()),((),()),((),()),((),()),(v1,()),(v2,()),()),((v3.1,v3.2.1,v3.2.2.1,v3.2.2.2,()),(v4.1,v4.2.1,v4.2.2.1,v4.2.2.2.1,v4.2.2.2.2.1,v4.2.2.2.2.2.1,v4.2.2.2.2.2.2.1,v4.2.2.2.2.2.2.2,()),(v5.1,v5.2.1,v5.2.2.1,v5.2.2.2.1,v5.2.2.2.2.1,v5.2.2.2.2.2.1,v5.2.2.2.2.2.2.1,v5.2.2.2.2.2.2.2,()),()),())
abbrev yHa (v0:Int) (v1:dM) (v2 v3:dS):(ydN).X:=(((v0,()),((),()),((),()),((),()),((),()),((),()),()),((v1.1,v1.2.1,v1.2.2.1,v1.2.2.2,()),(v2.1,v2.2.1,v2.2.2.1,v2.2.2.2.1,v2.2.2.2.2.1,v2.2.2.2.2.2.1,v2.2.2.2.2.2.2.1,v2.2.2.2.2.2.2.2,()),(v3.1,v3.2.1,v3.2.2.1,v3.2.2.2.1,v3.2.2.2.2.1,v3.2.2.2.2.2.1,v3.2.2.2.2.2.2.1,v3.2.2.2.2.2.2.2,()),()),())
abbrev yG6 (v0:Bool) (v1 v2:dS):(ydG).X:=((((),()),((),()),(v0,()),()),((v1.1,v1.2.1,v1.2.2.1,v1.2.2.2.1,v1.2.2.2.2.1,v1.2.2.2.2.2.1,v1.2.2.2.2.2.2.1,v1.2.2.2.2.2.2.2,()),(v2.1,v2.2.1,v2.2.2.1,v2.2.2.2.1,v2.2.2.2.2.1,v2.2.2.2.2.2.1,v2.2.2.2.2.2.2.1,v2.2.2.2.2.2.2.2,()),()),())
def yl5 (v0:Int) (v1:Bool) (v2:Int) (v3:List (List Int)) (v4:List dW) (v5:Bool) (v6:List Int) (v7 v8 v9 v10 v11 v12 v13 v14 v15 v16 v17 v18 v19 v20 v21 v22:Int):Option ((yay).X ⊕ ((ydG).X ⊕ (yht).X)) :=
 bif (ltb v2 2) then
 let r3:=yd6 (v3,v4,v5,v6) v2
 let r4:=yi9 r3.1
 bif r3.2 then
 bif r4.2 then
 bif (r4.1.1==v0) then
 bif ((r4.1.2.1.tmod 2)==v2) then
 bif (!(!v1)) then
 bif (ltb v16 r4.1.2.1) then
 some (.inl (((v0,()),((),()),((),()),((),()),(true,()),((IntKind.i64.wrap (v2+1)),()),()),((v3,v4,v5,v6,()),(v7,v8,v9,v10,v11,v12,v13,v14,()),(r4.1.1,r4.1.2.1,r4.1.2.2.1,r4.1.2.2.2.1,r4.1.2.2.2.2.1,r4.1.2.2.2.2.2.1,r4.1.2.2.2.2.2.2.1,r4.1.2.2.2.2.2.2.2,()),()),()))
 else
 some (.inl (((v0,()),((),()),((),()),((),()),(v1,()),((IntKind.i64.wrap (v2+1)),()),()),((v3,v4,v5,v6,()),(v7,v8,v9,v10,v11,v12,v13,v14,()),(v15,v16,v17,v18,v19,v20,v21,v22,()),()),()))
 else
 some (.inl (((v0,()),((),()),((),()),((),()),(true,()),((IntKind.i64.wrap (v2+1)),()),()),((v3,v4,v5,v6,()),(v7,v8,v9,v10,v11,v12,v13,v14,()),(r4.1.1,r4.1.2.1,r4.1.2.2.1,r4.1.2.2.2.1,r4.1.2.2.2.2.1,r4.1.2.2.2.2.2.1,r4.1.2.2.2.2.2.2.1,r4.1.2.2.2.2.2.2.2,()),()),()))
 else
 some (.inl (((v0,()),((),()),((),()),((),()),(v1,()),((IntKind.i64.wrap (v2+1)),()),()),((v3,v4,v5,v6,()),(v7,v8,v9,v10,v11,v12,v13,v14,()),(v15,v16,v17,v18,v19,v20,v21,v22,()),()),()))
 else
 some (.inl (((v0,()),((),()),((),()),((),()),(v1,()),((IntKind.i64.wrap (v2+1)),()),()),((v3,v4,v5,v6,()),(v7,v8,v9,v10,v11,v12,v13,v14,()),(v15,v16,v17,v18,v19,v20,v21,v22,()),()),()))
 else
 some (.inl (((v0,()),((),()),((),()),((),()),(v1,()),((IntKind.i64.wrap (v2+1)),()),()),((v3,v4,v5,v6,()),(v7,v8,v9,v10,v11,v12,v13,v14,()),(v15,v16,v17,v18,v19,v20,v21,v22,()),()),()))
 else
 some (.inl (((v0,()),((),()),((),()),((),()),(v1,()),((IntKind.i64.wrap (v2+1)),()),()),((v3,v4,v5,v6,()),(v7,v8,v9,v10,v11,v12,v13,v14,()),(v15,v16,v17,v18,v19,v20,v21,v22,()),()),()))
 else
 some (.inr (.inl ((((),()),((),()),(v1,()),()),((v7,v8,v9,v10,v11,v12,v13,v14,()),(v15,v16,v17,v18,v19,v20,v21,v22,()),()),())))
def yaR (x:(yay).X):=yl5 x.1.1.1 x.1.2.2.2.2.1.1 x.1.2.2.2.2.2.1.1 x.2.1.1.1 x.2.1.1.2.1 x.2.1.1.2.2.1 x.2.1.1.2.2.2.1 x.2.1.2.1.1 x.2.1.2.1.2.1 x.2.1.2.1.2.2.1 x.2.1.2.1.2.2.2.1 x.2.1.2.1.2.2.2.2.1 x.2.1.2.1.2.2.2.2.2.1 x.2.1.2.1.2.2.2.2.2.2.1 x.2.1.2.1.2.2.2.2.2.2.2.1 x.2.1.2.2.1.1 x.2.1.2.2.1.2.1 x.2.1.2.2.1.2.2.1 x.2.1.2.2.1.2.2.2.1 x.2.1.2.2.1.2.2.2.2.1 x.2.1.2.2.1.2.2.2.2.2.1 x.2.1.2.2.1.2.2.2.2.2.2.1 x.2.1.2.2.1.2.2.2.2.2.2.2.1
def yvc (x:(ydN).X):(yay).X:=(((x.1.1.1,()),((),()),((),()),((),()),(false,()),(0,()),()),((x.2.1.1.1,x.2.1.1.2.1,x.2.1.1.2.2.1,x.2.1.1.2.2.2.1,()),(x.2.1.2.1.1,x.2.1.2.1.2.1,x.2.1.2.1.2.2.1,x.2.1.2.1.2.2.2.1,x.2.1.2.1.2.2.2.2.1,x.2.1.2.1.2.2.2.2.2.1,x.2.1.2.1.2.2.2.2.2.2.1,x.2.1.2.1.2.2.2.2.2.2.2.1,()),(x.2.1.2.2.1.1,x.2.1.2.2.1.2.1,x.2.1.2.2.1.2.2.1,x.2.1.2.2.1.2.2.2.1,x.2.1.2.2.1.2.2.2.2.1,x.2.1.2.2.1.2.2.2.2.2.1,x.2.1.2.2.1.2.2.2.2.2.2.1,x.2.1.2.2.1.2.2.2.2.2.2.2.1,()),()),())
def ywa:Code:=(zdD ygA 64 116).getD .skip
theorem yIH:zdD ygA 64 29=some (.block 0 (.loop ywa)):=by kernel_rfl
theorem yJi (x:(yay).X):zg0 ⟨yll,60,yxC⟩ 0 ywa 116 yay ydG yht x=yaR x:=by kernel_rfl
def yvj (x:(ydN).X):Nat:=18446744073709551616
def yng (x:(ydN).X):Option ((ydG).X ⊕ (yht).X):=zz yaR (yvj x) (yvc x)
def yvY:Seg:=⟨ydN,ydG,yht,yng⟩
def yxD:Nat→Option Seg:=fun q=>bif Nat.beq q 29 then some yvY else yxC q
theorem yIN:FrOk Tryz.prog ⟨yll,60,yxD⟩ ygA:=(yIM).loop (sg:=yvY) yay yvc (by decide) yIH yaR yvj (by decide) (fun _=>rfl) (fun x r _ h=>h) yJi
abbrev ydS:List Par:= [.rd tM,.rd tI]
abbrev ylp:List OT:= [⟨false,tS,(.pr .fz (.pr .fz (.pr .fz (.pr .fz (.pr .fz (.pr .fz (.pr .fz .fz)))))))⟩,⟨false,tB,.fz⟩]
def yji (a0:dM) (a1:Int):Option (ResD ylp×MutD ydS) :=
 zkh (yng (((a1,()),((),()),((),()),((),()),((),()),((),()),()),((a0.1,a0.2.1,a0.2.2.1,a0.2.2.2,()),(0,0,0,0,0,0,0,0,()),(0,0,0,0,0,0,0,0,()),()),())) (fun y4 =>
 some (((y4.2.1.2.1.1,y4.2.1.2.1.2.1,y4.2.1.2.1.2.2.1,y4.2.1.2.1.2.2.2.1,y4.2.1.2.1.2.2.2.2.1,y4.2.1.2.1.2.2.2.2.2.1,y4.2.1.2.1.2.2.2.2.2.2.1,y4.2.1.2.1.2.2.2.2.2.2.2.1),y4.1.2.2.1.1,()),())) (fun y4 =>
 none)
theorem yOu (x:InD ydS):zjx ⟨yll,60,yxD⟩ Tryz.f227.results.toList ygA ydS ylp x=yji x.1 x.2.1:=by kernel_rfl
theorem yK9:ConOk Tryz.prog 227 ⟨ydS,ylp,fun x=>yji x.1 x.2.1⟩:=zj1 (yIN) Tryz.func227 (by kernel_rfl) (by kernel_rfl) Tryz.ntmps227.symm (by decide) (fun x r h=>(yOu x).trans h)
def yhf (a0:dM) (a1:Int):dS×Bool:=ya5 a0 a1
theorem yM7 (a0:dM) (a1:Int) (hk:zi2 ydS (a0,a1,())):yji a0 a1=(fun n=>some ((n.1,n.2,()),())) (yhf a0 a1):=by
 have h1:=zj8 (step:=yaR) 2 (fun i s=>ylI a1 s.2 i a0 yfe s.1) (fun (s:dS×Bool) (i:Nat)=>ymG s (ypw a0 a1 i) (yGT a0 i)) (fun _ _=>True) (fun s=> .inl (yG6 s.2 yfe s.1)) (fun i s hi _=>⟨by
  simp only [yaR,ylI,yl5,zj4 (show (i:Int) < 2 by omega),cond_true,wr (show -9223372036854775808≤(i:Int)+1 by omega) (by omega),Int.natCast_add,Int.natCast_one,Int.toNat_natCast,zkr,yd6,yi9]
  unfold ypw ymG yGT
  cases (yU a0 i).2<;>cases (yfm (yU a0 i).1).2<;>cases ((yfm (yU a0 i).1).1.1==a1)<;>cases ((yfm (yU a0 i).1).1.2.1.tmod 2==(i:Int))<;>cases hf:s.2<;>cases ltb s.1.2.1 (yfm (yU a0 i).1).1.2.1<;>simp only [Bool.not_true,Bool.not_false,cond_true,cond_false,Bool.and_true,Bool.true_and,Bool.false_and,Bool.and_false,Bool.or_true,Bool.true_or,Bool.false_or,Bool.or_false,hf],trivial⟩) (fun s _=>by simp only [yaR,ylI,yl5]; rfl) (yfe,false) trivial 18446744073709551616 (by omega)
 unfold yji yhf
 rw [show yng (yHa a1 a0 yfe yfe)=_ from h1]; rfl
def yxS:Con:=⟨ydS,ylp,fun x=>(fun n=>some ((n.1,n.2,()),())) (yhf x.1 x.2.1)⟩
theorem yNz:ConOk Tryz.prog 227 yxS:=(yK9).mono (fun x r hk h=>(yM7 x.1 x.2.1 hk).trans h)
end
section
def yDg:Code:=(Tryz.f142.body).getD .skip
def yDU:Env:=zj2 TT [(133,ygo),(227,yxS)] []
theorem yKt:FrOk Tryz.prog ⟨yDU,35,fun _=>none⟩ yDg:=zj6 yc yd ⟨ym3,yNz,trivial⟩
def yLO:Nat→Option Seg:=fun _=>none
abbrev yeY:List Par:= [.rd tM,.rd tI,.rd tI]
abbrev ynZ:List OT:= [⟨false,tS,(.pr .fz (.pr .fz (.pr .fz (.pr .fz (.pr .fz (.pr .fz (.pr .fz .fz)))))))⟩,⟨false,tB,.fz⟩]
def yj0 (a0:dM) (a1 a2:Int):Option (ResD ynZ×MutD yeY) :=
 let r1:=yhf a0 a2
 let r2:=yae a0
 bif (!(!r2)) then
 bif (!a0.2.2.1) then
 bif (!(!r1.2)) then
 bif (r1.1.2.2.1 !=a1) then
 some (((0,0,0,0,0,0,0,0),false,()),())
 else
 some ((r1.1,true,()),())
 else
 some (((0,0,0,0,0,0,0,0),false,()),())
 else
 some (((0,0,0,0,0,0,0,0),false,()),())
 else
 some (((0,0,0,0,0,0,0,0),false,()),())
theorem ySe (x:InD yeY):zjx ⟨yDU,35,yLO⟩ Tryz.f142.results.toList yDg yeY ynZ x=yj0 x.1 x.2.1 x.2.2.1:=by kernel_rfl
theorem yNn:ConOk Tryz.prog 142 ⟨yeY,ynZ,fun x=>yj0 x.1 x.2.1 x.2.2.1⟩:=zj1 (yKt) Tryz.func142 (by kernel_rfl) (by kernel_rfl) Tryz.ntmps142.symm (by decide) (fun x r h=>(ySe x).trans h)
def yc4 (a0:dM) (a1 a2:Int):dS×Bool:=bif ysO a0 a1 a2 then ((ya5 a0 a2).1,true) else (yfe,false)
theorem yQc (a0:dM) (a1 a2:Int) (hk:zi2 yeY (a0,a1,a2,())):yj0 a0 a1 a2=(fun n=>some ((n.1,n.2,()),())) (yc4 a0 a1 a2):=by
 unfold yj0 yc4 ysO
 simp only [yhf,yae,bne]
 cases hb:(ya5 a0 a2).2
 ·cases yq a0<;>cases a0.2.2.1<;>rfl
 ·rw [y1U hb]
  cases a0.2.2.1<;>cases ((ya5 a0 a2).1.2.2.1==a1)<;>rfl
def yzQ:Con:=⟨yeY,ynZ,fun x=>(fun n=>some ((n.1,n.2,()),())) (yc4 x.1 x.2.1 x.2.2.1)⟩
theorem yQV:ConOk Tryz.prog 142 yzQ:=(yNn).mono (fun x r hk h=>(yQc x.1 x.2.1 x.2.2.1 hk).trans h)
end
end
end Go.Tf
