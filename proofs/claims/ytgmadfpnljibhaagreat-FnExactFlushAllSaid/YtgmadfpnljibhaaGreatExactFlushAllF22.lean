/- Functions of the program, and what they come to. -/
import Derived.Test.YtgmadfpnljibhaaGreatExactFlushAllF21
namespace Go.Tf
noncomputable section
open Go.Proofs
set_option synthInstance.maxHeartbeats 400000
set_option synthInstance.maxSize 10000
set_option linter.unusedVariables false
set_option linter.unusedSimpArgs false
set_option maxRecDepth 100000
section
def ygB:Code:=(Tryz.f255.body).getD .skip
def ylK:Env:=zki TT [(257,yf1)] []
theorem yKl:FrOk Tryz.prog ⟨ylK,19,fun _=>none⟩ ygB:=zkp yb yc ⟨ymw,trivial⟩
def yyW:Nat→Option Seg:=fun _=>none
def ybC:Shape:=⟨[(0,false,[.at 1000001000]),(1,false,[.int .i64]),(5,false,[.int .i64])],[],[(1000001000,tL,(.ow .fz))]⟩
def yhj:Shape:=⟨[(0,false,[.at 1000001000]),(1,false,[.int .i64]),(5,false,[.ci .i64 0])],[],[(1000001000,tL,(.ow .fz))]⟩
def yhh:Shape:=⟨[(1,false,[.int .i64])],[],[(1000001000,tL,(.ow .fz))]⟩
def yho:Shape:=⟨[],[],[]⟩
def ymQ (v0 v1:Int) (v2:List (List Int)):Option ((ybC).X ⊕ ((yhh).X ⊕ (yho).X)) :=
 bif (ltb v1 (v2.length:Int)) then
 bif (inb v1 v2.length) then
 let r4:=yR (nth v2 v1 []) v0
 some (.inl ((((),()),(r4.1,()),((IntKind.i64.wrap (v1+1)),()),()),(),((v2.set (v1).toNat r4.2),())))
 else none
 else
 some (.inr (.inl (((v0,()),()),(),(v2,()))))
def yaO (x:(ybC).X):=ymQ x.1.2.1.1 x.1.2.2.1.1 x.2.2.1
def ywf (x:(yhj).X):(ybC).X:=((((),()),(x.1.2.1.1,()),(0,()),()),(),(x.2.2.1,()))
def yw7:Code:=(zdI ygB 64 52).getD .skip
theorem yKb:zdI ygB 64 13=some (.block 0 (.loop yw7)):=by kernel_rfl
theorem yKK (x:(ybC).X):zg7 ⟨ylK,19,yyW⟩ 0 yw7 52 ybC yhh yho x=yaO x:=by kernel_rfl
def ywj (x:(yhj).X):Nat:=18446744073709551616
def ynL (x:(yhj).X):Option ((yhh).X ⊕ (yho).X):=zr yaO (ywj x) (ywf x)
def ywY:Seg:=⟨yhj,yhh,yho,ynL⟩
def yyX:Nat→Option Seg:=fun q=>bif Nat.beq q 13 then some ywY else yyW q
theorem yKm:FrOk Tryz.prog ⟨ylK,19,yyX⟩ ygB:=(yKl).loop (sg:=ywY) ybC ywf (by decide) yKb yaO ywj (by decide) (fun _=>rfl) (fun x r _ h=>h) yKK
abbrev yd0:List Par:= [.mt tLL (.ow (.ow .fz)),.rd tI]
abbrev yl7:List OT:= [⟨false,tI,.fz⟩]
def yjz (a0:List (List Int)) (a1:Int):Option (ResD yl7×MutD yd0) :=
 zjw (ynL ((((),()),(a1,()),((),()),()),(),(a0,()))) (fun y4 =>
 some ((y4.1.1.1,()),(y4.2.2.1,()))) (fun y4 =>
 none)
theorem yQp (x:InD yd0):zjH ⟨ylK,19,yyX⟩ Tryz.f255.results.toList ygB yd0 yl7 x=yjz x.1 x.2.1:=by kernel_rfl
theorem yM0:ConOk Tryz.prog 255 ⟨yd0,yl7,fun x=>yjz x.1 x.2.1⟩:=zkh (yKm) Tryz.func255 (by kernel_rfl) (by kernel_rfl) Tryz.ntmps255.symm (by decide) (fun x r h=>(yQp x).trans h)
def yEX (x:List Int) (k:Int):Int×List Int:=yR x k
def yT (a0:List (List Int)) (a1:Int):Int×List (List Int):=zaX yEX a0 a1
theorem yOR (a0:List (List Int)) (a1:Int) (hk:zi9 yd0 (a0,a1,())):yjz a0 a1=(fun n=>some ((n.1,()),(n.2,()))) (yT a0 a1):=by
 have hb:a0.length * 24≤2 ^ 47:=hk.1.1
 have hl:ynL ((((),()),(a1,()),((),()),()),(),(a0,()))=some (.inl ((((zaX yEX a0 a1).1,()),()),(),((zaX yEX a0 a1).2,()))) :=
  zkl (step:=yaO) a0 ([]:List Int) (fun i k m=>((((),()),(k,()),((i:Int),()),()),(),(m,()))) yEX (fun k m=> .inl (((k,()),()),(),(m,()))) (fun i s m hi hm=>by
   simp only [yaO,ymQ,zjI (show (i:Int) < m.length by omega),List.length_set,zkO hi,Int.toNat_natCast,List.set_set,cond_true,zkP hi,wr (show -9223372036854775808≤(i:Int)+1 by omega) (by omega),Int.natCast_add,Int.natCast_one,zjW]
   rfl) (fun s m hm=>by simp only [yaO,ymQ,hm,zkm (Int.le_refl _),cond_false]) a1 _ (by show _ < 18446744073709551616; omega)
 unfold yjz yT
 rw [hl]; rfl
def yzk:Con:=⟨yd0,yl7,fun x=>(fun n=>some ((n.1,()),(n.2,()))) (yT x.1 x.2.1)⟩
theorem yPj:ConOk Tryz.prog 255 yzk:=(yM0).mono (fun x r hk h=>(yOR x.1 x.2.1 hk).trans h)
end
section
def ykD:Code:=(Tryz.f256.body).getD .skip
def yqW:Env:=zki TT [(257,yf1)] []
theorem yOi:FrOk Tryz.prog ⟨yqW,27,fun _=>none⟩ ykD:=zkp yb yc ⟨ymw,trivial⟩
def yCY:Nat→Option Seg:=fun _=>none
def ydk:Shape:=⟨[(0,false,[.at 1000001000]),(1,false,[.int .i64]),(5,false,[.int .i64])],[],[(1000001000,tW,(.pr .fz (.ow .fz)))]⟩
def yjQ:Shape:=⟨[(0,false,[.at 1000001000]),(1,false,[.int .i64]),(5,false,[.ci .i64 0])],[],[(1000001000,tW,(.pr .fz (.ow .fz)))]⟩
def yjJ:Shape:=⟨[(1,false,[.int .i64])],[],[(1000001000,tW,(.pr .fz (.ow .fz)))]⟩
def yj3:Shape:=⟨[],[],[]⟩
def yqJ (v0 v1:Int) (v2:List dW):Option ((ydk).X ⊕ ((yjJ).X ⊕ (yj3).X)) :=
 bif (ltb v1 (v2.length:Int)) then
 bif (inb v1 v2.length) then
 bif (inb v1 (v2.set (v1).toNat (v0,(nth v2 v1 (0,[])).2)).length) then
 let r4:=yR ((nth (v2.set (v1).toNat (v0,(nth v2 v1 (0,[])).2)) v1 (0,[])).2) (IntKind.i64.wrap (v0+1))
 some (.inl ((((),()),(r4.1,()),((IntKind.i64.wrap (v1+1)),()),()),(),(((v2.set (v1).toNat (v0,(nth v2 v1 (0,[])).2)).set (v1).toNat ((nth (v2.set (v1).toNat (v0,(nth v2 v1 (0,[])).2)) v1 (0,[])).1,r4.2)),())))
 else none
 else none
 else
 some (.inr (.inl (((v0,()),()),(),(v2,()))))
def ybL (x:(ydk).X):=yqJ x.1.2.1.1 x.1.2.2.1.1 x.2.2.1
def yzv (x:(yjQ).X):(ydk).X:=((((),()),(x.1.2.1.1,()),(0,()),()),(),(x.2.2.1,()))
def yBh:Code:=(zdI ykD 64 52).getD .skip
theorem yNM:zdI ykD 64 13=some (.block 0 (.loop yBh)):=by kernel_rfl
theorem yPu (x:(ydk).X):zg7 ⟨yqW,27,yCY⟩ 0 yBh 52 ydk yjJ yj3 x=ybL x:=by kernel_rfl
def yzL (x:(yjQ).X):Nat:=18446744073709551616
def yrY (x:(yjQ).X):Option ((yjJ).X ⊕ (yj3).X):=zr ybL (yzL x) (yzv x)
def yAa:Seg:=⟨yjQ,yjJ,yj3,yrY⟩
def yCZ:Nat→Option Seg:=fun q=>bif Nat.beq q 13 then some yAa else yCY q
theorem yOj:FrOk Tryz.prog ⟨yqW,27,yCZ⟩ ykD:=(yOi).loop (sg:=yAa) ydk yzv (by decide) yNM ybL yzL (by decide) (fun _=>rfl) (fun x r _ h=>h) yPu
abbrev ygr:List Par:= [.mt tWs (.ow (.pr .fz (.ow .fz))),.rd tI]
abbrev yre:List OT:= [⟨false,tI,.fz⟩]
def ymE (a0:List dW) (a1:Int):Option (ResD yre×MutD ygr) :=
 zjw (yrY ((((),()),(a1,()),((),()),()),(),(a0,()))) (fun y4 =>
 some ((y4.1.1.1,()),(y4.2.2.1,()))) (fun y4 =>
 none)
theorem yXI (x:InD ygr):zjH ⟨yqW,27,yCZ⟩ Tryz.f256.results.toList ykD ygr yre x=ymE x.1 x.2.1:=by kernel_rfl
theorem ySo:ConOk Tryz.prog 256 ⟨ygr,yre,fun x=>ymE x.1 x.2.1⟩:=zkh (yOj) Tryz.func256 (by kernel_rfl) (by kernel_rfl) Tryz.ntmps256.symm (by decide) (fun x r h=>(yXI x).trans h)
def yTb (x:dW) (k:Int):Int×dW:=(yG (IntKind.i64.wrap (k+1)) x.2.length,(k,yhq (IntKind.i64.wrap (k+1)) x.2.length))
def ya8 (a0:List (dW)) (a1:Int):Int×List (dW):=zaX yTb a0 a1
theorem yVy (a0:List (dW)) (a1:Int) (hk:zi9 ygr (a0,a1,())):ymE a0 a1=(fun n=>some ((n.1,()),(n.2,()))) (ya8 a0 a1):=by
 have hb:a0.length * 32≤2 ^ 47:=hk.1.1
 have hl:yrY ((((),()),(a1,()),((),()),()),(),(a0,()))=some (.inl ((((zaX yTb a0 a1).1,()),()),(),((zaX yTb a0 a1).2,()))) :=
  zkl (step:=ybL) a0 ((0,[]):dW) (fun i k m=>((((),()),(k,()),((i:Int),()),()),(),(m,()))) yTb (fun k m=> .inl (((k,()),()),(),(m,()))) (fun i s m hi hm=>by
   simp only [ybL,yqJ,zjI (show (i:Int) < m.length by omega),List.length_set,zkO hi,Int.toNat_natCast,List.set_set,cond_true,zkP hi,wr (show -9223372036854775808≤(i:Int)+1 by omega) (by omega),Int.natCast_add,Int.natCast_one,zjW]
   rfl) (fun s m hm=>by simp only [ybL,yqJ,hm,zkm (Int.le_refl _),cond_false]) a1 _ (by show _ < 18446744073709551616; omega)
 unfold ymE ya8
 rw [hl]; rfl
def yDE:Con:=⟨ygr,yre,fun x=>(fun n=>some ((n.1,()),(n.2,()))) (ya8 x.1 x.2.1)⟩
theorem yWu:ConOk Tryz.prog 256 yDE:=(ySo).mono (fun x r hk h=>(yVy x.1 x.2.1 hk).trans h)
end
section
def yh9:Code:=(Tryz.f195.body).getD .skip
def yor:Env:=zki TT [(255,yzk),(256,yDE),(257,yf1)] []
theorem yMi:FrOk Tryz.prog ⟨yor,43,fun _=>none⟩ yh9:=zkp yb yc ⟨yPj,yWu,ymw,trivial⟩
def yA2:Nat→Option Seg:=fun _=>none
def ycq:Shape:=⟨[(0,false,[.at 1000001000]),(1,false,[.int .i64]),(5,false,[.int .i64])],[],[(1000001000,tM,(.pr (.ow (.ow .fz)) (.pr (.ow (.pr .fz (.ow .fz))) (.pr .fz (.ow .fz)))))]⟩
def yiI:Shape:=⟨[(0,false,[.at 1000001000]),(1,false,[.int .i64]),(5,false,[.ci .i64 0])],[],[(1000001000,tM,(.pr (.ow (.ow .fz)) (.pr (.ow (.pr .fz (.ow .fz))) (.pr .fz (.ow .fz)))))]⟩
def yip:Shape:=⟨[(1,false,[.int .i64])],[],[(1000001000,tM,(.pr (.ow (.ow .fz)) (.pr (.ow (.pr .fz (.ow .fz))) (.pr .fz (.ow .fz)))))]⟩
def yja:Shape:=⟨[],[],[]⟩
def yob (v0 v1:Int) (v2:List dM):Option ((ycq).X ⊕ ((yip).X ⊕ (yja).X)) :=
 bif (ltb v1 (v2.length:Int)) then
 bif (inb v1 v2.length) then
 let r9:=yT ((nth v2 v1 ([],[],false,[])).1) v0
 bif (inb v1 (v2.set (v1).toNat (r9.2,((nth v2 v1 ([],[],false,[])).2).1,(((nth v2 v1 ([],[],false,[])).2).2).1,(((nth v2 v1 ([],[],false,[])).2).2).2)).length) then
 let r11:=ya8 (((nth (v2.set (v1).toNat (r9.2,((nth v2 v1 ([],[],false,[])).2).1,(((nth v2 v1 ([],[],false,[])).2).2).1,(((nth v2 v1 ([],[],false,[])).2).2).2)) v1 ([],[],false,[])).2).1) r9.1
 bif (inb v1 ((v2.set (v1).toNat (r9.2,((nth v2 v1 ([],[],false,[])).2).1,(((nth v2 v1 ([],[],false,[])).2).2).1,(((nth v2 v1 ([],[],false,[])).2).2).2)).set (v1).toNat ((nth (v2.set (v1).toNat (r9.2,((nth v2 v1 ([],[],false,[])).2).1,(((nth v2 v1 ([],[],false,[])).2).2).1,(((nth v2 v1 ([],[],false,[])).2).2).2)) v1 ([],[],false,[])).1,r11.2,(((nth (v2.set (v1).toNat (r9.2,((nth v2 v1 ([],[],false,[])).2).1,(((nth v2 v1 ([],[],false,[])).2).2).1,(((nth v2 v1 ([],[],false,[])).2).2).2)) v1 ([],[],false,[])).2).2).1,(((nth (v2.set (v1).toNat (r9.2,((nth v2 v1 ([],[],false,[])).2).1,(((nth v2 v1 ([],[],false,[])).2).2).1,(((nth v2 v1 ([],[],false,[])).2).2).2)) v1 ([],[],false,[])).2).2).2)).length) then
 let r12:=(((v2.set (v1).toNat (r9.2,((nth v2 v1 ([],[],false,[])).2).1,(((nth v2 v1 ([],[],false,[])).2).2).1,(((nth v2 v1 ([],[],false,[])).2).2).2)).set (v1).toNat ((nth (v2.set (v1).toNat (r9.2,((nth v2 v1 ([],[],false,[])).2).1,(((nth v2 v1 ([],[],false,[])).2).2).1,(((nth v2 v1 ([],[],false,[])).2).2).2)) v1 ([],[],false,[])).1,r11.2,(((nth (v2.set (v1).toNat (r9.2,((nth v2 v1 ([],[],false,[])).2).1,(((nth v2 v1 ([],[],false,[])).2).2).1,(((nth v2 v1 ([],[],false,[])).2).2).2)) v1 ([],[],false,[])).2).2).1,(((nth (v2.set (v1).toNat (r9.2,((nth v2 v1 ([],[],false,[])).2).1,(((nth v2 v1 ([],[],false,[])).2).2).1,(((nth v2 v1 ([],[],false,[])).2).2).2)) v1 ([],[],false,[])).2).2).2)).set (v1).toNat ((nth ((v2.set (v1).toNat (r9.2,((nth v2 v1 ([],[],false,[])).2).1,(((nth v2 v1 ([],[],false,[])).2).2).1,(((nth v2 v1 ([],[],false,[])).2).2).2)).set (v1).toNat ((nth (v2.set (v1).toNat (r9.2,((nth v2 v1 ([],[],false,[])).2).1,(((nth v2 v1 ([],[],false,[])).2).2).1,(((nth v2 v1 ([],[],false,[])).2).2).2)) v1 ([],[],false,[])).1,r11.2,(((nth (v2.set (v1).toNat (r9.2,((nth v2 v1 ([],[],false,[])).2).1,(((nth v2 v1 ([],[],false,[])).2).2).1,(((nth v2 v1 ([],[],false,[])).2).2).2)) v1 ([],[],false,[])).2).2).1,(((nth (v2.set (v1).toNat (r9.2,((nth v2 v1 ([],[],false,[])).2).1,(((nth v2 v1 ([],[],false,[])).2).2).1,(((nth v2 v1 ([],[],false,[])).2).2).2)) v1 ([],[],false,[])).2).2).2)) v1 ([],[],false,[])).1,((nth ((v2.set (v1).toNat (r9.2,((nth v2 v1 ([],[],false,[])).2).1,(((nth v2 v1 ([],[],false,[])).2).2).1,(((nth v2 v1 ([],[],false,[])).2).2).2)).set (v1).toNat ((nth (v2.set (v1).toNat (r9.2,((nth v2 v1 ([],[],false,[])).2).1,(((nth v2 v1 ([],[],false,[])).2).2).1,(((nth v2 v1 ([],[],false,[])).2).2).2)) v1 ([],[],false,[])).1,r11.2,(((nth (v2.set (v1).toNat (r9.2,((nth v2 v1 ([],[],false,[])).2).1,(((nth v2 v1 ([],[],false,[])).2).2).1,(((nth v2 v1 ([],[],false,[])).2).2).2)) v1 ([],[],false,[])).2).2).1,(((nth (v2.set (v1).toNat (r9.2,((nth v2 v1 ([],[],false,[])).2).1,(((nth v2 v1 ([],[],false,[])).2).2).1,(((nth v2 v1 ([],[],false,[])).2).2).2)) v1 ([],[],false,[])).2).2).2)) v1 ([],[],false,[])).2).1,((r11.1.tmod 3)==0),(((nth ((v2.set (v1).toNat (r9.2,((nth v2 v1 ([],[],false,[])).2).1,(((nth v2 v1 ([],[],false,[])).2).2).1,(((nth v2 v1 ([],[],false,[])).2).2).2)).set (v1).toNat ((nth (v2.set (v1).toNat (r9.2,((nth v2 v1 ([],[],false,[])).2).1,(((nth v2 v1 ([],[],false,[])).2).2).1,(((nth v2 v1 ([],[],false,[])).2).2).2)) v1 ([],[],false,[])).1,r11.2,(((nth (v2.set (v1).toNat (r9.2,((nth v2 v1 ([],[],false,[])).2).1,(((nth v2 v1 ([],[],false,[])).2).2).1,(((nth v2 v1 ([],[],false,[])).2).2).2)) v1 ([],[],false,[])).2).2).1,(((nth (v2.set (v1).toNat (r9.2,((nth v2 v1 ([],[],false,[])).2).1,(((nth v2 v1 ([],[],false,[])).2).2).1,(((nth v2 v1 ([],[],false,[])).2).2).2)) v1 ([],[],false,[])).2).2).2)) v1 ([],[],false,[])).2).2).2))
 bif (inb v1 r12.length) then
 let r14:=yR ((((nth r12 v1 ([],[],false,[])).2).2).2) (IntKind.i64.wrap (r11.1+1))
 some (.inl ((((),()),(r14.1,()),((IntKind.i64.wrap (v1+1)),()),()),(),((r12.set (v1).toNat ((nth r12 v1 ([],[],false,[])).1,((nth r12 v1 ([],[],false,[])).2).1,(((nth r12 v1 ([],[],false,[])).2).2).1,r14.2)),())))
 else none
 else none
 else none
 else none
 else
 some (.inr (.inl (((v0,()),()),(),(v2,()))))
def ybj (x:(ycq).X):=yob x.1.2.1.1 x.1.2.2.1.1 x.2.2.1
def yxn (x:(yiI).X):(ycq).X:=((((),()),(x.1.2.1.1,()),(0,()),()),(),(x.2.2.1,()))
def yze:Code:=(zdI yh9 64 52).getD .skip
theorem yLH:zdI yh9 64 13=some (.block 0 (.loop yze)):=by kernel_rfl
theorem yNl (x:(ycq).X):zg7 ⟨yor,43,yA2⟩ 0 yze 52 ycq yip yja x=ybj x:=by kernel_rfl
def yxz (x:(yiI).X):Nat:=18446744073709551616
def ypY (x:(yiI).X):Option ((yip).X ⊕ (yja).X):=zr ybj (yxz x) (yxn x)
def yxP:Seg:=⟨yiI,yip,yja,ypY⟩
def yA3:Nat→Option Seg:=fun q=>bif Nat.beq q 13 then some yxP else yA2 q
theorem yMj:FrOk Tryz.prog ⟨yor,43,yA3⟩ yh9:=(yMi).loop (sg:=yxP) ycq yxn (by decide) yLH ybj yxz (by decide) (fun _=>rfl) (fun x r _ h=>h) yNl
abbrev ye5:List Par:= [.mt tMs (.ow (.pr (.ow (.ow .fz)) (.pr (.ow (.pr .fz (.ow .fz))) (.pr .fz (.ow .fz))))),.rd tI]
abbrev yoL:List OT:= [⟨false,tI,.fz⟩]
def ykq (a0:List dM) (a1:Int):Option (ResD yoL×MutD ye5) :=
 zjw (ypY ((((),()),(a1,()),((),()),()),(),(a0,()))) (fun y14 =>
 some ((y14.1.1.1,()),(y14.2.2.1,()))) (fun y14 =>
 none)
theorem yT9 (x:InD ye5):zjH ⟨yor,43,yA3⟩ Tryz.f195.results.toList yh9 ye5 yoL x=ykq x.1 x.2.1:=by kernel_rfl
theorem yO7:ConOk Tryz.prog 195 ⟨ye5,yoL,fun x=>ykq x.1 x.2.1⟩:=zkh (yMj) Tryz.func195 (by kernel_rfl) (by kernel_rfl) Tryz.ntmps195.symm (by decide) (fun x r h=>(yT9 x).trans h)
def yCH (x:dM) (k:Int):Int×dM:=((yR x.2.2.2 (IntKind.i64.wrap ((ya8 x.2.1 (yT x.1 k).1).1+1))).1,((yT x.1 k).2,(ya8 x.2.1 (yT x.1 k).1).2,((ya8 x.2.1 (yT x.1 k).1).1.tmod 3==0),(yR x.2.2.2 (IntKind.i64.wrap ((ya8 x.2.1 (yT x.1 k).1).1+1))).2))
def yaI (a0:List (dM)) (a1:Int):Int×List (dM):=zaX yCH a0 a1
theorem yR3 (a0:List (dM)) (a1:Int) (hk:zi9 ye5 (a0,a1,())):ykq a0 a1=(fun n=>some ((n.1,()),(n.2,()))) (yaI a0 a1):=by
 have hb:a0.length * 80≤2 ^ 47:=hk.1.1
 have hl:ypY ((((),()),(a1,()),((),()),()),(),(a0,()))=some (.inl ((((zaX yCH a0 a1).1,()),()),(),((zaX yCH a0 a1).2,()))) :=
  zkl (step:=ybj) a0 (([],[],false,[]):dM) (fun i k m=>((((),()),(k,()),((i:Int),()),()),(),(m,()))) yCH (fun k m=> .inl (((k,()),()),(),(m,()))) (fun i s m hi hm=>by
   simp only [ybj,yob,zjI (show (i:Int) < m.length by omega),List.length_set,zkO hi,Int.toNat_natCast,List.set_set,cond_true,zkP hi,wr (show -9223372036854775808≤(i:Int)+1 by omega) (by omega),Int.natCast_add,Int.natCast_one,zjW]
   rfl) (fun s m hm=>by simp only [ybj,yob,hm,zkm (Int.le_refl _),cond_false]) a1 _ (by show _ < 18446744073709551616; omega)
 unfold ykq yaI
 rw [hl]; rfl
def yBy:Con:=⟨ye5,yoL,fun x=>(fun n=>some ((n.1,()),(n.2,()))) (yaI x.1 x.2.1)⟩
theorem ySJ:ConOk Tryz.prog 195 yBy:=(yO7).mono (fun x r hk h=>(yR3 x.1 x.2.1 hk).trans h)
end
section
def yh7:Code:=(Tryz.f196.body).getD .skip
def yop:Env:=zki TT [(257,yf1)] []
theorem yMe:FrOk Tryz.prog ⟨yop,27,fun _=>none⟩ yh7:=zkp yb yc ⟨ymw,trivial⟩
def yAY:Nat→Option Seg:=fun _=>none
def yco:Shape:=⟨[(0,false,[.at 1000001000]),(1,false,[.int .i64]),(5,false,[.int .i64])],[],[(1000001000,tW,(.pr .fz (.ow .fz)))]⟩
def yiG:Shape:=⟨[(0,false,[.at 1000001000]),(1,false,[.int .i64]),(5,false,[.ci .i64 0])],[],[(1000001000,tW,(.pr .fz (.ow .fz)))]⟩
def yin:Shape:=⟨[(1,false,[.int .i64])],[],[(1000001000,tW,(.pr .fz (.ow .fz)))]⟩
def yi8:Shape:=⟨[],[],[]⟩
def yn9 (v0 v1:Int) (v2:List dW):Option ((yco).X ⊕ ((yin).X ⊕ (yi8).X)) :=
 bif (ltb v1 (v2.length:Int)) then
 bif (inb v1 v2.length) then
 bif (inb v1 (v2.set (v1).toNat (v0,(nth v2 v1 (0,[])).2)).length) then
 let r4:=yR ((nth (v2.set (v1).toNat (v0,(nth v2 v1 (0,[])).2)) v1 (0,[])).2) (IntKind.i64.wrap (v0+1))
 some (.inl ((((),()),(r4.1,()),((IntKind.i64.wrap (v1+1)),()),()),(),(((v2.set (v1).toNat (v0,(nth v2 v1 (0,[])).2)).set (v1).toNat ((nth (v2.set (v1).toNat (v0,(nth v2 v1 (0,[])).2)) v1 (0,[])).1,r4.2)),())))
 else none
 else none
 else
 some (.inr (.inl (((v0,()),()),(),(v2,()))))
def ybh (x:(yco).X):=yn9 x.1.2.1.1 x.1.2.2.1.1 x.2.2.1
def yxl (x:(yiG).X):(yco).X:=((((),()),(x.1.2.1.1,()),(0,()),()),(),(x.2.2.1,()))
def yzc:Code:=(zdI yh7 64 52).getD .skip
theorem yLF:zdI yh7 64 13=some (.block 0 (.loop yzc)):=by kernel_rfl
theorem yNj (x:(yco).X):zg7 ⟨yop,27,yAY⟩ 0 yzc 52 yco yin yi8 x=ybh x:=by kernel_rfl
def yxx (x:(yiG).X):Nat:=18446744073709551616
def ypW (x:(yiG).X):Option ((yin).X ⊕ (yi8).X):=zr ybh (yxx x) (yxl x)
def yxN:Seg:=⟨yiG,yin,yi8,ypW⟩
def yAZ:Nat→Option Seg:=fun q=>bif Nat.beq q 13 then some yxN else yAY q
theorem yMf:FrOk Tryz.prog ⟨yop,27,yAZ⟩ yh7:=(yMe).loop (sg:=yxN) yco yxl (by decide) yLF ybh yxx (by decide) (fun _=>rfl) (fun x r _ h=>h) yNj
abbrev ye3:List Par:= [.mt tWs (.ow (.pr .fz (.ow .fz))),.rd tI]
abbrev yoJ:List OT:= [⟨false,tI,.fz⟩]
def yko (a0:List dW) (a1:Int):Option (ResD yoJ×MutD ye3) :=
 zjw (ypW ((((),()),(a1,()),((),()),()),(),(a0,()))) (fun y4 =>
 some ((y4.1.1.1,()),(y4.2.2.1,()))) (fun y4 =>
 none)
theorem yT7 (x:InD ye3):zjH ⟨yop,27,yAZ⟩ Tryz.f196.results.toList yh7 ye3 yoJ x=yko x.1 x.2.1:=by kernel_rfl
theorem yO5:ConOk Tryz.prog 196 ⟨ye3,yoJ,fun x=>yko x.1 x.2.1⟩:=zkh (yMf) Tryz.func196 (by kernel_rfl) (by kernel_rfl) Tryz.ntmps196.symm (by decide) (fun x r h=>(yT7 x).trans h)
def yI6 (x:dW) (k:Int):Int×dW:=(yG (IntKind.i64.wrap (k+1)) x.2.length,(k,yhq (IntKind.i64.wrap (k+1)) x.2.length))
def yfi (a0:List (dW)) (a1:Int):Int×List (dW):=zaX yI6 a0 a1
theorem yR1 (a0:List (dW)) (a1:Int) (hk:zi9 ye3 (a0,a1,())):yko a0 a1=(fun n=>some ((n.1,()),(n.2,()))) (yfi a0 a1):=by
 have hb:a0.length * 32≤2 ^ 47:=hk.1.1
 have hl:ypW ((((),()),(a1,()),((),()),()),(),(a0,()))=some (.inl ((((zaX yI6 a0 a1).1,()),()),(),((zaX yI6 a0 a1).2,()))) :=
  zkl (step:=ybh) a0 ((0,[]):dW) (fun i k m=>((((),()),(k,()),((i:Int),()),()),(),(m,()))) yI6 (fun k m=> .inl (((k,()),()),(),(m,()))) (fun i s m hi hm=>by
   simp only [ybh,yn9,zjI (show (i:Int) < m.length by omega),List.length_set,zkO hi,Int.toNat_natCast,List.set_set,cond_true,zkP hi,wr (show -9223372036854775808≤(i:Int)+1 by omega) (by omega),Int.natCast_add,Int.natCast_one,zjW]
   rfl) (fun s m hm=>by simp only [ybh,yn9,hm,zkm (Int.le_refl _),cond_false]) a1 _ (by show _ < 18446744073709551616; omega)
 unfold yko yfi
 rw [hl]; rfl
def yBx:Con:=⟨ye3,yoJ,fun x=>(fun n=>some ((n.1,()),(n.2,()))) (yfi x.1 x.2.1)⟩
theorem ySI:ConOk Tryz.prog 196 yBx:=(yO5).mono (fun x r hk h=>(yR1 x.1 x.2.1 hk).trans h)
end
section
def yG6:Code:=(Tryz.f92.body).getD .skip
def yHF:Env:=zki TT [(195,yBy),(196,yBx)] []
theorem yOh:FrOk Tryz.prog ⟨yHF,14,fun _=>none⟩ yG6:=zkp yb yc ⟨ySJ,ySI,trivial⟩
def yPX:Nat→Option Seg:=fun _=>none
abbrev ykV:List Par:= [.mt tA (.pr .fz (.pr (.pr .fz .fz) (.pr (.ow (.pr (.ow (.ow .fz)) (.pr (.ow (.pr .fz (.ow .fz))) (.pr .fz (.ow .fz))))) (.pr .fz (.pr .fz (.pr .fz (.pr .fz (.pr .fz (.pr (.ow (.pr .fz (.ow .fz))) (.pr .fz (.pr .fz .fz))))))))))),.rd tI]
abbrev yrd:List OT:= [⟨false,tI,.fz⟩]
def yuv (a0:dA) (a1:Int):Option (ResD yrd×MutD ykV) :=
 let r1:=yaI a0.2.2.1 a1
 let r2:=yfi a0.2.2.2.2.2.2.2.2.1 r1.1
 some ((r2.1,()),((a0.1,a0.2.1,r1.2,a0.2.2.2.1,a0.2.2.2.2.1,a0.2.2.2.2.2.1,a0.2.2.2.2.2.2.1,a0.2.2.2.2.2.2.2.1,r2.2,a0.2.2.2.2.2.2.2.2.2),()))
theorem yXH (x:InD ykV):zjH ⟨yHF,14,yPX⟩ Tryz.f92.results.toList yG6 ykV yrd x=yuv x.1 x.2.1:=by kernel_rfl
theorem ySn:ConOk Tryz.prog 92 ⟨ykV,yrd,fun x=>yuv x.1 x.2.1⟩:=zkh (yOh) Tryz.func92 (by kernel_rfl) (by kernel_rfl) Tryz.ntmps92.symm (by decide) (fun x r h=>(yXH x).trans h)
def yy (a0:dA) (a1:Int):Int×dA :=
 let r1:=yaI a0.2.2.1 a1
 let r2:=yfi a0.2.2.2.2.2.2.2.2.1 r1.1
 (r2.1,(a0.1,a0.2.1,r1.2,a0.2.2.2.1,a0.2.2.2.2.1,a0.2.2.2.2.2.1,a0.2.2.2.2.2.2.1,a0.2.2.2.2.2.2.2.1,r2.2,a0.2.2.2.2.2.2.2.2.2))
def yt6:Con:=⟨ykV,yrd,fun x=>(fun n=>some ((n.1,()),(n.2,()))) (yy x.1 x.2.1)⟩
theorem yVx (a0:dA) (a1:Int):yuv a0 a1=(fun n=>some ((n.1,()),(n.2,()))) (yy a0 a1):=zkS (p:=fun (n:Int×dA)=>((n.1,()),(n.2,()))) rfl
theorem yGK:ConOk Tryz.prog 92 yt6:=(ySn).mono (fun x r _ h=>(yVx x.1 x.2.1).trans h)
end
section
def yh5:Code:=(Tryz.f260.body).getD .skip
def yon:Env:=zki TT [] []
theorem yMa:FrOk Tryz.prog ⟨yon,21,fun _=>none⟩ yh5:=zkp yb yc trivial
def yAU:Nat→Option Seg:=fun _=>none
def ycm:Shape:=⟨[(0,false,[.br tI]),(1,false,[.int .i64]),(5,false,[.int .i64])],[],[]⟩
def yiE:Shape:=⟨[(0,false,[.br tI]),(1,false,[.int .i64]),(5,false,[.ci .i64 0])],[],[]⟩
def yil:Shape:=⟨[(1,false,[.int .i64])],[],[]⟩
def yi6:Shape:=⟨[(4,false,[.int .i64])],[],[]⟩
def yn7 (v0:List Int) (v1 v2:Int):Option ((ycm).X ⊕ ((yil).X ⊕ (yi6).X)) :=
 bif (ltb v2 (v0.length:Int)) then
 bif (inb v2 v0.length) then
 bif ((nth v0 v2 0) !=v1) then
 some (.inr (.inr ((((-1),()),()),(),())))
 else
 some (.inl (((v0,()),((IntKind.i64.wrap (v1+1)),()),((IntKind.i64.wrap (v2+1)),()),()),(),()))
 else none
 else
 some (.inr (.inl (((v1,()),()),(),())))
def ybf (x:(ycm).X):=yn7 x.1.1.1 x.1.2.1.1 x.1.2.2.1.1
def yxj (x:(yiE).X):(ycm).X:=(((x.1.1.1,()),(x.1.2.1.1,()),(0,()),()),(),())
def yza:Code:=(zdI yh5 64 52).getD .skip
theorem yLD:zdI yh5 64 13=some (.block 0 (.loop yza)):=by kernel_rfl
theorem yNh (x:(ycm).X):zg7 ⟨yon,21,yAU⟩ 0 yza 52 ycm yil yi6 x=ybf x:=by kernel_rfl
def yxv (x:(yiE).X):Nat:=18446744073709551616
def ypU (x:(yiE).X):Option ((yil).X ⊕ (yi6).X):=zr ybf (yxv x) (yxj x)
def yxL:Seg:=⟨yiE,yil,yi6,ypU⟩
def yAV:Nat→Option Seg:=fun q=>bif Nat.beq q 13 then some yxL else yAU q
theorem yMb:FrOk Tryz.prog ⟨yon,21,yAV⟩ yh5:=(yMa).loop (sg:=yxL) ycm yxj (by decide) yLD ybf yxv (by decide) (fun _=>rfl) (fun x r _ h=>h) yNh
abbrev ye1:List Par:= [.rd tL,.rd tI]
abbrev yoH:List OT:= [⟨false,tI,.fz⟩]
def ykm (a0:List Int) (a1:Int):Option (ResD yoH×MutD ye1) :=
 zjw (ypU (((a0,()),(a1,()),((),()),()),(),())) (fun y0 =>
 some ((y0.1.1.1,()),())) (fun y0 =>
 some ((y0.1.1.1,()),()))
theorem yT5 (x:InD ye1):zjH ⟨yon,21,yAV⟩ Tryz.f260.results.toList yh5 ye1 yoH x=ykm x.1 x.2.1:=by kernel_rfl
theorem yO3:ConOk Tryz.prog 260 ⟨ye1,yoH,fun x=>ykm x.1 x.2.1⟩:=zkh (yMb) Tryz.func260 (by kernel_rfl) (by kernel_rfl) Tryz.ntmps260.symm (by decide) (fun x r h=>(yT5 x).trans h)
def yl (a0:List Int) (a1:Int):Int:=bif (List.range a0.length).any (fun i=>a0.getD i 0 !=yG a1 i) then -1 else yG a1 a0.length
theorem yRZ (a0:List Int) (a1:Int) (hk:zi9 ye1 (a0,a1,())):ykm a0 a1=(fun n=>some ((n,()),())) (yl a0 a1):=by
 have hb:a0.length * 8≤2 ^ 47:=hk.1.1
 have hl:ypU (((a0,()),(a1,()),((),()),()),(),())=some (bif (List.range a0.length).any (fun i=>a0.getD i 0 !=yG a1 i) then .inr ((((-1),()),()),(),()) else .inl (((yG a1 a0.length,()),()),(),())) :=
  zf4 (step:=ybf) (fun i=>(((a0,()),(yG a1 i,()),((i:Int),()),()),(),())) a0.length (fun i=>a0.getD i 0 !=yG a1 i) _ _ (fun i hi=>by
   simp only [ybf,yn7,zkO hi,zjW,zjI (show (i:Int) < a0.length by omega),cond_true,wr (show -9223372036854775808≤(i:Int)+1 by omega) (by omega),Int.natCast_add,Int.natCast_one,yEo]
   cases (a0.getD i 0 !=yG a1 i)<;>rfl) (by simp only [ybf,yn7,zkm (Int.le_refl _),cond_false]) _ (by show _ < 18446744073709551616; omega)
 unfold ykm yl
 rw [hl]
 cases (List.range a0.length).any (fun i=>a0.getD i 0 !=yG a1 i)<;>rfl
theorem yZY: ∀ (n i:Nat) (k:Int),i < n→(yhq k n).getD i 0=yG k i
 | n+1,0,k,_=>rfl
 | n+1,i+1,k,h=>yZY n i _ (by omega)
theorem yCA (n:Nat) (k:Int):yl (yhq k n) k=yG k n:=by
 unfold yl
 rw [yuY]
 have:(List.range n).any (fun i=>(yhq k n).getD i 0 !=yG k i)=false:=by
  rw [List.any_eq_false]
  intro i hi
  rw [yZY n i k (List.mem_range.1 hi)]
  simp
 rw [this]; rfl
def yf0:Con:=⟨ye1,yoH,fun x=>(fun n=>some ((n,()),())) (yl x.1 x.2.1)⟩
theorem ymv:ConOk Tryz.prog 260 yf0:=(yO3).mono (fun x r hk h=>(yRZ x.1 x.2.1 hk).trans h)
end
end
end Go.Tf
