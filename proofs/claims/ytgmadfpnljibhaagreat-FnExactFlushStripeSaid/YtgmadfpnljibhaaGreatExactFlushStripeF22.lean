/- Functions of the program, and what they come to. -/
import Derived.Test.YtgmadfpnljibhaaGreatExactFlushStripeF21
namespace Go.Tf
noncomputable section
open Go.Proofs
set_option synthInstance.maxHeartbeats 400000
set_option synthInstance.maxSize 10000
set_option linter.unusedVariables false
set_option linter.unusedSimpArgs false
set_option maxRecDepth 100000
section
def ygk:Code:=(Tryz.f255.body).getD .skip
def ylj:Env:=zki TT [(257,yfL)] []
theorem yI2:FrOk Tryz.prog ⟨ylj,19,fun _=>none⟩ ygk:=zkp yb yc ⟨yl3,trivial⟩
def yx2:Nat→Option Seg:=fun _=>none
def ybr:Shape:=⟨[(0,false,[.at 1000001000]),(1,false,[.int .i64]),(5,false,[.int .i64])],[],[(1000001000,tL,(.ow .fz))]⟩
def yg3:Shape:=⟨[(0,false,[.at 1000001000]),(1,false,[.int .i64]),(5,false,[.ci .i64 0])],[],[(1000001000,tL,(.ow .fz))]⟩
def yg1:Shape:=⟨[(1,false,[.int .i64])],[],[(1000001000,tL,(.ow .fz))]⟩
def yg8:Shape:=⟨[],[],[]⟩
def ymn (v0 v1:Int) (v2:List (List Int)):Option ((ybr).X ⊕ ((yg1).X ⊕ (yg8).X)) :=
 bif (ltb v1 (v2.length:Int)) then
 bif (inb v1 v2.length) then
 let r4:=yQ (nth v2 v1 []) v0
 some (.inl ((((),()),(r4.1,()),((IntKind.i64.wrap (v1+1)),()),()),(),((v2.set (v1).toNat r4.2),())))
 else none
 else
 some (.inr (.inl (((v0,()),()),(),(v2,()))))
def yaI (x:(ybr).X):=ymn x.1.2.1.1 x.1.2.2.1.1 x.2.2.1
def yvx (x:(yg3).X):(ybr).X:=((((),()),(x.1.2.1.1,()),(0,()),()),(),(x.2.2.1,()))
def ywk:Code:=(zdI ygk 64 52).getD .skip
theorem yIS:zdI ygk 64 13=some (.block 0 (.loop ywk)):=by kernel_rfl
theorem yJr (x:(ybr).X):zg7 ⟨ylj,19,yx2⟩ 0 ywk 52 ybr yg1 yg8 x=yaI x:=by kernel_rfl
def yvB (x:(yg3).X):Nat:=18446744073709551616
def ynk (x:(yg3).X):Option ((yg1).X ⊕ (yg8).X):=zr yaI (yvB x) (yvx x)
def ywc:Seg:=⟨yg3,yg1,yg8,ynk⟩
def yx3:Nat→Option Seg:=fun q=>bif Nat.beq q 13 then some ywc else yx2 q
theorem yI3:FrOk Tryz.prog ⟨ylj,19,yx3⟩ ygk:=(yI2).loop (sg:=ywc) ybr yvx (by decide) yIS yaI yvB (by decide) (fun _=>rfl) (fun x r _ h=>h) yJr
abbrev ydR:List Par:= [.mt tLL (.ow (.ow .fz)),.rd tI]
abbrev ylG:List OT:= [⟨false,tI,.fz⟩]
def yjg (a0:List (List Int)) (a1:Int):Option (ResD ylG×MutD ydR) :=
 zjw (ynk ((((),()),(a1,()),((),()),()),(),(a0,()))) (fun y4 =>
 some ((y4.1.1.1,()),(y4.2.2.1,()))) (fun y4 =>
 none)
theorem yOX (x:InD ydR):zjH ⟨ylj,19,yx3⟩ Tryz.f255.results.toList ygk ydR ylG x=yjg x.1 x.2.1:=by kernel_rfl
theorem yLE:ConOk Tryz.prog 255 ⟨ydR,ylG,fun x=>yjg x.1 x.2.1⟩:=zkh (yI3) Tryz.func255 (by kernel_rfl) (by kernel_rfl) Tryz.ntmps255.symm (by decide) (fun x r h=>(yOX x).trans h)
def yDW (x:List Int) (k:Int):Int×List Int:=yQ x k
def yS (a0:List (List Int)) (a1:Int):Int×List (List Int):=zaX yDW a0 a1
theorem yNs (a0:List (List Int)) (a1:Int) (hk:zi9 ydR (a0,a1,())):yjg a0 a1=(fun n=>some ((n.1,()),(n.2,()))) (yS a0 a1):=by
 have hb:a0.length * 24≤2 ^ 47:=hk.1.1
 have hl:ynk ((((),()),(a1,()),((),()),()),(),(a0,()))=some (.inl ((((zaX yDW a0 a1).1,()),()),(),((zaX yDW a0 a1).2,()))) :=
  zkl (step:=yaI) a0 ([]:List Int) (fun i k m=>((((),()),(k,()),((i:Int),()),()),(),(m,()))) yDW (fun k m=> .inl (((k,()),()),(),(m,()))) (fun i s m hi hm=>by
   simp only [yaI,ymn,zjI (show (i:Int) < m.length by omega),List.length_set,zkO hi,Int.toNat_natCast,List.set_set,cond_true,zkP hi,wr (show -9223372036854775808≤(i:Int)+1 by omega) (by omega),Int.natCast_add,Int.natCast_one,zjW]
   rfl) (fun s m hm=>by simp only [yaI,ymn,hm,zkm (Int.le_refl _),cond_false]) a1 _ (by show _ < 18446744073709551616; omega)
 unfold yjg yS
 rw [hl]; rfl
def yyp:Con:=⟨ydR,ylG,fun x=>(fun n=>some ((n.1,()),(n.2,()))) (yS x.1 x.2.1)⟩
theorem yNS:ConOk Tryz.prog 255 yyp:=(yLE).mono (fun x r hk h=>(yNs x.1 x.2.1 hk).trans h)
end
section
def ykh:Code:=(Tryz.f256.body).getD .skip
def yqn:Env:=zki TT [(257,yfL)] []
theorem yMT:FrOk Tryz.prog ⟨yqn,27,fun _=>none⟩ ykh:=zkp yb yc ⟨yl3,trivial⟩
def yBW:Nat→Option Seg:=fun _=>none
def yc9:Shape:=⟨[(0,false,[.at 1000001000]),(1,false,[.int .i64]),(5,false,[.int .i64])],[],[(1000001000,tW,(.pr .fz (.ow .fz)))]⟩
def yjw:Shape:=⟨[(0,false,[.at 1000001000]),(1,false,[.int .i64]),(5,false,[.ci .i64 0])],[],[(1000001000,tW,(.pr .fz (.ow .fz)))]⟩
def yjp:Shape:=⟨[(1,false,[.int .i64])],[],[(1000001000,tW,(.pr .fz (.ow .fz)))]⟩
def yjJ:Shape:=⟨[],[],[]⟩
def yqa (v0 v1:Int) (v2:List dW):Option ((yc9).X ⊕ ((yjp).X ⊕ (yjJ).X)) :=
 bif (ltb v1 (v2.length:Int)) then
 bif (inb v1 v2.length) then
 bif (inb v1 (v2.set (v1).toNat (v0,(nth v2 v1 (0,[])).2)).length) then
 let r4:=yQ ((nth (v2.set (v1).toNat (v0,(nth v2 v1 (0,[])).2)) v1 (0,[])).2) (IntKind.i64.wrap (v0+1))
 some (.inl ((((),()),(r4.1,()),((IntKind.i64.wrap (v1+1)),()),()),(),(((v2.set (v1).toNat (v0,(nth v2 v1 (0,[])).2)).set (v1).toNat ((nth (v2.set (v1).toNat (v0,(nth v2 v1 (0,[])).2)) v1 (0,[])).1,r4.2)),())))
 else none
 else none
 else
 some (.inr (.inl (((v0,()),()),(),(v2,()))))
def ybA (x:(yc9).X):=yqa x.1.2.1.1 x.1.2.2.1.1 x.2.2.1
def yyz (x:(yjw).X):(yc9).X:=((((),()),(x.1.2.1.1,()),(0,()),()),(),(x.2.2.1,()))
def yAj:Code:=(zdI ykh 64 52).getD .skip
theorem yMn:zdI ykh 64 13=some (.block 0 (.loop yAj)):=by kernel_rfl
theorem yN3 (x:(yc9).X):zg7 ⟨yqn,27,yBW⟩ 0 yAj 52 yc9 yjp yjJ x=ybA x:=by kernel_rfl
def yyP (x:(yjw).X):Nat:=18446744073709551616
def yro (x:(yjw).X):Option ((yjp).X ⊕ (yjJ).X):=zr ybA (yyP x) (yyz x)
def yze:Seg:=⟨yjw,yjp,yjJ,yro⟩
def yBX:Nat→Option Seg:=fun q=>bif Nat.beq q 13 then some yze else yBW q
theorem yMU:FrOk Tryz.prog ⟨yqn,27,yBX⟩ ykh:=(yMT).loop (sg:=yze) yc9 yyz (by decide) yMn ybA yyP (by decide) (fun _=>rfl) (fun x r _ h=>h) yN3
abbrev ygb:List Par:= [.mt tWs (.ow (.pr .fz (.ow .fz))),.rd tI]
abbrev yqF:List OT:= [⟨false,tI,.fz⟩]
def ymb (a0:List dW) (a1:Int):Option (ResD yqF×MutD ygb) :=
 zjw (yro ((((),()),(a1,()),((),()),()),(),(a0,()))) (fun y4 =>
 some ((y4.1.1.1,()),(y4.2.2.1,()))) (fun y4 =>
 none)
theorem yV3 (x:InD ygb):zjH ⟨yqn,27,yBX⟩ Tryz.f256.results.toList ykh ygb yqF x=ymb x.1 x.2.1:=by kernel_rfl
theorem yQU:ConOk Tryz.prog 256 ⟨ygb,yqF,fun x=>ymb x.1 x.2.1⟩:=zkh (yMU) Tryz.func256 (by kernel_rfl) (by kernel_rfl) Tryz.ntmps256.symm (by decide) (fun x r h=>(yV3 x).trans h)
def yRF (x:dW) (k:Int):Int×dW:=(yE (IntKind.i64.wrap (k+1)) x.2.length,(k,yha (IntKind.i64.wrap (k+1)) x.2.length))
def yaZ (a0:List (dW)) (a1:Int):Int×List (dW):=zaX yRF a0 a1
theorem yTR (a0:List (dW)) (a1:Int) (hk:zi9 ygb (a0,a1,())):ymb a0 a1=(fun n=>some ((n.1,()),(n.2,()))) (yaZ a0 a1):=by
 have hb:a0.length * 32≤2 ^ 47:=hk.1.1
 have hl:yro ((((),()),(a1,()),((),()),()),(),(a0,()))=some (.inl ((((zaX yRF a0 a1).1,()),()),(),((zaX yRF a0 a1).2,()))) :=
  zkl (step:=ybA) a0 ((0,[]):dW) (fun i k m=>((((),()),(k,()),((i:Int),()),()),(),(m,()))) yRF (fun k m=> .inl (((k,()),()),(),(m,()))) (fun i s m hi hm=>by
   simp only [ybA,yqa,zjI (show (i:Int) < m.length by omega),List.length_set,zkO hi,Int.toNat_natCast,List.set_set,cond_true,zkP hi,wr (show -9223372036854775808≤(i:Int)+1 by omega) (by omega),Int.natCast_add,Int.natCast_one,zjW]
   rfl) (fun s m hm=>by simp only [ybA,yqa,hm,zkm (Int.le_refl _),cond_false]) a1 _ (by show _ < 18446744073709551616; omega)
 unfold ymb yaZ
 rw [hl]; rfl
def yCD:Con:=⟨ygb,yqF,fun x=>(fun n=>some ((n.1,()),(n.2,()))) (yaZ x.1 x.2.1)⟩
theorem yUP:ConOk Tryz.prog 256 yCD:=(yQU).mono (fun x r hk h=>(yTR x.1 x.2.1 hk).trans h)
end
section
def yhR:Code:=(Tryz.f195.body).getD .skip
def ynX:Env:=zki TT [(255,yyp),(256,yCD),(257,yfL)] []
theorem yKX:FrOk Tryz.prog ⟨ynX,43,fun _=>none⟩ yhR:=zkp yb yc ⟨yNS,yUP,yl3,trivial⟩
def yz4:Nat→Option Seg:=fun _=>none
def ycf:Shape:=⟨[(0,false,[.at 1000001000]),(1,false,[.int .i64]),(5,false,[.int .i64])],[],[(1000001000,tM,(.pr (.ow (.ow .fz)) (.pr (.ow (.pr .fz (.ow .fz))) (.pr .fz (.ow .fz)))))]⟩
def yiq:Shape:=⟨[(0,false,[.at 1000001000]),(1,false,[.int .i64]),(5,false,[.ci .i64 0])],[],[(1000001000,tM,(.pr (.ow (.ow .fz)) (.pr (.ow (.pr .fz (.ow .fz))) (.pr .fz (.ow .fz)))))]⟩
def yh7:Shape:=⟨[(1,false,[.int .i64])],[],[(1000001000,tM,(.pr (.ow (.ow .fz)) (.pr (.ow (.pr .fz (.ow .fz))) (.pr .fz (.ow .fz)))))]⟩
def yiR:Shape:=⟨[],[],[]⟩
def ynI (v0 v1:Int) (v2:List dM):Option ((ycf).X ⊕ ((yh7).X ⊕ (yiR).X)) :=
 bif (ltb v1 (v2.length:Int)) then
 bif (inb v1 v2.length) then
 let r9:=yS ((nth v2 v1 ([],[],false,[])).1) v0
 bif (inb v1 (v2.set (v1).toNat (r9.2,((nth v2 v1 ([],[],false,[])).2).1,(((nth v2 v1 ([],[],false,[])).2).2).1,(((nth v2 v1 ([],[],false,[])).2).2).2)).length) then
 let r11:=yaZ (((nth (v2.set (v1).toNat (r9.2,((nth v2 v1 ([],[],false,[])).2).1,(((nth v2 v1 ([],[],false,[])).2).2).1,(((nth v2 v1 ([],[],false,[])).2).2).2)) v1 ([],[],false,[])).2).1) r9.1
 bif (inb v1 ((v2.set (v1).toNat (r9.2,((nth v2 v1 ([],[],false,[])).2).1,(((nth v2 v1 ([],[],false,[])).2).2).1,(((nth v2 v1 ([],[],false,[])).2).2).2)).set (v1).toNat ((nth (v2.set (v1).toNat (r9.2,((nth v2 v1 ([],[],false,[])).2).1,(((nth v2 v1 ([],[],false,[])).2).2).1,(((nth v2 v1 ([],[],false,[])).2).2).2)) v1 ([],[],false,[])).1,r11.2,(((nth (v2.set (v1).toNat (r9.2,((nth v2 v1 ([],[],false,[])).2).1,(((nth v2 v1 ([],[],false,[])).2).2).1,(((nth v2 v1 ([],[],false,[])).2).2).2)) v1 ([],[],false,[])).2).2).1,(((nth (v2.set (v1).toNat (r9.2,((nth v2 v1 ([],[],false,[])).2).1,(((nth v2 v1 ([],[],false,[])).2).2).1,(((nth v2 v1 ([],[],false,[])).2).2).2)) v1 ([],[],false,[])).2).2).2)).length) then
 let r12:=(((v2.set (v1).toNat (r9.2,((nth v2 v1 ([],[],false,[])).2).1,(((nth v2 v1 ([],[],false,[])).2).2).1,(((nth v2 v1 ([],[],false,[])).2).2).2)).set (v1).toNat ((nth (v2.set (v1).toNat (r9.2,((nth v2 v1 ([],[],false,[])).2).1,(((nth v2 v1 ([],[],false,[])).2).2).1,(((nth v2 v1 ([],[],false,[])).2).2).2)) v1 ([],[],false,[])).1,r11.2,(((nth (v2.set (v1).toNat (r9.2,((nth v2 v1 ([],[],false,[])).2).1,(((nth v2 v1 ([],[],false,[])).2).2).1,(((nth v2 v1 ([],[],false,[])).2).2).2)) v1 ([],[],false,[])).2).2).1,(((nth (v2.set (v1).toNat (r9.2,((nth v2 v1 ([],[],false,[])).2).1,(((nth v2 v1 ([],[],false,[])).2).2).1,(((nth v2 v1 ([],[],false,[])).2).2).2)) v1 ([],[],false,[])).2).2).2)).set (v1).toNat ((nth ((v2.set (v1).toNat (r9.2,((nth v2 v1 ([],[],false,[])).2).1,(((nth v2 v1 ([],[],false,[])).2).2).1,(((nth v2 v1 ([],[],false,[])).2).2).2)).set (v1).toNat ((nth (v2.set (v1).toNat (r9.2,((nth v2 v1 ([],[],false,[])).2).1,(((nth v2 v1 ([],[],false,[])).2).2).1,(((nth v2 v1 ([],[],false,[])).2).2).2)) v1 ([],[],false,[])).1,r11.2,(((nth (v2.set (v1).toNat (r9.2,((nth v2 v1 ([],[],false,[])).2).1,(((nth v2 v1 ([],[],false,[])).2).2).1,(((nth v2 v1 ([],[],false,[])).2).2).2)) v1 ([],[],false,[])).2).2).1,(((nth (v2.set (v1).toNat (r9.2,((nth v2 v1 ([],[],false,[])).2).1,(((nth v2 v1 ([],[],false,[])).2).2).1,(((nth v2 v1 ([],[],false,[])).2).2).2)) v1 ([],[],false,[])).2).2).2)) v1 ([],[],false,[])).1,((nth ((v2.set (v1).toNat (r9.2,((nth v2 v1 ([],[],false,[])).2).1,(((nth v2 v1 ([],[],false,[])).2).2).1,(((nth v2 v1 ([],[],false,[])).2).2).2)).set (v1).toNat ((nth (v2.set (v1).toNat (r9.2,((nth v2 v1 ([],[],false,[])).2).1,(((nth v2 v1 ([],[],false,[])).2).2).1,(((nth v2 v1 ([],[],false,[])).2).2).2)) v1 ([],[],false,[])).1,r11.2,(((nth (v2.set (v1).toNat (r9.2,((nth v2 v1 ([],[],false,[])).2).1,(((nth v2 v1 ([],[],false,[])).2).2).1,(((nth v2 v1 ([],[],false,[])).2).2).2)) v1 ([],[],false,[])).2).2).1,(((nth (v2.set (v1).toNat (r9.2,((nth v2 v1 ([],[],false,[])).2).1,(((nth v2 v1 ([],[],false,[])).2).2).1,(((nth v2 v1 ([],[],false,[])).2).2).2)) v1 ([],[],false,[])).2).2).2)) v1 ([],[],false,[])).2).1,((r11.1.tmod 3)==0),(((nth ((v2.set (v1).toNat (r9.2,((nth v2 v1 ([],[],false,[])).2).1,(((nth v2 v1 ([],[],false,[])).2).2).1,(((nth v2 v1 ([],[],false,[])).2).2).2)).set (v1).toNat ((nth (v2.set (v1).toNat (r9.2,((nth v2 v1 ([],[],false,[])).2).1,(((nth v2 v1 ([],[],false,[])).2).2).1,(((nth v2 v1 ([],[],false,[])).2).2).2)) v1 ([],[],false,[])).1,r11.2,(((nth (v2.set (v1).toNat (r9.2,((nth v2 v1 ([],[],false,[])).2).1,(((nth v2 v1 ([],[],false,[])).2).2).1,(((nth v2 v1 ([],[],false,[])).2).2).2)) v1 ([],[],false,[])).2).2).1,(((nth (v2.set (v1).toNat (r9.2,((nth v2 v1 ([],[],false,[])).2).1,(((nth v2 v1 ([],[],false,[])).2).2).1,(((nth v2 v1 ([],[],false,[])).2).2).2)) v1 ([],[],false,[])).2).2).2)) v1 ([],[],false,[])).2).2).2))
 bif (inb v1 r12.length) then
 let r14:=yQ ((((nth r12 v1 ([],[],false,[])).2).2).2) (IntKind.i64.wrap (r11.1+1))
 some (.inl ((((),()),(r14.1,()),((IntKind.i64.wrap (v1+1)),()),()),(),((r12.set (v1).toNat ((nth r12 v1 ([],[],false,[])).1,((nth r12 v1 ([],[],false,[])).2).1,(((nth r12 v1 ([],[],false,[])).2).2).1,r14.2)),())))
 else none
 else none
 else none
 else none
 else
 some (.inr (.inl (((v0,()),()),(),(v2,()))))
def ya9 (x:(ycf).X):=ynI x.1.2.1.1 x.1.2.2.1.1 x.2.2.1
def ywz (x:(yiq).X):(ycf).X:=((((),()),(x.1.2.1.1,()),(0,()),()),(),(x.2.2.1,()))
def yyj:Code:=(zdI yhR 64 52).getD .skip
theorem yKn:zdI yhR 64 13=some (.block 0 (.loop yyj)):=by kernel_rfl
theorem yLY (x:(ycf).X):zg7 ⟨ynX,43,yz4⟩ 0 yyj 52 ycf yh7 yiR x=ya9 x:=by kernel_rfl
def ywK (x:(yiq).X):Nat:=18446744073709551616
def ypp (x:(yiq).X):Option ((yh7).X ⊕ (yiR).X):=zr ya9 (ywK x) (ywz x)
def ywX:Seg:=⟨yiq,yh7,yiR,ypp⟩
def yz5:Nat→Option Seg:=fun q=>bif Nat.beq q 13 then some ywX else yz4 q
theorem yKY:FrOk Tryz.prog ⟨ynX,43,yz5⟩ yhR:=(yKX).loop (sg:=ywX) ycf ywz (by decide) yKn ya9 ywK (by decide) (fun _=>rfl) (fun x r _ h=>h) yLY
abbrev yeS:List Par:= [.mt tMs (.ow (.pr (.ow (.ow .fz)) (.pr (.ow (.pr .fz (.ow .fz))) (.pr .fz (.ow .fz))))),.rd tI]
abbrev yog:List OT:= [⟨false,tI,.fz⟩]
def yj5 (a0:List dM) (a1:Int):Option (ResD yog×MutD yeS) :=
 zjw (ypp ((((),()),(a1,()),((),()),()),(),(a0,()))) (fun y14 =>
 some ((y14.1.1.1,()),(y14.2.2.1,()))) (fun y14 =>
 none)
theorem ySC (x:InD yeS):zjH ⟨ynX,43,yz5⟩ Tryz.f195.results.toList yhR yeS yog x=yj5 x.1 x.2.1:=by kernel_rfl
theorem yNH:ConOk Tryz.prog 195 ⟨yeS,yog,fun x=>yj5 x.1 x.2.1⟩:=zkh (yKY) Tryz.func195 (by kernel_rfl) (by kernel_rfl) Tryz.ntmps195.symm (by decide) (fun x r h=>(ySC x).trans h)
def yBG (x:dM) (k:Int):Int×dM:=((yQ x.2.2.2 (IntKind.i64.wrap ((yaZ x.2.1 (yS x.1 k).1).1+1))).1,((yS x.1 k).2,(yaZ x.2.1 (yS x.1 k).1).2,((yaZ x.2.1 (yS x.1 k).1).1.tmod 3==0),(yQ x.2.2.2 (IntKind.i64.wrap ((yaZ x.2.1 (yS x.1 k).1).1+1))).2))
def yaC (a0:List (dM)) (a1:Int):Int×List (dM):=zaX yBG a0 a1
theorem yQA (a0:List (dM)) (a1:Int) (hk:zi9 yeS (a0,a1,())):yj5 a0 a1=(fun n=>some ((n.1,()),(n.2,()))) (yaC a0 a1):=by
 have hb:a0.length * 80≤2 ^ 47:=hk.1.1
 have hl:ypp ((((),()),(a1,()),((),()),()),(),(a0,()))=some (.inl ((((zaX yBG a0 a1).1,()),()),(),((zaX yBG a0 a1).2,()))) :=
  zkl (step:=ya9) a0 (([],[],false,[]):dM) (fun i k m=>((((),()),(k,()),((i:Int),()),()),(),(m,()))) yBG (fun k m=> .inl (((k,()),()),(),(m,()))) (fun i s m hi hm=>by
   simp only [ya9,ynI,zjI (show (i:Int) < m.length by omega),List.length_set,zkO hi,Int.toNat_natCast,List.set_set,cond_true,zkP hi,wr (show -9223372036854775808≤(i:Int)+1 by omega) (by omega),Int.natCast_add,Int.natCast_one,zjW]
   rfl) (fun s m hm=>by simp only [ya9,ynI,hm,zkm (Int.le_refl _),cond_false]) a1 _ (by show _ < 18446744073709551616; omega)
 unfold yj5 yaC
 rw [hl]; rfl
def yAz:Con:=⟨yeS,yog,fun x=>(fun n=>some ((n.1,()),(n.2,()))) (yaC x.1 x.2.1)⟩
theorem yRe:ConOk Tryz.prog 195 yAz:=(yNH).mono (fun x r hk h=>(yQA x.1 x.2.1 hk).trans h)
end
section
def yhP:Code:=(Tryz.f196.body).getD .skip
def ynV:Env:=zki TT [(257,yfL)] []
theorem yKT:FrOk Tryz.prog ⟨ynV,27,fun _=>none⟩ yhP:=zkp yb yc ⟨yl3,trivial⟩
def yz0:Nat→Option Seg:=fun _=>none
def ycd:Shape:=⟨[(0,false,[.at 1000001000]),(1,false,[.int .i64]),(5,false,[.int .i64])],[],[(1000001000,tW,(.pr .fz (.ow .fz)))]⟩
def yio:Shape:=⟨[(0,false,[.at 1000001000]),(1,false,[.int .i64]),(5,false,[.ci .i64 0])],[],[(1000001000,tW,(.pr .fz (.ow .fz)))]⟩
def yh5:Shape:=⟨[(1,false,[.int .i64])],[],[(1000001000,tW,(.pr .fz (.ow .fz)))]⟩
def yiP:Shape:=⟨[],[],[]⟩
def ynG (v0 v1:Int) (v2:List dW):Option ((ycd).X ⊕ ((yh5).X ⊕ (yiP).X)) :=
 bif (ltb v1 (v2.length:Int)) then
 bif (inb v1 v2.length) then
 bif (inb v1 (v2.set (v1).toNat (v0,(nth v2 v1 (0,[])).2)).length) then
 let r4:=yQ ((nth (v2.set (v1).toNat (v0,(nth v2 v1 (0,[])).2)) v1 (0,[])).2) (IntKind.i64.wrap (v0+1))
 some (.inl ((((),()),(r4.1,()),((IntKind.i64.wrap (v1+1)),()),()),(),(((v2.set (v1).toNat (v0,(nth v2 v1 (0,[])).2)).set (v1).toNat ((nth (v2.set (v1).toNat (v0,(nth v2 v1 (0,[])).2)) v1 (0,[])).1,r4.2)),())))
 else none
 else none
 else
 some (.inr (.inl (((v0,()),()),(),(v2,()))))
def ya7 (x:(ycd).X):=ynG x.1.2.1.1 x.1.2.2.1.1 x.2.2.1
def ywx (x:(yio).X):(ycd).X:=((((),()),(x.1.2.1.1,()),(0,()),()),(),(x.2.2.1,()))
def yyh:Code:=(zdI yhP 64 52).getD .skip
theorem yKl:zdI yhP 64 13=some (.block 0 (.loop yyh)):=by kernel_rfl
theorem yLW (x:(ycd).X):zg7 ⟨ynV,27,yz0⟩ 0 yyh 52 ycd yh5 yiP x=ya7 x:=by kernel_rfl
def ywI (x:(yio).X):Nat:=18446744073709551616
def ypn (x:(yio).X):Option ((yh5).X ⊕ (yiP).X):=zr ya7 (ywI x) (ywx x)
def ywV:Seg:=⟨yio,yh5,yiP,ypn⟩
def yz1:Nat→Option Seg:=fun q=>bif Nat.beq q 13 then some ywV else yz0 q
theorem yKU:FrOk Tryz.prog ⟨ynV,27,yz1⟩ yhP:=(yKT).loop (sg:=ywV) ycd ywx (by decide) yKl ya7 ywI (by decide) (fun _=>rfl) (fun x r _ h=>h) yLW
abbrev yeQ:List Par:= [.mt tWs (.ow (.pr .fz (.ow .fz))),.rd tI]
abbrev yoe:List OT:= [⟨false,tI,.fz⟩]
def yj3 (a0:List dW) (a1:Int):Option (ResD yoe×MutD yeQ) :=
 zjw (ypn ((((),()),(a1,()),((),()),()),(),(a0,()))) (fun y4 =>
 some ((y4.1.1.1,()),(y4.2.2.1,()))) (fun y4 =>
 none)
theorem ySA (x:InD yeQ):zjH ⟨ynV,27,yz1⟩ Tryz.f196.results.toList yhP yeQ yoe x=yj3 x.1 x.2.1:=by kernel_rfl
theorem yNF:ConOk Tryz.prog 196 ⟨yeQ,yoe,fun x=>yj3 x.1 x.2.1⟩:=zkh (yKU) Tryz.func196 (by kernel_rfl) (by kernel_rfl) Tryz.ntmps196.symm (by decide) (fun x r h=>(ySA x).trans h)
def yHR (x:dW) (k:Int):Int×dW:=(yE (IntKind.i64.wrap (k+1)) x.2.length,(k,yha (IntKind.i64.wrap (k+1)) x.2.length))
def ye3 (a0:List (dW)) (a1:Int):Int×List (dW):=zaX yHR a0 a1
theorem yQy (a0:List (dW)) (a1:Int) (hk:zi9 yeQ (a0,a1,())):yj3 a0 a1=(fun n=>some ((n.1,()),(n.2,()))) (ye3 a0 a1):=by
 have hb:a0.length * 32≤2 ^ 47:=hk.1.1
 have hl:ypn ((((),()),(a1,()),((),()),()),(),(a0,()))=some (.inl ((((zaX yHR a0 a1).1,()),()),(),((zaX yHR a0 a1).2,()))) :=
  zkl (step:=ya7) a0 ((0,[]):dW) (fun i k m=>((((),()),(k,()),((i:Int),()),()),(),(m,()))) yHR (fun k m=> .inl (((k,()),()),(),(m,()))) (fun i s m hi hm=>by
   simp only [ya7,ynG,zjI (show (i:Int) < m.length by omega),List.length_set,zkO hi,Int.toNat_natCast,List.set_set,cond_true,zkP hi,wr (show -9223372036854775808≤(i:Int)+1 by omega) (by omega),Int.natCast_add,Int.natCast_one,zjW]
   rfl) (fun s m hm=>by simp only [ya7,ynG,hm,zkm (Int.le_refl _),cond_false]) a1 _ (by show _ < 18446744073709551616; omega)
 unfold yj3 ye3
 rw [hl]; rfl
def yAy:Con:=⟨yeQ,yoe,fun x=>(fun n=>some ((n.1,()),(n.2,()))) (ye3 x.1 x.2.1)⟩
theorem yRd:ConOk Tryz.prog 196 yAy:=(yNF).mono (fun x r hk h=>(yQy x.1 x.2.1 hk).trans h)
end
section
def yFU:Code:=(Tryz.f92.body).getD .skip
def yGr:Env:=zki TT [(195,yAz),(196,yAy)] []
theorem yMS:FrOk Tryz.prog ⟨yGr,14,fun _=>none⟩ yFU:=zkp yb yc ⟨yRe,yRd,trivial⟩
def yOw:Nat→Option Seg:=fun _=>none
abbrev ykz:List Par:= [.mt tA (.pr .fz (.pr (.pr .fz .fz) (.pr (.ow (.pr (.ow (.ow .fz)) (.pr (.ow (.pr .fz (.ow .fz))) (.pr .fz (.ow .fz))))) (.pr .fz (.pr .fz (.pr .fz (.pr .fz (.pr .fz (.pr (.ow (.pr .fz (.ow .fz))) (.pr .fz (.pr .fz .fz))))))))))),.rd tI]
abbrev yqE:List OT:= [⟨false,tI,.fz⟩]
def ytP (a0:dA) (a1:Int):Option (ResD yqE×MutD ykz) :=
 let r1:=yaC a0.2.2.1 a1
 let r2:=ye3 a0.2.2.2.2.2.2.2.2.1 r1.1
 some ((r2.1,()),((a0.1,a0.2.1,r1.2,a0.2.2.2.1,a0.2.2.2.2.1,a0.2.2.2.2.2.1,a0.2.2.2.2.2.2.1,a0.2.2.2.2.2.2.2.1,r2.2,a0.2.2.2.2.2.2.2.2.2),()))
theorem yV2 (x:InD ykz):zjH ⟨yGr,14,yOw⟩ Tryz.f92.results.toList yFU ykz yqE x=ytP x.1 x.2.1:=by kernel_rfl
theorem yQT:ConOk Tryz.prog 92 ⟨ykz,yqE,fun x=>ytP x.1 x.2.1⟩:=zkh (yMS) Tryz.func92 (by kernel_rfl) (by kernel_rfl) Tryz.ntmps92.symm (by decide) (fun x r h=>(yV2 x).trans h)
def yN (a0:dA) (a1:Int):Int×dA :=
 let r1:=yaC a0.2.2.1 a1
 let r2:=ye3 a0.2.2.2.2.2.2.2.2.1 r1.1
 (r2.1,(a0.1,a0.2.1,r1.2,a0.2.2.2.1,a0.2.2.2.2.1,a0.2.2.2.2.2.1,a0.2.2.2.2.2.2.1,a0.2.2.2.2.2.2.2.1,r2.2,a0.2.2.2.2.2.2.2.2.2))
def yCC:Con:=⟨ykz,yqE,fun x=>(fun n=>some ((n.1,()),(n.2,()))) (yN x.1 x.2.1)⟩
theorem yTQ (a0:dA) (a1:Int):ytP a0 a1=(fun n=>some ((n.1,()),(n.2,()))) (yN a0 a1):=zkS (p:=fun (n:Int×dA)=>((n.1,()),(n.2,()))) rfl
theorem yUO:ConOk Tryz.prog 92 yCC:=(yQT).mono (fun x r _ h=>(yTQ x.1 x.2.1).trans h)
end
section
def yhN:Code:=(Tryz.f260.body).getD .skip
def ynT:Env:=zki TT [] []
theorem yKP:FrOk Tryz.prog ⟨ynT,21,fun _=>none⟩ yhN:=zkp yb yc trivial
def yzW:Nat→Option Seg:=fun _=>none
def ycb:Shape:=⟨[(0,false,[.br tI]),(1,false,[.int .i64]),(5,false,[.int .i64])],[],[]⟩
def yim:Shape:=⟨[(0,false,[.br tI]),(1,false,[.int .i64]),(5,false,[.ci .i64 0])],[],[]⟩
def yh3:Shape:=⟨[(1,false,[.int .i64])],[],[]⟩
def yiN:Shape:=⟨[(4,false,[.int .i64])],[],[]⟩
def ynE (v0:List Int) (v1 v2:Int):Option ((ycb).X ⊕ ((yh3).X ⊕ (yiN).X)) :=
 bif (ltb v2 (v0.length:Int)) then
 bif (inb v2 v0.length) then
 bif ((nth v0 v2 0) !=v1) then
 some (.inr (.inr ((((-1),()),()),(),())))
 else
 some (.inl (((v0,()),((IntKind.i64.wrap (v1+1)),()),((IntKind.i64.wrap (v2+1)),()),()),(),()))
 else none
 else
 some (.inr (.inl (((v1,()),()),(),())))
def ya5 (x:(ycb).X):=ynE x.1.1.1 x.1.2.1.1 x.1.2.2.1.1
def ywv (x:(yim).X):(ycb).X:=(((x.1.1.1,()),(x.1.2.1.1,()),(0,()),()),(),())
def yyf:Code:=(zdI yhN 64 52).getD .skip
theorem yKj:zdI yhN 64 13=some (.block 0 (.loop yyf)):=by kernel_rfl
theorem yLU (x:(ycb).X):zg7 ⟨ynT,21,yzW⟩ 0 yyf 52 ycb yh3 yiN x=ya5 x:=by kernel_rfl
def ywG (x:(yim).X):Nat:=18446744073709551616
def ypl (x:(yim).X):Option ((yh3).X ⊕ (yiN).X):=zr ya5 (ywG x) (ywv x)
def ywT:Seg:=⟨yim,yh3,yiN,ypl⟩
def yzX:Nat→Option Seg:=fun q=>bif Nat.beq q 13 then some ywT else yzW q
theorem yKQ:FrOk Tryz.prog ⟨ynT,21,yzX⟩ yhN:=(yKP).loop (sg:=ywT) ycb ywv (by decide) yKj ya5 ywG (by decide) (fun _=>rfl) (fun x r _ h=>h) yLU
abbrev yeO:List Par:= [.rd tL,.rd tI]
abbrev yoc:List OT:= [⟨false,tI,.fz⟩]
def yj1 (a0:List Int) (a1:Int):Option (ResD yoc×MutD yeO) :=
 zjw (ypl (((a0,()),(a1,()),((),()),()),(),())) (fun y0 =>
 some ((y0.1.1.1,()),())) (fun y0 =>
 some ((y0.1.1.1,()),()))
theorem ySy (x:InD yeO):zjH ⟨ynT,21,yzX⟩ Tryz.f260.results.toList yhN yeO yoc x=yj1 x.1 x.2.1:=by kernel_rfl
theorem yND:ConOk Tryz.prog 260 ⟨yeO,yoc,fun x=>yj1 x.1 x.2.1⟩:=zkh (yKQ) Tryz.func260 (by kernel_rfl) (by kernel_rfl) Tryz.ntmps260.symm (by decide) (fun x r h=>(ySy x).trans h)
def yk (a0:List Int) (a1:Int):Int:=bif (List.range a0.length).any (fun i=>a0.getD i 0 !=yE a1 i) then -1 else yE a1 a0.length
theorem yQw (a0:List Int) (a1:Int) (hk:zi9 yeO (a0,a1,())):yj1 a0 a1=(fun n=>some ((n,()),())) (yk a0 a1):=by
 have hb:a0.length * 8≤2 ^ 47:=hk.1.1
 have hl:ypl (((a0,()),(a1,()),((),()),()),(),())=some (bif (List.range a0.length).any (fun i=>a0.getD i 0 !=yE a1 i) then .inr ((((-1),()),()),(),()) else .inl (((yE a1 a0.length,()),()),(),())) :=
  zf4 (step:=ya5) (fun i=>(((a0,()),(yE a1 i,()),((i:Int),()),()),(),())) a0.length (fun i=>a0.getD i 0 !=yE a1 i) _ _ (fun i hi=>by
   simp only [ya5,ynE,zkO hi,zjW,zjI (show (i:Int) < a0.length by omega),cond_true,wr (show -9223372036854775808≤(i:Int)+1 by omega) (by omega),Int.natCast_add,Int.natCast_one,yDp]
   cases (a0.getD i 0 !=yE a1 i)<;>rfl) (by simp only [ya5,ynE,zkm (Int.le_refl _),cond_false]) _ (by show _ < 18446744073709551616; omega)
 unfold yj1 yk
 rw [hl]
 cases (List.range a0.length).any (fun i=>a0.getD i 0 !=yE a1 i)<;>rfl
theorem yYj: ∀ (n i:Nat) (k:Int),i < n→(yha k n).getD i 0=yE k i
 | n+1,0,k,_=>rfl
 | n+1,i+1,k,h=>yYj n i _ (by omega)
theorem yBz (n:Nat) (k:Int):yk (yha k n) k=yE k n:=by
 unfold yk
 rw [yuh]
 have:(List.range n).any (fun i=>(yha k n).getD i 0 !=yE k i)=false:=by
  rw [List.any_eq_false]
  intro i hi
  rw [yYj n i k (List.mem_range.1 hi)]
  simp
 rw [this]; rfl
def yfK:Con:=⟨yeO,yoc,fun x=>(fun n=>some ((n,()),())) (yk x.1 x.2.1)⟩
theorem yl2:ConOk Tryz.prog 260 yfK:=(yND).mono (fun x r hk h=>(yQw x.1 x.2.1 hk).trans h)
end
end
end Go.Tf
