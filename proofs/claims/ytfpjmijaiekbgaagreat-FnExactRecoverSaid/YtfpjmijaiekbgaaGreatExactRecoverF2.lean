/- Functions of the program, and what they come to. -/
import Derived.Test.YtfpjmijaiekbgaaGreatExactRecoverF1
namespace Go.Tf
noncomputable section
open Go.Proofs
set_option synthInstance.maxHeartbeats 400000
set_option synthInstance.maxSize 10000
set_option linter.unusedVariables false
set_option linter.unusedSimpArgs false
set_option maxRecDepth 100000
section
def ykQ:Code:=(Tryz.f117.body).getD .skip
def yrd:Env:=zki TT [(20,yde)] []
theorem yOd:FrOk Tryz.prog ⟨yrd,27,fun _=>none⟩ ykQ:=zkp yb yc ⟨yhb,trivial⟩
def yC8:Nat→Option Seg:=fun _=>none
def yda:Shape:=⟨[(0,false,[.at 1000001000]),(1,false,[.int .i64]),(5,false,[.int .i64])],[],[(1000001000,tW,(.pr .fz (.ow .fz)))]⟩
def yjW:Shape:=⟨[(0,false,[.at 1000001000]),(1,false,[.int .i64]),(5,false,[.ci .i64 0])],[],[(1000001000,tW,(.pr .fz (.ow .fz)))]⟩
def yjP:Shape:=⟨[(1,false,[.int .i64])],[],[(1000001000,tW,(.pr .fz (.ow .fz)))]⟩
def yka:Shape:=⟨[],[],[]⟩
def yqW (v0:Int) (v1:Int) (v2:List dW):Option ((yda).X ⊕ ((yjP).X ⊕ (yka).X)) :=
  bif (ltb v1 (v2.length:Int)) then
    bif (inb v1 v2.length) then
      bif (inb v1 (v2.set (v1).toNat (v0,(nth v2 v1 (0,[])).2)).length) then
        let r4:=yv ((nth (v2.set (v1).toNat (v0,(nth v2 v1 (0,[])).2)) v1 (0,[])).2) (IntKind.i64.wrap (v0+1))
        some (.inl ((((),()),(r4.1,()),((IntKind.i64.wrap (v1+1)),()),()),(),(((v2.set (v1).toNat (v0,(nth v2 v1 (0,[])).2)).set (v1).toNat ((nth (v2.set (v1).toNat (v0,(nth v2 v1 (0,[])).2)) v1 (0,[])).1,r4.2)),())))
      else none
    else none
  else
    some (.inr (.inl (((v0,()),()),(),(v2,()))))
def ybL (x:(yda).X):=yqW x.1.2.1.1 x.1.2.2.1.1 x.2.2.1
def yzA (x:(yjW).X):(yda).X:=((((),()),(x.1.2.1.1,()),(0,()),()),(),(x.2.2.1,()))
def yBq:Code:=(zdI ykQ 64 52).getD .skip
theorem yNB:zdI ykQ 64 13=some (.block 0 (.loop yBq)):=by kernel_rfl
theorem yPD (x:(yda).X):zg7 ⟨yrd,27,yC8⟩ 0 yBq 52 yda yjP yka x=ybL x:=by kernel_rfl
def yzT (x:(yjW).X):Nat:=(fun (u0:Int) (u1:List dW)=>18446744073709551616) x.1.2.1.1 x.2.2.1
def ysk (x:(yjW).X):Option ((yjP).X ⊕ (yka).X):=zr ybL (yzT x) (yzA x)
def yAj:Seg:=⟨yjW,yjP,yka,ysk⟩
def yC9:Nat→Option Seg:=fun q=>bif Nat.beq q 13 then some yAj else yC8 q
theorem yOe:FrOk Tryz.prog ⟨yrd,27,yC9⟩ ykQ:=(yOd).loop (sg:=yAj) yda yzA (by decide) yNB ybL yzT (by decide) (fun _=>rfl) (fun x r _ h=>h) yPD
abbrev ygi:List Par:= [.mt tWs (.ow (.pr .fz (.ow .fz))),.rd tI]
abbrev yry:List OT:= [⟨false,tI,.fz⟩]
def ymS (a0:List dW) (a1:Int):Option (ResD yry×MutD ygi) :=
  zjw (ysk ((((),()),(a1,()),((),()),()),(),(a0,()))) (fun y4 =>
    some ((y4.1.1.1,()),(y4.2.2.1,()))) (fun y4 =>
    none)
theorem yXp (x:InD ygi):zjH ⟨yrd,27,yC9⟩ Tryz.f117.results.toList ykQ ygi yry x=ymS x.1 x.2.1:=by kernel_rfl
theorem ySx:ConOk Tryz.prog 117 ⟨ygi,yry,fun x=>ymS x.1 x.2.1⟩:=zkh (yOe) Tryz.func117 (by kernel_rfl) (by kernel_rfl) Tryz.ntmps117.symm (by decide) (fun x r h=>(yXp x).trans h)
def yTl (x:dW) (k:Int):Int×dW:=(yC (IntKind.i64.wrap (k+1)) x.2.length,(k,yhq (IntKind.i64.wrap (k+1)) x.2.length))
def ya1 (a0:List (dW)) (a1:Int):Int×List (dW):=zaX yTl a0 a1
theorem yVs (a0:List (dW)) (a1:Int) (hk:zi9 ygi (a0,a1,())):ymS a0 a1=(fun n=>some ((n.1,()),(n.2,()))) (ya1 a0 a1):=by
  have hb:a0.length * 32≤2 ^ 47:=hk.1.1
  have hl:ysk ((((),()),(a1,()),((),()),()),(),(a0,()))=some (.inl ((((zaX yTl a0 a1).1,()),()),(),((zaX yTl a0 a1).2,()))) :=
    zkl (step:=ybL) a0 ((0,[]):dW) (fun i k m=>((((),()),(k,()),((i:Int),()),()),(),(m,()))) yTl (fun k m=> .inl (((k,()),()),(),(m,()))) (fun i s m hi hm=>by
      simp only [ybL,yqW,zjI (show (i:Int) < m.length by omega),List.length_set,zkO hi,Int.toNat_natCast,List.set_set,cond_true,zkP hi,wr (show -9223372036854775808≤(i:Int)+1 by omega) (by omega),Int.natCast_add,Int.natCast_one,zjW]
      rfl) (fun s m hm=>by simp only [ybL,yqW,hm,zkm (Int.le_refl _),cond_false]) a1 _ (by show _ < 18446744073709551616; omega)
  unfold ymS ya1
  rw [hl]; rfl
def yDT:Con:=⟨ygi,yry,fun x=>(fun n=>some ((n.1,()),(n.2,()))) (ya1 x.1 x.2.1)⟩
theorem yWp:ConOk Tryz.prog 117 yDT:=(ySx).mono (fun x r hk h=>(yVs x.1 x.2.1 hk).trans h)
end
section
def yh6:Code:=(Tryz.f41.body).getD .skip
def yoL:Env:=zki TT [(20,yde),(116,yzo),(117,yDT)] []
theorem yLY:FrOk Tryz.prog ⟨yoL,43,fun _=>none⟩ yh6:=zkp yb yc ⟨yhb,yPp,yWp,trivial⟩
def yA6:Nat→Option Seg:=fun _=>none
def ycj:Shape:=⟨[(0,false,[.at 1000001000]),(1,false,[.int .i64]),(5,false,[.int .i64])],[],[(1000001000,tM,(.pr (.ow (.ow .fz)) (.pr (.ow (.pr .fz (.ow .fz))) (.pr .fz (.ow .fz)))))]⟩
def yiJ:Shape:=⟨[(0,false,[.at 1000001000]),(1,false,[.int .i64]),(5,false,[.ci .i64 0])],[],[(1000001000,tM,(.pr (.ow (.ow .fz)) (.pr (.ow (.pr .fz (.ow .fz))) (.pr .fz (.ow .fz)))))]⟩
def yir:Shape:=⟨[(1,false,[.int .i64])],[],[(1000001000,tM,(.pr (.ow (.ow .fz)) (.pr (.ow (.pr .fz (.ow .fz))) (.pr .fz (.ow .fz)))))]⟩
def yi8:Shape:=⟨[],[],[]⟩
def yox (v0:Int) (v1:Int) (v2:List dM):Option ((ycj).X ⊕ ((yir).X ⊕ (yi8).X)) :=
  bif (ltb v1 (v2.length:Int)) then
    bif (inb v1 v2.length) then
      let r9:=yP ((nth v2 v1 ([],[],false,[])).1) v0
      bif (inb v1 (v2.set (v1).toNat (r9.2,((nth v2 v1 ([],[],false,[])).2).1,(((nth v2 v1 ([],[],false,[])).2).2).1,(((nth v2 v1 ([],[],false,[])).2).2).2)).length) then
        let r11:=ya1 (((nth (v2.set (v1).toNat (r9.2,((nth v2 v1 ([],[],false,[])).2).1,(((nth v2 v1 ([],[],false,[])).2).2).1,(((nth v2 v1 ([],[],false,[])).2).2).2)) v1 ([],[],false,[])).2).1) r9.1
        bif (inb v1 ((v2.set (v1).toNat (r9.2,((nth v2 v1 ([],[],false,[])).2).1,(((nth v2 v1 ([],[],false,[])).2).2).1,(((nth v2 v1 ([],[],false,[])).2).2).2)).set (v1).toNat ((nth (v2.set (v1).toNat (r9.2,((nth v2 v1 ([],[],false,[])).2).1,(((nth v2 v1 ([],[],false,[])).2).2).1,(((nth v2 v1 ([],[],false,[])).2).2).2)) v1 ([],[],false,[])).1,r11.2,(((nth (v2.set (v1).toNat (r9.2,((nth v2 v1 ([],[],false,[])).2).1,(((nth v2 v1 ([],[],false,[])).2).2).1,(((nth v2 v1 ([],[],false,[])).2).2).2)) v1 ([],[],false,[])).2).2).1,(((nth (v2.set (v1).toNat (r9.2,((nth v2 v1 ([],[],false,[])).2).1,(((nth v2 v1 ([],[],false,[])).2).2).1,(((nth v2 v1 ([],[],false,[])).2).2).2)) v1 ([],[],false,[])).2).2).2)).length) then
          let r12:=(((v2.set (v1).toNat (r9.2,((nth v2 v1 ([],[],false,[])).2).1,(((nth v2 v1 ([],[],false,[])).2).2).1,(((nth v2 v1 ([],[],false,[])).2).2).2)).set (v1).toNat ((nth (v2.set (v1).toNat (r9.2,((nth v2 v1 ([],[],false,[])).2).1,(((nth v2 v1 ([],[],false,[])).2).2).1,(((nth v2 v1 ([],[],false,[])).2).2).2)) v1 ([],[],false,[])).1,r11.2,(((nth (v2.set (v1).toNat (r9.2,((nth v2 v1 ([],[],false,[])).2).1,(((nth v2 v1 ([],[],false,[])).2).2).1,(((nth v2 v1 ([],[],false,[])).2).2).2)) v1 ([],[],false,[])).2).2).1,(((nth (v2.set (v1).toNat (r9.2,((nth v2 v1 ([],[],false,[])).2).1,(((nth v2 v1 ([],[],false,[])).2).2).1,(((nth v2 v1 ([],[],false,[])).2).2).2)) v1 ([],[],false,[])).2).2).2)).set (v1).toNat ((nth ((v2.set (v1).toNat (r9.2,((nth v2 v1 ([],[],false,[])).2).1,(((nth v2 v1 ([],[],false,[])).2).2).1,(((nth v2 v1 ([],[],false,[])).2).2).2)).set (v1).toNat ((nth (v2.set (v1).toNat (r9.2,((nth v2 v1 ([],[],false,[])).2).1,(((nth v2 v1 ([],[],false,[])).2).2).1,(((nth v2 v1 ([],[],false,[])).2).2).2)) v1 ([],[],false,[])).1,r11.2,(((nth (v2.set (v1).toNat (r9.2,((nth v2 v1 ([],[],false,[])).2).1,(((nth v2 v1 ([],[],false,[])).2).2).1,(((nth v2 v1 ([],[],false,[])).2).2).2)) v1 ([],[],false,[])).2).2).1,(((nth (v2.set (v1).toNat (r9.2,((nth v2 v1 ([],[],false,[])).2).1,(((nth v2 v1 ([],[],false,[])).2).2).1,(((nth v2 v1 ([],[],false,[])).2).2).2)) v1 ([],[],false,[])).2).2).2)) v1 ([],[],false,[])).1,((nth ((v2.set (v1).toNat (r9.2,((nth v2 v1 ([],[],false,[])).2).1,(((nth v2 v1 ([],[],false,[])).2).2).1,(((nth v2 v1 ([],[],false,[])).2).2).2)).set (v1).toNat ((nth (v2.set (v1).toNat (r9.2,((nth v2 v1 ([],[],false,[])).2).1,(((nth v2 v1 ([],[],false,[])).2).2).1,(((nth v2 v1 ([],[],false,[])).2).2).2)) v1 ([],[],false,[])).1,r11.2,(((nth (v2.set (v1).toNat (r9.2,((nth v2 v1 ([],[],false,[])).2).1,(((nth v2 v1 ([],[],false,[])).2).2).1,(((nth v2 v1 ([],[],false,[])).2).2).2)) v1 ([],[],false,[])).2).2).1,(((nth (v2.set (v1).toNat (r9.2,((nth v2 v1 ([],[],false,[])).2).1,(((nth v2 v1 ([],[],false,[])).2).2).1,(((nth v2 v1 ([],[],false,[])).2).2).2)) v1 ([],[],false,[])).2).2).2)) v1 ([],[],false,[])).2).1,((r11.1.tmod 3)==0),(((nth ((v2.set (v1).toNat (r9.2,((nth v2 v1 ([],[],false,[])).2).1,(((nth v2 v1 ([],[],false,[])).2).2).1,(((nth v2 v1 ([],[],false,[])).2).2).2)).set (v1).toNat ((nth (v2.set (v1).toNat (r9.2,((nth v2 v1 ([],[],false,[])).2).1,(((nth v2 v1 ([],[],false,[])).2).2).1,(((nth v2 v1 ([],[],false,[])).2).2).2)) v1 ([],[],false,[])).1,r11.2,(((nth (v2.set (v1).toNat (r9.2,((nth v2 v1 ([],[],false,[])).2).1,(((nth v2 v1 ([],[],false,[])).2).2).1,(((nth v2 v1 ([],[],false,[])).2).2).2)) v1 ([],[],false,[])).2).2).1,(((nth (v2.set (v1).toNat (r9.2,((nth v2 v1 ([],[],false,[])).2).1,(((nth v2 v1 ([],[],false,[])).2).2).1,(((nth v2 v1 ([],[],false,[])).2).2).2)) v1 ([],[],false,[])).2).2).2)) v1 ([],[],false,[])).2).2).2))
          bif (inb v1 r12.length) then
            let r14:=yv ((((nth r12 v1 ([],[],false,[])).2).2).2) (IntKind.i64.wrap (r11.1+1))
            some (.inl ((((),()),(r14.1,()),((IntKind.i64.wrap (v1+1)),()),()),(),((r12.set (v1).toNat ((nth r12 v1 ([],[],false,[])).1,((nth r12 v1 ([],[],false,[])).2).1,(((nth r12 v1 ([],[],false,[])).2).2).1,r14.2)),())))
          else none
        else none
      else none
    else none
  else
    some (.inr (.inl (((v0,()),()),(),(v2,()))))
def ybe (x:(ycj).X):=yox x.1.2.1.1 x.1.2.2.1.1 x.2.2.1
def yxz (x:(yiJ).X):(ycj).X:=((((),()),(x.1.2.1.1,()),(0,()),()),(),(x.2.2.1,()))
def yzh:Code:=(zdI yh6 64 52).getD .skip
theorem yLk:zdI yh6 64 13=some (.block 0 (.loop yzh)):=by kernel_rfl
theorem yM5 (x:(ycj).X):zg7 ⟨yoL,43,yA6⟩ 0 yzh 52 ycj yir yi8 x=ybe x:=by kernel_rfl
def yxN (x:(yiJ).X):Nat:=(fun (u0:Int) (u1:List dM)=>18446744073709551616) x.1.2.1.1 x.2.2.1
def yqh (x:(yiJ).X):Option ((yir).X ⊕ (yi8).X):=zr ybe (yxN x) (yxz x)
def yx6:Seg:=⟨yiJ,yir,yi8,yqh⟩
def yA7:Nat→Option Seg:=fun q=>bif Nat.beq q 13 then some yx6 else yA6 q
theorem yLZ:FrOk Tryz.prog ⟨yoL,43,yA7⟩ yh6:=(yLY).loop (sg:=yx6) ycj yxz (by decide) yLk ybe yxN (by decide) (fun _=>rfl) (fun x r _ h=>h) yM5
abbrev ye3:List Par:= [.mt tMs (.ow (.pr (.ow (.ow .fz)) (.pr (.ow (.pr .fz (.ow .fz))) (.pr .fz (.ow .fz))))),.rd tI]
abbrev ypa:List OT:= [⟨false,tI,.fz⟩]
def ykA (a0:List dM) (a1:Int):Option (ResD ypa×MutD ye3) :=
  zjw (yqh ((((),()),(a1,()),((),()),()),(),(a0,()))) (fun y14 =>
    some ((y14.1.1.1,()),(y14.2.2.1,()))) (fun y14 =>
    none)
theorem yUh (x:InD ye3):zjH ⟨yoL,43,yA7⟩ Tryz.f41.results.toList yh6 ye3 ypa x=ykA x.1 x.2.1:=by kernel_rfl
theorem yPc:ConOk Tryz.prog 41 ⟨ye3,ypa,fun x=>ykA x.1 x.2.1⟩:=zkh (yLZ) Tryz.func41 (by kernel_rfl) (by kernel_rfl) Tryz.ntmps41.symm (by decide) (fun x r h=>(yUh x).trans h)
def yCK (x:dM) (k:Int):Int×dM:=((yv x.2.2.2 (IntKind.i64.wrap ((ya1 x.2.1 (yP x.1 k).1).1+1))).1,((yP x.1 k).2,(ya1 x.2.1 (yP x.1 k).1).2,((ya1 x.2.1 (yP x.1 k).1).1.tmod 3==0),(yv x.2.2.2 (IntKind.i64.wrap ((ya1 x.2.1 (yP x.1 k).1).1+1))).2))
def yZ (a0:List (dM)) (a1:Int):Int×List (dM):=zaX yCK a0 a1
theorem yR9 (a0:List (dM)) (a1:Int) (hk:zi9 ye3 (a0,a1,())):ykA a0 a1=(fun n=>some ((n.1,()),(n.2,()))) (yZ a0 a1):=by
  have hb:a0.length * 80≤2 ^ 47:=hk.1.1
  have hl:yqh ((((),()),(a1,()),((),()),()),(),(a0,()))=some (.inl ((((zaX yCK a0 a1).1,()),()),(),((zaX yCK a0 a1).2,()))) :=
    zkl (step:=ybe) a0 (([],[],false,[]):dM) (fun i k m=>((((),()),(k,()),((i:Int),()),()),(),(m,()))) yCK (fun k m=> .inl (((k,()),()),(),(m,()))) (fun i s m hi hm=>by
      simp only [ybe,yox,zjI (show (i:Int) < m.length by omega),List.length_set,zkO hi,Int.toNat_natCast,List.set_set,cond_true,zkP hi,wr (show -9223372036854775808≤(i:Int)+1 by omega) (by omega),Int.natCast_add,Int.natCast_one,zjW]
      rfl) (fun s m hm=>by simp only [ybe,yox,hm,zkm (Int.le_refl _),cond_false]) a1 _ (by show _ < 18446744073709551616; omega)
  unfold ykA yZ
  rw [hl]; rfl
def ysv:Con:=⟨ye3,ypa,fun x=>(fun n=>some ((n.1,()),(n.2,()))) (yZ x.1 x.2.1)⟩
theorem yEK:ConOk Tryz.prog 41 ysv:=(yPc).mono (fun x r hk h=>(yR9 x.1 x.2.1 hk).trans h)
end
section
def yh4:Code:=(Tryz.f72.body).getD .skip
def yoJ:Env:=zki TT [(20,yde)] []
theorem yLU:FrOk Tryz.prog ⟨yoJ,27,fun _=>none⟩ yh4:=zkp yb yc ⟨yhb,trivial⟩
def yA2:Nat→Option Seg:=fun _=>none
def ych:Shape:=⟨[(0,false,[.at 1000001000]),(1,false,[.int .i64]),(5,false,[.int .i64])],[],[(1000001000,tW,(.pr .fz (.ow .fz)))]⟩
def yiH:Shape:=⟨[(0,false,[.at 1000001000]),(1,false,[.int .i64]),(5,false,[.ci .i64 0])],[],[(1000001000,tW,(.pr .fz (.ow .fz)))]⟩
def yip:Shape:=⟨[(1,false,[.int .i64])],[],[(1000001000,tW,(.pr .fz (.ow .fz)))]⟩
def yi6:Shape:=⟨[],[],[]⟩
def yov (v0:Int) (v1:Int) (v2:List dW):Option ((ych).X ⊕ ((yip).X ⊕ (yi6).X)) :=
  bif (ltb v1 (v2.length:Int)) then
    bif (inb v1 v2.length) then
      bif (inb v1 (v2.set (v1).toNat (v0,(nth v2 v1 (0,[])).2)).length) then
        let r4:=yv ((nth (v2.set (v1).toNat (v0,(nth v2 v1 (0,[])).2)) v1 (0,[])).2) (IntKind.i64.wrap (v0+1))
        some (.inl ((((),()),(r4.1,()),((IntKind.i64.wrap (v1+1)),()),()),(),(((v2.set (v1).toNat (v0,(nth v2 v1 (0,[])).2)).set (v1).toNat ((nth (v2.set (v1).toNat (v0,(nth v2 v1 (0,[])).2)) v1 (0,[])).1,r4.2)),())))
      else none
    else none
  else
    some (.inr (.inl (((v0,()),()),(),(v2,()))))
def ybc (x:(ych).X):=yov x.1.2.1.1 x.1.2.2.1.1 x.2.2.1
def yxx (x:(yiH).X):(ych).X:=((((),()),(x.1.2.1.1,()),(0,()),()),(),(x.2.2.1,()))
def yzf:Code:=(zdI yh4 64 52).getD .skip
theorem yLi:zdI yh4 64 13=some (.block 0 (.loop yzf)):=by kernel_rfl
theorem yM3 (x:(ych).X):zg7 ⟨yoJ,27,yA2⟩ 0 yzf 52 ych yip yi6 x=ybc x:=by kernel_rfl
def yxL (x:(yiH).X):Nat:=(fun (u0:Int) (u1:List dW)=>18446744073709551616) x.1.2.1.1 x.2.2.1
def yqf (x:(yiH).X):Option ((yip).X ⊕ (yi6).X):=zr ybc (yxL x) (yxx x)
def yx4:Seg:=⟨yiH,yip,yi6,yqf⟩
def yA3:Nat→Option Seg:=fun q=>bif Nat.beq q 13 then some yx4 else yA2 q
theorem yLV:FrOk Tryz.prog ⟨yoJ,27,yA3⟩ yh4:=(yLU).loop (sg:=yx4) ych yxx (by decide) yLi ybc yxL (by decide) (fun _=>rfl) (fun x r _ h=>h) yM3
abbrev ye1:List Par:= [.mt tWs (.ow (.pr .fz (.ow .fz))),.rd tI]
abbrev yo8:List OT:= [⟨false,tI,.fz⟩]
def yky (a0:List dW) (a1:Int):Option (ResD yo8×MutD ye1) :=
  zjw (yqf ((((),()),(a1,()),((),()),()),(),(a0,()))) (fun y4 =>
    some ((y4.1.1.1,()),(y4.2.2.1,()))) (fun y4 =>
    none)
theorem yUf (x:InD ye1):zjH ⟨yoJ,27,yA3⟩ Tryz.f72.results.toList yh4 ye1 yo8 x=yky x.1 x.2.1:=by kernel_rfl
theorem yPa:ConOk Tryz.prog 72 ⟨ye1,yo8,fun x=>yky x.1 x.2.1⟩:=zkh (yLV) Tryz.func72 (by kernel_rfl) (by kernel_rfl) Tryz.ntmps72.symm (by decide) (fun x r h=>(yUf x).trans h)
def yIS (x:dW) (k:Int):Int×dW:=(yC (IntKind.i64.wrap (k+1)) x.2.length,(k,yhq (IntKind.i64.wrap (k+1)) x.2.length))
def yfj (a0:List (dW)) (a1:Int):Int×List (dW):=zaX yIS a0 a1
theorem yR7 (a0:List (dW)) (a1:Int) (hk:zi9 ye1 (a0,a1,())):yky a0 a1=(fun n=>some ((n.1,()),(n.2,()))) (yfj a0 a1):=by
  have hb:a0.length * 32≤2 ^ 47:=hk.1.1
  have hl:yqf ((((),()),(a1,()),((),()),()),(),(a0,()))=some (.inl ((((zaX yIS a0 a1).1,()),()),(),((zaX yIS a0 a1).2,()))) :=
    zkl (step:=ybc) a0 ((0,[]):dW) (fun i k m=>((((),()),(k,()),((i:Int),()),()),(),(m,()))) yIS (fun k m=> .inl (((k,()),()),(),(m,()))) (fun i s m hi hm=>by
      simp only [ybc,yov,zjI (show (i:Int) < m.length by omega),List.length_set,zkO hi,Int.toNat_natCast,List.set_set,cond_true,zkP hi,wr (show -9223372036854775808≤(i:Int)+1 by omega) (by omega),Int.natCast_add,Int.natCast_one,zjW]
      rfl) (fun s m hm=>by simp only [ybc,yov,hm,zkm (Int.le_refl _),cond_false]) a1 _ (by show _ < 18446744073709551616; omega)
  unfold yky yfj
  rw [hl]; rfl
def yBJ:Con:=⟨ye1,yo8,fun x=>(fun n=>some ((n.1,()),(n.2,()))) (yfj x.1 x.2.1)⟩
theorem yST:ConOk Tryz.prog 72 yBJ:=(yPa).mono (fun x r hk h=>(yR7 x.1 x.2.1 hk).trans h)
end
section
def yHi:Code:=(Tryz.f19.body).getD .skip
def yHM:Env:=zki TT [(41,ysv),(72,yBJ)] []
theorem yOc:FrOk Tryz.prog ⟨yHM,14,fun _=>none⟩ yHi:=zkp yb yc ⟨yEK,yST,trivial⟩
def yP6:Nat→Option Seg:=fun _=>none
abbrev yk7:List Par:= [.mt tA (.pr .fz (.pr (.pr .fz .fz) (.pr (.ow (.pr (.ow (.ow .fz)) (.pr (.ow (.pr .fz (.ow .fz))) (.pr .fz (.ow .fz))))) (.pr .fz (.pr .fz (.pr .fz (.pr .fz (.pr .fz (.pr (.ow (.pr .fz (.ow .fz))) (.pr .fz (.pr .fz .fz))))))))))),.rd tI]
abbrev yrx:List OT:= [⟨false,tI,.fz⟩]
def yuQ (a0:dA) (a1:Int):Option (ResD yrx×MutD yk7) :=
  let r1:=yZ a0.2.2.1 a1
  let r2:=yfj a0.2.2.2.2.2.2.2.2.1 r1.1
  some ((r2.1,()),((a0.1,a0.2.1,r1.2,a0.2.2.2.1,a0.2.2.2.2.1,a0.2.2.2.2.2.1,a0.2.2.2.2.2.2.1,a0.2.2.2.2.2.2.2.1,r2.2,a0.2.2.2.2.2.2.2.2.2),()))
theorem yXo (x:InD yk7):zjH ⟨yHM,14,yP6⟩ Tryz.f19.results.toList yHi yk7 yrx x=yuQ x.1 x.2.1:=by kernel_rfl
theorem ySw:ConOk Tryz.prog 19 ⟨yk7,yrx,fun x=>yuQ x.1 x.2.1⟩:=zkh (yOc) Tryz.func19 (by kernel_rfl) (by kernel_rfl) Tryz.ntmps19.symm (by decide) (fun x r h=>(yXo x).trans h)
def yV (a0:dA) (a1:Int):Int×dA :=
  let r1:=yZ a0.2.2.1 a1
  let r2:=yfj a0.2.2.2.2.2.2.2.2.1 r1.1
  (r2.1,(a0.1,a0.2.1,r1.2,a0.2.2.2.1,a0.2.2.2.2.1,a0.2.2.2.2.2.1,a0.2.2.2.2.2.2.1,a0.2.2.2.2.2.2.2.1,r2.2,a0.2.2.2.2.2.2.2.2.2))
def yDS:Con:=⟨yk7,yrx,fun x=>(fun n=>some ((n.1,()),(n.2,()))) (yV x.1 x.2.1)⟩
theorem yVr (a0:dA) (a1:Int):yuQ a0 a1=(fun n=>some ((n.1,()),(n.2,()))) (yV a0 a1):=zkS (p:=fun (n:Int×dA)=>((n.1,()),(n.2,()))) rfl
theorem yWo:ConOk Tryz.prog 19 yDS:=(ySw).mono (fun x r _ h=>(yVr x.1 x.2.1).trans h)
end
section
def yh2:Code:=(Tryz.f21.body).getD .skip
def yoH:Env:=zki TT [] []
theorem yLQ:FrOk Tryz.prog ⟨yoH,21,fun _=>none⟩ yh2:=zkp yb yc trivial
def yAY:Nat→Option Seg:=fun _=>none
def ycf:Shape:=⟨[(0,false,[.br tI]),(1,false,[.int .i64]),(5,false,[.int .i64])],[],[]⟩
def yiF:Shape:=⟨[(0,false,[.br tI]),(1,false,[.int .i64]),(5,false,[.ci .i64 0])],[],[]⟩
def yin:Shape:=⟨[(1,false,[.int .i64])],[],[]⟩
def yi4:Shape:=⟨[(4,false,[.int .i64])],[],[]⟩
def yot (v0:List Int) (v1:Int) (v2:Int):Option ((ycf).X ⊕ ((yin).X ⊕ (yi4).X)) :=
  bif (ltb v2 (v0.length:Int)) then
    bif (inb v2 v0.length) then
      bif ((nth v0 v2 0) !=v1) then
        some (.inr (.inr ((((-1),()),()),(),())))
      else
        some (.inl (((v0,()),((IntKind.i64.wrap (v1+1)),()),((IntKind.i64.wrap (v2+1)),()),()),(),()))
    else none
  else
    some (.inr (.inl (((v1,()),()),(),())))
def yba (x:(ycf).X):=yot x.1.1.1 x.1.2.1.1 x.1.2.2.1.1
def yxv (x:(yiF).X):(ycf).X:=(((x.1.1.1,()),(x.1.2.1.1,()),(0,()),()),(),())
def yzd:Code:=(zdI yh2 64 52).getD .skip
theorem yLg:zdI yh2 64 13=some (.block 0 (.loop yzd)):=by kernel_rfl
theorem yM1 (x:(ycf).X):zg7 ⟨yoH,21,yAY⟩ 0 yzd 52 ycf yin yi4 x=yba x:=by kernel_rfl
def yxJ (x:(yiF).X):Nat:=(fun (u0:List Int) (u1:Int)=>18446744073709551616) x.1.1.1 x.1.2.1.1
def yqd (x:(yiF).X):Option ((yin).X ⊕ (yi4).X):=zr yba (yxJ x) (yxv x)
def yx2:Seg:=⟨yiF,yin,yi4,yqd⟩
def yAZ:Nat→Option Seg:=fun q=>bif Nat.beq q 13 then some yx2 else yAY q
theorem yLR:FrOk Tryz.prog ⟨yoH,21,yAZ⟩ yh2:=(yLQ).loop (sg:=yx2) ycf yxv (by decide) yLg yba yxJ (by decide) (fun _=>rfl) (fun x r _ h=>h) yM1
abbrev yeZ:List Par:= [.rd tL,.rd tI]
abbrev yo6:List OT:= [⟨false,tI,.fz⟩]
def ykw (a0:List Int) (a1:Int):Option (ResD yo6×MutD yeZ) :=
  zjw (yqd (((a0,()),(a1,()),((),()),()),(),())) (fun y0 =>
    some ((y0.1.1.1,()),())) (fun y0 =>
    some ((y0.1.1.1,()),()))
theorem yUd (x:InD yeZ):zjH ⟨yoH,21,yAZ⟩ Tryz.f21.results.toList yh2 yeZ yo6 x=ykw x.1 x.2.1:=by kernel_rfl
theorem yO8:ConOk Tryz.prog 21 ⟨yeZ,yo6,fun x=>ykw x.1 x.2.1⟩:=zkh (yLR) Tryz.func21 (by kernel_rfl) (by kernel_rfl) Tryz.ntmps21.symm (by decide) (fun x r h=>(yUd x).trans h)
def yl (a0:List Int) (a1:Int):Int:=bif (List.range a0.length).any (fun i=>a0.getD i 0 !=yC a1 i) then -1 else yC a1 a0.length
theorem yR5 (a0:List Int) (a1:Int) (hk:zi9 yeZ (a0,a1,())):ykw a0 a1=(fun n=>some ((n,()),())) (yl a0 a1):=by
  have hb:a0.length * 8≤2 ^ 47:=hk.1.1
  have hl:yqd (((a0,()),(a1,()),((),()),()),(),())=some (bif (List.range a0.length).any (fun i=>a0.getD i 0 !=yC a1 i) then .inr ((((-1),()),()),(),()) else .inl (((yC a1 a0.length,()),()),(),())) :=
    zf4 (step:=yba) (fun i=>(((a0,()),(yC a1 i,()),((i:Int),()),()),(),())) a0.length (fun i=>a0.getD i 0 !=yC a1 i) _ _ (fun i hi=>by
      simp only [yba,yot,zkO hi,zjW,zjI (show (i:Int) < a0.length by omega),cond_true,wr (show -9223372036854775808≤(i:Int)+1 by omega) (by omega),Int.natCast_add,Int.natCast_one,yEA]
      cases (a0.getD i 0 !=yC a1 i)<;>rfl) (by simp only [yba,yot,zkm (Int.le_refl _),cond_false]) _ (by show _ < 18446744073709551616; omega)
  unfold ykw yl
  rw [hl]
  cases (List.range a0.length).any (fun i=>a0.getD i 0 !=yC a1 i)<;>rfl
theorem yZn: ∀ (n i:Nat) (k:Int),i < n→(yhq k n).getD i 0=yC k i
  | n+1,0,k,_=>rfl
  | n+1,i+1,k,h=>yZn n i _ (by omega)
theorem yCF (n:Nat) (k:Int):yl (yhq k n) k=yC k n:=by
  unfold yl
  rw [yvj]
  have:(List.range n).any (fun i=>(yhq k n).getD i 0 !=yC k i)=false:=by
    rw [List.any_eq_false]
    intro i hi
    rw [yZn n i k (List.mem_range.1 hi)]
    simp
  rw [this]; rfl
def yfZ:Con:=⟨yeZ,yo6,fun x=>(fun n=>some ((n,()),())) (yl x.1 x.2.1)⟩
theorem ymF:ConOk Tryz.prog 21 yfZ:=(yO8).mono (fun x r hk h=>(yR5 x.1 x.2.1 hk).trans h)
end
section
def ygw:Code:=(Tryz.f156.body).getD .skip
def ylU:Env:=zki TT [(21,yfZ)] []
theorem yJ9:FrOk Tryz.prog ⟨ylU,21,fun _=>none⟩ ygw:=zkp yb yc ⟨ymF,trivial⟩
def yyY:Nat→Option Seg:=fun _=>none
def ybA:Shape:=⟨[(0,false,[.br tL]),(1,false,[.int .i64]),(5,false,[.int .i64])],[],[]⟩
def yhf:Shape:=⟨[(0,false,[.br tL]),(1,false,[.int .i64]),(5,false,[.ci .i64 0])],[],[]⟩
def yhd:Shape:=⟨[(1,false,[.int .i64])],[],[]⟩
def yhk:Shape:=⟨[(4,false,[.int .i64])],[],[]⟩
def ym5 (v0:List (List Int)) (v1:Int) (v2:Int):Option ((ybA).X ⊕ ((yhd).X ⊕ (yhk).X)) :=
  bif (ltb v2 (v0.length:Int)) then
    bif (inb v2 v0.length) then
      let r2:=yl (nth v0 v2 []) v1
      bif (ltb r2 0) then
        some (.inr (.inr ((((-1),()),()),(),())))
      else
        some (.inl (((v0,()),(r2,()),((IntKind.i64.wrap (v2+1)),()),()),(),()))
    else none
  else
    some (.inr (.inl (((v1,()),()),(),())))
def yaE (x:(ybA).X):=ym5 x.1.1.1 x.1.2.1.1 x.1.2.2.1.1
def ywp (x:(yhf).X):(ybA).X:=(((x.1.1.1,()),(x.1.2.1.1,()),(0,()),()),(),())
def yxg:Code:=(zdI ygw 64 52).getD .skip
theorem yJW:zdI ygw 64 13=some (.block 0 (.loop yxg)):=by kernel_rfl
theorem yKz (x:(ybA).X):zg7 ⟨ylU,21,yyY⟩ 0 yxg 52 ybA yhd yhk x=yaE x:=by kernel_rfl
def ywx (x:(yhf).X):Nat:=(fun (u0:List (List Int)) (u1:Int)=>18446744073709551616) x.1.1.1 x.1.2.1.1
def yn1 (x:(yhf).X):Option ((yhd).X ⊕ (yhk).X):=zr yaE (ywx x) (ywp x)
def yw4:Seg:=⟨yhf,yhd,yhk,yn1⟩
def yyZ:Nat→Option Seg:=fun q=>bif Nat.beq q 13 then some yw4 else yyY q
theorem yKa:FrOk Tryz.prog ⟨ylU,21,yyZ⟩ ygw:=(yJ9).loop (sg:=yw4) ybA ywp (by decide) yJW yaE ywx (by decide) (fun _=>rfl) (fun x r _ h=>h) yKz
abbrev ydW:List Par:= [.rd tLL,.rd tI]
abbrev yme:List OT:= [⟨false,tI,.fz⟩]
def yjE (a0:List (List Int)) (a1:Int):Option (ResD yme×MutD ydW) :=
  zjw (yn1 (((a0,()),(a1,()),((),()),()),(),())) (fun y2 =>
    some ((y2.1.1.1,()),())) (fun y2 =>
    some ((y2.1.1.1,()),()))
theorem yQw (x:InD ydW):zjH ⟨ylU,21,yyZ⟩ Tryz.f156.results.toList ygw ydW yme x=yjE x.1 x.2.1:=by kernel_rfl
theorem yMK:ConOk Tryz.prog 156 ⟨ydW,yme,fun x=>yjE x.1 x.2.1⟩:=zkh (yKa) Tryz.func156 (by kernel_rfl) (by kernel_rfl) Tryz.ntmps156.symm (by decide) (fun x r h=>(yQw x).trans h)
def yym (x:List Int) (k:Int):Int:=yl x k
def yq (a0:List (List Int)) (a1:Int):Int:=(szG yym a0 a1).getD (-1)
theorem yOR (a0:List (List Int)) (a1:Int) (hk:zi9 ydW (a0,a1,())):yjE a0 a1=(fun n=>some ((n,()),())) (yq a0 a1):=by
  have hb:a0.length * 24≤2 ^ 47:=hk.1.1
  have hl:yn1 (((a0,()),(a1,()),((),()),()),(),())=some (match szG yym a0 a1 with | some r=> .inl (((r,()),()),(),()) | none=> .inr ((((-1),()),()),(),())) :=
    zkG (step:=yaE) a0 ([]:List Int) (fun i k=>(((a0,()),(k,()),((i:Int),()),()),(),())) yym (fun r=> .inl (((r,()),()),(),())) (.inr ((((-1),()),()),(),())) (fun i s hi=>by
      simp only [yaE,ym5,zjI (show (i:Int) < a0.length by omega),zkO hi,zjW,cond_true,wr (show -9223372036854775808≤(i:Int)+1 by omega) (by omega),Int.natCast_add,Int.natCast_one,yym]
      cases ltb (yl (a0.getD i ([]:List Int)) s) 0<;>rfl) (fun s=>by simp only [yaE,ym5,zkm (Int.le_refl _),cond_false]) a1 _ (by show _ < 18446744073709551616; omega)
  unfold yjE yq
  rw [hl]
  cases szG yym a0 a1<;>rfl
def yzn:Con:=⟨ydW,yme,fun x=>(fun n=>some ((n,()),())) (yq x.1 x.2.1)⟩
theorem yPo:ConOk Tryz.prog 156 yzn:=(yMK).mono (fun x r hk h=>(yOR x.1 x.2.1 hk).trans h)
end
end
end Go.Tf
