/- Functions of the program, and what they come to. -/
import Derived.Test.YtfpjmijaiekbgaaGreatExactBuildAllF4
namespace Go.Tf
noncomputable section
open Go.Proofs
set_option synthInstance.maxHeartbeats 400000
set_option synthInstance.maxSize 10000
set_option linter.unusedVariables false
set_option linter.unusedSimpArgs false
set_option maxRecDepth 100000
section
def yfr:Code:=(Tryz.f116.body).getD .skip
def yjT:Env:=zki TT [(20,yeX)] []
theorem yEO:FrOk Tryz.prog ⟨yjT,19,fun _=>none⟩ yfr:=zkp yb yc ⟨ykC,trivial⟩
def yu9:Nat→Option Seg:=fun _=>none
def ybc:Shape:=⟨[(0,false,[.at 1000001000]),(1,false,[.int .i64]),(5,false,[.int .i64])],[],[(1000001000,tL,(.ow .fz))]⟩
def yf5:Shape:=⟨[(0,false,[.at 1000001000]),(1,false,[.int .i64]),(5,false,[.ci .i64 0])],[],[(1000001000,tL,(.ow .fz))]⟩
def yf3:Shape:=⟨[(1,false,[.int .i64])],[],[(1000001000,tL,(.ow .fz))]⟩
def yf7:Shape:=⟨[],[],[]⟩
def ykU (v0:Int) (v1:Int) (v2:List (List Int)):Option ((ybc).X ⊕ ((yf3).X ⊕ (yf7).X)) :=
  bif (ltb v1 (v2.length:Int)) then
    bif (inb v1 v2.length) then
      let r4:=yH (nth v2 v1 []) v0
      some (.inl ((((),()),(r4.1,()),((IntKind.i64.wrap (v1+1)),()),()),(),((v2.set (v1).toNat r4.2),())))
    else none
  else
    some (.inr (.inl (((v0,()),()),(),(v2,()))))
def yao (x:(ybc).X):=ykU x.1.2.1.1 x.1.2.2.1.1 x.2.2.1
def ytc (x:(yf5).X):(ybc).X:=((((),()),(x.1.2.1.1,()),(0,()),()),(),(x.2.2.1,()))
def ytF:Code:=(zdI yfr 64 52).getD .skip
theorem yEG:zdI yfr 64 13=some (.block 0 (.loop ytF)):=by kernel_rfl
theorem yFa (x:(ybc).X):zg7 ⟨yjT,19,yu9⟩ 0 ytF 52 ybc yf3 yf7 x=yao x:=by kernel_rfl
def ytf (x:(yf5).X):Nat:=(fun (u0:Int) (u1:List (List Int))=>18446744073709551616) x.1.2.1.1 x.2.2.1
def ylB (x:(yf5).X):Option ((yf3).X ⊕ (yf7).X):=zr yao (ytf x) (ytc x)
def ytB:Seg:=⟨yf5,yf3,yf7,ylB⟩
def yva:Nat→Option Seg:=fun q=>bif Nat.beq q 13 then some ytB else yu9 q
theorem yEP:FrOk Tryz.prog ⟨yjT,19,yva⟩ yfr:=(yEO).loop (sg:=ytB) ybc ytc (by decide) yEG yao ytf (by decide) (fun _=>rfl) (fun x r _ h=>h) yFa
abbrev yc9:List Par:= [.mt tLL (.ow (.ow .fz)),.rd tI]
abbrev yke:List OT:= [⟨false,tI,.fz⟩]
def yh6 (a0:List (List Int)) (a1:Int):Option (ResD yke×MutD yc9) :=
  zjw (ylB ((((),()),(a1,()),((),()),()),(),(a0,()))) (fun y4 =>
    some ((y4.1.1.1,()),(y4.2.2.1,()))) (fun y4 =>
    none)
theorem yKq (x:InD yc9):zjH ⟨yjT,19,yva⟩ Tryz.f116.results.toList yfr yc9 yke x=yh6 x.1 x.2.1:=by kernel_rfl
theorem yHh:ConOk Tryz.prog 116 ⟨yc9,yke,fun x=>yh6 x.1 x.2.1⟩:=zkh (yEP) Tryz.func116 (by kernel_rfl) (by kernel_rfl) Tryz.ntmps116.symm (by decide) (fun x r h=>(yKq x).trans h)
def yAI (x:List Int) (k:Int):Int×List Int:=yH x k
def yJ (a0:List (List Int)) (a1:Int):Int×List (List Int):=zaX yAI a0 a1
theorem yI1 (a0:List (List Int)) (a1:Int) (hk:zi9 yc9 (a0,a1,())):yh6 a0 a1=(fun n=>some ((n.1,()),(n.2,()))) (yJ a0 a1):=by
  have hb:a0.length * 24≤2 ^ 47:=hk.1.1
  have hl:ylB ((((),()),(a1,()),((),()),()),(),(a0,()))=some (.inl ((((zaX yAI a0 a1).1,()),()),(),((zaX yAI a0 a1).2,()))) :=
    zkl (step:=yao) a0 ([]:List Int) (fun i k m=>((((),()),(k,()),((i:Int),()),()),(),(m,()))) yAI (fun k m=> .inl (((k,()),()),(),(m,()))) (fun i s m hi hm=>by
      simp only [yao,ykU,zjI (show (i:Int) < m.length by omega),List.length_set,zkO hi,Int.toNat_natCast,List.set_set,cond_true,zkP hi,wr (show -9223372036854775808≤(i:Int)+1 by omega) (by omega),Int.natCast_add,Int.natCast_one,zjW]
      rfl) (fun s m hm=>by simp only [yao,ykU,hm,zkm (Int.le_refl _),cond_false]) a1 _ (by show _ < 18446744073709551616; omega)
  unfold yh6 yJ
  rw [hl]; rfl
def yvv:Con:=⟨yc9,yke,fun x=>(fun n=>some ((n.1,()),(n.2,()))) (yJ x.1 x.2.1)⟩
theorem yJr:ConOk Tryz.prog 116 yvv:=(yHh).mono (fun x r hk h=>(yI1 x.1 x.2.1 hk).trans h)
end
section
def yi7:Code:=(Tryz.f117.body).getD .skip
def yow:Env:=zki TT [(20,yeX)] []
theorem yIp:FrOk Tryz.prog ⟨yow,27,fun _=>none⟩ yi7:=zkp yb yc ⟨ykC,trivial⟩
def yy2:Nat→Option Seg:=fun _=>none
def ycG:Shape:=⟨[(0,false,[.at 1000001000]),(1,false,[.int .i64]),(5,false,[.int .i64])],[],[(1000001000,tW,(.pr .fz (.ow .fz)))]⟩
def yiq:Shape:=⟨[(0,false,[.at 1000001000]),(1,false,[.int .i64]),(5,false,[.ci .i64 0])],[],[(1000001000,tW,(.pr .fz (.ow .fz)))]⟩
def yij:Shape:=⟨[(1,false,[.int .i64])],[],[(1000001000,tW,(.pr .fz (.ow .fz)))]⟩
def yiC:Shape:=⟨[],[],[]⟩
def yoh (v0:Int) (v1:Int) (v2:List dW):Option ((ycG).X ⊕ ((yij).X ⊕ (yiC).X)) :=
  bif (ltb v1 (v2.length:Int)) then
    bif (inb v1 v2.length) then
      bif (inb v1 (v2.set (v1).toNat (v0,(nth v2 v1 (0,[])).2)).length) then
        let r4:=yH ((nth (v2.set (v1).toNat (v0,(nth v2 v1 (0,[])).2)) v1 (0,[])).2) (IntKind.i64.wrap (v0+1))
        some (.inl ((((),()),(r4.1,()),((IntKind.i64.wrap (v1+1)),()),()),(),(((v2.set (v1).toNat (v0,(nth v2 v1 (0,[])).2)).set (v1).toNat ((nth (v2.set (v1).toNat (v0,(nth v2 v1 (0,[])).2)) v1 (0,[])).1,r4.2)),())))
      else none
    else none
  else
    some (.inr (.inl (((v0,()),()),(),(v2,()))))
def ybm (x:(ycG).X):=yoh x.1.2.1.1 x.1.2.2.1.1 x.2.2.1
def yvG (x:(yiq).X):(ycG).X:=((((),()),(x.1.2.1.1,()),(0,()),()),(),(x.2.2.1,()))
def yxj:Code:=(zdI yi7 64 52).getD .skip
theorem yHW:zdI yi7 64 13=some (.block 0 (.loop yxj)):=by kernel_rfl
theorem yJD (x:(ycG).X):zg7 ⟨yow,27,yy2⟩ 0 yxj 52 ycG yij yiC x=ybm x:=by kernel_rfl
def yvW (x:(yiq).X):Nat:=(fun (u0:Int) (u1:List dW)=>18446744073709551616) x.1.2.1.1 x.2.2.1
def ypx (x:(yiq).X):Option ((yij).X ⊕ (yiC).X):=zr ybm (yvW x) (yvG x)
def ywl:Seg:=⟨yiq,yij,yiC,ypx⟩
def yy3:Nat→Option Seg:=fun q=>bif Nat.beq q 13 then some ywl else yy2 q
theorem yIq:FrOk Tryz.prog ⟨yow,27,yy3⟩ yi7:=(yIp).loop (sg:=ywl) ycG yvG (by decide) yHW ybm yvW (by decide) (fun _=>rfl) (fun x r _ h=>h) yJD
abbrev yfg:List Par:= [.mt tWs (.ow (.pr .fz (.ow .fz))),.rd tI]
abbrev yoO:List OT:= [⟨false,tI,.fz⟩]
def ykL (a0:List dW) (a1:Int):Option (ResD yoO×MutD yfg) :=
  zjw (ypx ((((),()),(a1,()),((),()),()),(),(a0,()))) (fun y4 =>
    some ((y4.1.1.1,()),(y4.2.2.1,()))) (fun y4 =>
    none)
theorem yQC (x:InD yfg):zjH ⟨yow,27,yy3⟩ Tryz.f117.results.toList yi7 yfg yoO x=ykL x.1 x.2.1:=by kernel_rfl
theorem yMa:ConOk Tryz.prog 117 ⟨yfg,yoO,fun x=>ykL x.1 x.2.1⟩:=zkh (yIq) Tryz.func117 (by kernel_rfl) (by kernel_rfl) Tryz.ntmps117.symm (by decide) (fun x r h=>(yQC x).trans h)
def yMR (x:dW) (k:Int):Int×dW:=(yx (IntKind.i64.wrap (k+1)) x.2.length,(k,yf9 (IntKind.i64.wrap (k+1)) x.2.length))
def yaK (a0:List (dW)) (a1:Int):Int×List (dW):=zaX yMR a0 a1
theorem yOM (a0:List (dW)) (a1:Int) (hk:zi9 yfg (a0,a1,())):ykL a0 a1=(fun n=>some ((n.1,()),(n.2,()))) (yaK a0 a1):=by
  have hb:a0.length * 32≤2 ^ 47:=hk.1.1
  have hl:ypx ((((),()),(a1,()),((),()),()),(),(a0,()))=some (.inl ((((zaX yMR a0 a1).1,()),()),(),((zaX yMR a0 a1).2,()))) :=
    zkl (step:=ybm) a0 ((0,[]):dW) (fun i k m=>((((),()),(k,()),((i:Int),()),()),(),(m,()))) yMR (fun k m=> .inl (((k,()),()),(),(m,()))) (fun i s m hi hm=>by
      simp only [ybm,yoh,zjI (show (i:Int) < m.length by omega),List.length_set,zkO hi,Int.toNat_natCast,List.set_set,cond_true,zkP hi,wr (show -9223372036854775808≤(i:Int)+1 by omega) (by omega),Int.natCast_add,Int.natCast_one,zjW]
      rfl) (fun s m hm=>by simp only [ybm,yoh,hm,zkm (Int.le_refl _),cond_false]) a1 _ (by show _ < 18446744073709551616; omega)
  unfold ykL yaK
  rw [hl]; rfl
def yzL:Con:=⟨yfg,yoO,fun x=>(fun n=>some ((n.1,()),(n.2,()))) (yaK x.1 x.2.1)⟩
theorem yPz:ConOk Tryz.prog 117 yzL:=(yMa).mono (fun x r hk h=>(yOM x.1 x.2.1 hk).trans h)
end
section
def ygM:Code:=(Tryz.f41.body).getD .skip
def yma:Env:=zki TT [(20,yeX),(116,yvv),(117,yzL)] []
theorem yGJ:FrOk Tryz.prog ⟨yma,43,fun _=>none⟩ ygM:=zkp yb yc ⟨ykC,yJr,yPz,trivial⟩
def yw4:Nat→Option Seg:=fun _=>none
def ybV:Shape:=⟨[(0,false,[.at 1000001000]),(1,false,[.int .i64]),(5,false,[.int .i64])],[],[(1000001000,tM,(.pr (.ow (.ow .fz)) (.pr (.ow (.pr .fz (.ow .fz))) (.pr .fz (.ow .fz)))))]⟩
def yhk:Shape:=⟨[(0,false,[.at 1000001000]),(1,false,[.int .i64]),(5,false,[.ci .i64 0])],[],[(1000001000,tM,(.pr (.ow (.ow .fz)) (.pr (.ow (.pr .fz (.ow .fz))) (.pr .fz (.ow .fz)))))]⟩
def yg5:Shape:=⟨[(1,false,[.int .i64])],[],[(1000001000,tM,(.pr (.ow (.ow .fz)) (.pr (.ow (.pr .fz (.ow .fz))) (.pr .fz (.ow .fz)))))]⟩
def yhH:Shape:=⟨[],[],[]⟩
def ylW (v0:Int) (v1:Int) (v2:List dM):Option ((ybV).X ⊕ ((yg5).X ⊕ (yhH).X)) :=
  bif (ltb v1 (v2.length:Int)) then
    bif (inb v1 v2.length) then
      let r9:=yJ ((nth v2 v1 ([],[],false,[])).1) v0
      bif (inb v1 (v2.set (v1).toNat (r9.2,((nth v2 v1 ([],[],false,[])).2).1,(((nth v2 v1 ([],[],false,[])).2).2).1,(((nth v2 v1 ([],[],false,[])).2).2).2)).length) then
        let r11:=yaK (((nth (v2.set (v1).toNat (r9.2,((nth v2 v1 ([],[],false,[])).2).1,(((nth v2 v1 ([],[],false,[])).2).2).1,(((nth v2 v1 ([],[],false,[])).2).2).2)) v1 ([],[],false,[])).2).1) r9.1
        bif (inb v1 ((v2.set (v1).toNat (r9.2,((nth v2 v1 ([],[],false,[])).2).1,(((nth v2 v1 ([],[],false,[])).2).2).1,(((nth v2 v1 ([],[],false,[])).2).2).2)).set (v1).toNat ((nth (v2.set (v1).toNat (r9.2,((nth v2 v1 ([],[],false,[])).2).1,(((nth v2 v1 ([],[],false,[])).2).2).1,(((nth v2 v1 ([],[],false,[])).2).2).2)) v1 ([],[],false,[])).1,r11.2,(((nth (v2.set (v1).toNat (r9.2,((nth v2 v1 ([],[],false,[])).2).1,(((nth v2 v1 ([],[],false,[])).2).2).1,(((nth v2 v1 ([],[],false,[])).2).2).2)) v1 ([],[],false,[])).2).2).1,(((nth (v2.set (v1).toNat (r9.2,((nth v2 v1 ([],[],false,[])).2).1,(((nth v2 v1 ([],[],false,[])).2).2).1,(((nth v2 v1 ([],[],false,[])).2).2).2)) v1 ([],[],false,[])).2).2).2)).length) then
          let r12:=(((v2.set (v1).toNat (r9.2,((nth v2 v1 ([],[],false,[])).2).1,(((nth v2 v1 ([],[],false,[])).2).2).1,(((nth v2 v1 ([],[],false,[])).2).2).2)).set (v1).toNat ((nth (v2.set (v1).toNat (r9.2,((nth v2 v1 ([],[],false,[])).2).1,(((nth v2 v1 ([],[],false,[])).2).2).1,(((nth v2 v1 ([],[],false,[])).2).2).2)) v1 ([],[],false,[])).1,r11.2,(((nth (v2.set (v1).toNat (r9.2,((nth v2 v1 ([],[],false,[])).2).1,(((nth v2 v1 ([],[],false,[])).2).2).1,(((nth v2 v1 ([],[],false,[])).2).2).2)) v1 ([],[],false,[])).2).2).1,(((nth (v2.set (v1).toNat (r9.2,((nth v2 v1 ([],[],false,[])).2).1,(((nth v2 v1 ([],[],false,[])).2).2).1,(((nth v2 v1 ([],[],false,[])).2).2).2)) v1 ([],[],false,[])).2).2).2)).set (v1).toNat ((nth ((v2.set (v1).toNat (r9.2,((nth v2 v1 ([],[],false,[])).2).1,(((nth v2 v1 ([],[],false,[])).2).2).1,(((nth v2 v1 ([],[],false,[])).2).2).2)).set (v1).toNat ((nth (v2.set (v1).toNat (r9.2,((nth v2 v1 ([],[],false,[])).2).1,(((nth v2 v1 ([],[],false,[])).2).2).1,(((nth v2 v1 ([],[],false,[])).2).2).2)) v1 ([],[],false,[])).1,r11.2,(((nth (v2.set (v1).toNat (r9.2,((nth v2 v1 ([],[],false,[])).2).1,(((nth v2 v1 ([],[],false,[])).2).2).1,(((nth v2 v1 ([],[],false,[])).2).2).2)) v1 ([],[],false,[])).2).2).1,(((nth (v2.set (v1).toNat (r9.2,((nth v2 v1 ([],[],false,[])).2).1,(((nth v2 v1 ([],[],false,[])).2).2).1,(((nth v2 v1 ([],[],false,[])).2).2).2)) v1 ([],[],false,[])).2).2).2)) v1 ([],[],false,[])).1,((nth ((v2.set (v1).toNat (r9.2,((nth v2 v1 ([],[],false,[])).2).1,(((nth v2 v1 ([],[],false,[])).2).2).1,(((nth v2 v1 ([],[],false,[])).2).2).2)).set (v1).toNat ((nth (v2.set (v1).toNat (r9.2,((nth v2 v1 ([],[],false,[])).2).1,(((nth v2 v1 ([],[],false,[])).2).2).1,(((nth v2 v1 ([],[],false,[])).2).2).2)) v1 ([],[],false,[])).1,r11.2,(((nth (v2.set (v1).toNat (r9.2,((nth v2 v1 ([],[],false,[])).2).1,(((nth v2 v1 ([],[],false,[])).2).2).1,(((nth v2 v1 ([],[],false,[])).2).2).2)) v1 ([],[],false,[])).2).2).1,(((nth (v2.set (v1).toNat (r9.2,((nth v2 v1 ([],[],false,[])).2).1,(((nth v2 v1 ([],[],false,[])).2).2).1,(((nth v2 v1 ([],[],false,[])).2).2).2)) v1 ([],[],false,[])).2).2).2)) v1 ([],[],false,[])).2).1,((r11.1.tmod 3)==0),(((nth ((v2.set (v1).toNat (r9.2,((nth v2 v1 ([],[],false,[])).2).1,(((nth v2 v1 ([],[],false,[])).2).2).1,(((nth v2 v1 ([],[],false,[])).2).2).2)).set (v1).toNat ((nth (v2.set (v1).toNat (r9.2,((nth v2 v1 ([],[],false,[])).2).1,(((nth v2 v1 ([],[],false,[])).2).2).1,(((nth v2 v1 ([],[],false,[])).2).2).2)) v1 ([],[],false,[])).1,r11.2,(((nth (v2.set (v1).toNat (r9.2,((nth v2 v1 ([],[],false,[])).2).1,(((nth v2 v1 ([],[],false,[])).2).2).1,(((nth v2 v1 ([],[],false,[])).2).2).2)) v1 ([],[],false,[])).2).2).1,(((nth (v2.set (v1).toNat (r9.2,((nth v2 v1 ([],[],false,[])).2).1,(((nth v2 v1 ([],[],false,[])).2).2).1,(((nth v2 v1 ([],[],false,[])).2).2).2)) v1 ([],[],false,[])).2).2).2)) v1 ([],[],false,[])).2).2).2))
          bif (inb v1 r12.length) then
            let r14:=yH ((((nth r12 v1 ([],[],false,[])).2).2).2) (IntKind.i64.wrap (r11.1+1))
            some (.inl ((((),()),(r14.1,()),((IntKind.i64.wrap (v1+1)),()),()),(),((r12.set (v1).toNat ((nth r12 v1 ([],[],false,[])).1,((nth r12 v1 ([],[],false,[])).2).1,(((nth r12 v1 ([],[],false,[])).2).2).1,r14.2)),())))
          else none
        else none
      else none
    else none
  else
    some (.inr (.inl (((v0,()),()),(),(v2,()))))
def yaW (x:(ybV).X):=ylW x.1.2.1.1 x.1.2.2.1.1 x.2.2.1
def ytR (x:(yhk).X):(ybV).X:=((((),()),(x.1.2.1.1,()),(0,()),()),(),(x.2.2.1,()))
def yvp:Code:=(zdI ygM 64 52).getD .skip
theorem yF9:zdI ygM 64 13=some (.block 0 (.loop yvp)):=by kernel_rfl
theorem yHw (x:(ybV).X):zg7 ⟨yma,43,yw4⟩ 0 yvp 52 ybV yg5 yhH x=yaW x:=by kernel_rfl
def yt4 (x:(yhk).X):Nat:=(fun (u0:Int) (u1:List dM)=>18446744073709551616) x.1.2.1.1 x.2.2.1
def ynr (x:(yhk).X):Option ((yg5).X ⊕ (yhH).X):=zr yaW (yt4 x) (ytR x)
def yul:Seg:=⟨yhk,yg5,yhH,ynr⟩
def yw5:Nat→Option Seg:=fun q=>bif Nat.beq q 13 then some yul else yw4 q
theorem yGK:FrOk Tryz.prog ⟨yma,43,yw5⟩ ygM:=(yGJ).loop (sg:=yul) ybV ytR (by decide) yF9 yaW yt4 (by decide) (fun _=>rfl) (fun x r _ h=>h) yHw
abbrev yed:List Par:= [.mt tMs (.ow (.pr (.ow (.ow .fz)) (.pr (.ow (.pr .fz (.ow .fz))) (.pr .fz (.ow .fz))))),.rd tI]
abbrev ymu:List OT:= [⟨false,tI,.fz⟩]
def yiW (a0:List dM) (a1:Int):Option (ResD ymu×MutD yed) :=
  zjw (ynr ((((),()),(a1,()),((),()),()),(),(a0,()))) (fun y14 =>
    some ((y14.1.1.1,()),(y14.2.2.1,()))) (fun y14 =>
    none)
theorem yND (x:InD yed):zjH ⟨yma,43,yw5⟩ Tryz.f41.results.toList ygM yed ymu x=yiW x.1 x.2.1:=by kernel_rfl
theorem yJh:ConOk Tryz.prog 41 ⟨yed,ymu,fun x=>yiW x.1 x.2.1⟩:=zkh (yGK) Tryz.func41 (by kernel_rfl) (by kernel_rfl) Tryz.ntmps41.symm (by decide) (fun x r h=>(yND x).trans h)
def yyG (x:dM) (k:Int):Int×dM:=((yH x.2.2.2 (IntKind.i64.wrap ((yaK x.2.1 (yJ x.1 k).1).1+1))).1,((yJ x.1 k).2,(yaK x.2.1 (yJ x.1 k).1).2,((yaK x.2.1 (yJ x.1 k).1).1.tmod 3==0),(yH x.2.2.2 (IntKind.i64.wrap ((yaK x.2.1 (yJ x.1 k).1).1+1))).2))
def yaj (a0:List (dM)) (a1:Int):Int×List (dM):=zaX yyG a0 a1
theorem yLR (a0:List (dM)) (a1:Int) (hk:zi9 yed (a0,a1,())):yiW a0 a1=(fun n=>some ((n.1,()),(n.2,()))) (yaj a0 a1):=by
  have hb:a0.length * 80≤2 ^ 47:=hk.1.1
  have hl:ynr ((((),()),(a1,()),((),()),()),(),(a0,()))=some (.inl ((((zaX yyG a0 a1).1,()),()),(),((zaX yyG a0 a1).2,()))) :=
    zkl (step:=yaW) a0 (([],[],false,[]):dM) (fun i k m=>((((),()),(k,()),((i:Int),()),()),(),(m,()))) yyG (fun k m=> .inl (((k,()),()),(),(m,()))) (fun i s m hi hm=>by
      simp only [yaW,ylW,zjI (show (i:Int) < m.length by omega),List.length_set,zkO hi,Int.toNat_natCast,List.set_set,cond_true,zkP hi,wr (show -9223372036854775808≤(i:Int)+1 by omega) (by omega),Int.natCast_add,Int.natCast_one,zjW]
      rfl) (fun s m hm=>by simp only [yaW,ylW,hm,zkm (Int.le_refl _),cond_false]) a1 _ (by show _ < 18446744073709551616; omega)
  unfold yiW yaj
  rw [hl]; rfl
def yxz:Con:=⟨yed,ymu,fun x=>(fun n=>some ((n.1,()),(n.2,()))) (yaj x.1 x.2.1)⟩
theorem yMs:ConOk Tryz.prog 41 yxz:=(yJh).mono (fun x r hk h=>(yLR x.1 x.2.1 hk).trans h)
end
section
def ygK:Code:=(Tryz.f72.body).getD .skip
def yl8:Env:=zki TT [(20,yeX)] []
theorem yGF:FrOk Tryz.prog ⟨yl8,27,fun _=>none⟩ ygK:=zkp yb yc ⟨ykC,trivial⟩
def yw0:Nat→Option Seg:=fun _=>none
def ybT:Shape:=⟨[(0,false,[.at 1000001000]),(1,false,[.int .i64]),(5,false,[.int .i64])],[],[(1000001000,tW,(.pr .fz (.ow .fz)))]⟩
def yhi:Shape:=⟨[(0,false,[.at 1000001000]),(1,false,[.int .i64]),(5,false,[.ci .i64 0])],[],[(1000001000,tW,(.pr .fz (.ow .fz)))]⟩
def yg3:Shape:=⟨[(1,false,[.int .i64])],[],[(1000001000,tW,(.pr .fz (.ow .fz)))]⟩
def yhF:Shape:=⟨[],[],[]⟩
def ylU (v0:Int) (v1:Int) (v2:List dW):Option ((ybT).X ⊕ ((yg3).X ⊕ (yhF).X)) :=
  bif (ltb v1 (v2.length:Int)) then
    bif (inb v1 v2.length) then
      bif (inb v1 (v2.set (v1).toNat (v0,(nth v2 v1 (0,[])).2)).length) then
        let r4:=yH ((nth (v2.set (v1).toNat (v0,(nth v2 v1 (0,[])).2)) v1 (0,[])).2) (IntKind.i64.wrap (v0+1))
        some (.inl ((((),()),(r4.1,()),((IntKind.i64.wrap (v1+1)),()),()),(),(((v2.set (v1).toNat (v0,(nth v2 v1 (0,[])).2)).set (v1).toNat ((nth (v2.set (v1).toNat (v0,(nth v2 v1 (0,[])).2)) v1 (0,[])).1,r4.2)),())))
      else none
    else none
  else
    some (.inr (.inl (((v0,()),()),(),(v2,()))))
def yaU (x:(ybT).X):=ylU x.1.2.1.1 x.1.2.2.1.1 x.2.2.1
def ytP (x:(yhi).X):(ybT).X:=((((),()),(x.1.2.1.1,()),(0,()),()),(),(x.2.2.1,()))
def yvn:Code:=(zdI ygK 64 52).getD .skip
theorem yF7:zdI ygK 64 13=some (.block 0 (.loop yvn)):=by kernel_rfl
theorem yHu (x:(ybT).X):zg7 ⟨yl8,27,yw0⟩ 0 yvn 52 ybT yg3 yhF x=yaU x:=by kernel_rfl
def yt2 (x:(yhi).X):Nat:=(fun (u0:Int) (u1:List dW)=>18446744073709551616) x.1.2.1.1 x.2.2.1
def ynp (x:(yhi).X):Option ((yg3).X ⊕ (yhF).X):=zr yaU (yt2 x) (ytP x)
def yuj:Seg:=⟨yhi,yg3,yhF,ynp⟩
def yw1:Nat→Option Seg:=fun q=>bif Nat.beq q 13 then some yuj else yw0 q
theorem yGG:FrOk Tryz.prog ⟨yl8,27,yw1⟩ ygK:=(yGF).loop (sg:=yuj) ybT ytP (by decide) yF7 yaU yt2 (by decide) (fun _=>rfl) (fun x r _ h=>h) yHu
abbrev yeb:List Par:= [.mt tWs (.ow (.pr .fz (.ow .fz))),.rd tI]
abbrev yms:List OT:= [⟨false,tI,.fz⟩]
def yiU (a0:List dW) (a1:Int):Option (ResD yms×MutD yeb) :=
  zjw (ynp ((((),()),(a1,()),((),()),()),(),(a0,()))) (fun y4 =>
    some ((y4.1.1.1,()),(y4.2.2.1,()))) (fun y4 =>
    none)
theorem yNB (x:InD yeb):zjH ⟨yl8,27,yw1⟩ Tryz.f72.results.toList ygK yeb yms x=yiU x.1 x.2.1:=by kernel_rfl
theorem yJf:ConOk Tryz.prog 72 ⟨yeb,yms,fun x=>yiU x.1 x.2.1⟩:=zkh (yGG) Tryz.func72 (by kernel_rfl) (by kernel_rfl) Tryz.ntmps72.symm (by decide) (fun x r h=>(yNB x).trans h)
def yDU (x:dW) (k:Int):Int×dW:=(yx (IntKind.i64.wrap (k+1)) x.2.length,(k,yf9 (IntKind.i64.wrap (k+1)) x.2.length))
def yep (a0:List (dW)) (a1:Int):Int×List (dW):=zaX yDU a0 a1
theorem yLP (a0:List (dW)) (a1:Int) (hk:zi9 yeb (a0,a1,())):yiU a0 a1=(fun n=>some ((n.1,()),(n.2,()))) (yep a0 a1):=by
  have hb:a0.length * 32≤2 ^ 47:=hk.1.1
  have hl:ynp ((((),()),(a1,()),((),()),()),(),(a0,()))=some (.inl ((((zaX yDU a0 a1).1,()),()),(),((zaX yDU a0 a1).2,()))) :=
    zkl (step:=yaU) a0 ((0,[]):dW) (fun i k m=>((((),()),(k,()),((i:Int),()),()),(),(m,()))) yDU (fun k m=> .inl (((k,()),()),(),(m,()))) (fun i s m hi hm=>by
      simp only [yaU,ylU,zjI (show (i:Int) < m.length by omega),List.length_set,zkO hi,Int.toNat_natCast,List.set_set,cond_true,zkP hi,wr (show -9223372036854775808≤(i:Int)+1 by omega) (by omega),Int.natCast_add,Int.natCast_one,zjW]
      rfl) (fun s m hm=>by simp only [yaU,ylU,hm,zkm (Int.le_refl _),cond_false]) a1 _ (by show _ < 18446744073709551616; omega)
  unfold yiU yep
  rw [hl]; rfl
def yxy:Con:=⟨yeb,yms,fun x=>(fun n=>some ((n.1,()),(n.2,()))) (yep x.1 x.2.1)⟩
theorem yMr:ConOk Tryz.prog 72 yxy:=(yJf).mono (fun x r hk h=>(yLP x.1 x.2.1 hk).trans h)
end
section
def yCn:Code:=(Tryz.f19.body).getD .skip
def yCN:Env:=zki TT [(41,yxz),(72,yxy)] []
theorem yIo:FrOk Tryz.prog ⟨yCN,14,fun _=>none⟩ yCn:=zkp yb yc ⟨yMs,yMr,trivial⟩
def yJ1:Nat→Option Seg:=fun _=>none
abbrev yjr:List Par:= [.mt tA (.pr .fz (.pr (.pr .fz .fz) (.pr (.ow (.pr (.ow (.ow .fz)) (.pr (.ow (.pr .fz (.ow .fz))) (.pr .fz (.ow .fz))))) (.pr .fz (.pr .fz (.pr .fz (.pr .fz (.pr .fz (.pr (.ow (.pr .fz (.ow .fz))) (.pr .fz (.pr .fz .fz))))))))))),.rd tI]
abbrev yoN:List OT:= [⟨false,tI,.fz⟩]
def yrL (a0:dA) (a1:Int):Option (ResD yoN×MutD yjr) :=
  let r1:=yaj a0.2.2.1 a1
  let r2:=yep a0.2.2.2.2.2.2.2.2.1 r1.1
  some ((r2.1,()),((a0.1,a0.2.1,r1.2,a0.2.2.2.1,a0.2.2.2.2.1,a0.2.2.2.2.2.1,a0.2.2.2.2.2.2.1,a0.2.2.2.2.2.2.2.1,r2.2,a0.2.2.2.2.2.2.2.2.2),()))
theorem yQB (x:InD yjr):zjH ⟨yCN,14,yJ1⟩ Tryz.f19.results.toList yCn yjr yoN x=yrL x.1 x.2.1:=by kernel_rfl
theorem yL9:ConOk Tryz.prog 19 ⟨yjr,yoN,fun x=>yrL x.1 x.2.1⟩:=zkh (yIo) Tryz.func19 (by kernel_rfl) (by kernel_rfl) Tryz.ntmps19.symm (by decide) (fun x r h=>(yQB x).trans h)
def yE (a0:dA) (a1:Int):Int×dA :=
  let r1:=yaj a0.2.2.1 a1
  let r2:=yep a0.2.2.2.2.2.2.2.2.1 r1.1
  (r2.1,(a0.1,a0.2.1,r1.2,a0.2.2.2.1,a0.2.2.2.2.1,a0.2.2.2.2.2.1,a0.2.2.2.2.2.2.1,a0.2.2.2.2.2.2.2.1,r2.2,a0.2.2.2.2.2.2.2.2.2))
def yzK:Con:=⟨yjr,yoN,fun x=>(fun n=>some ((n.1,()),(n.2,()))) (yE x.1 x.2.1)⟩
theorem yOL (a0:dA) (a1:Int):yrL a0 a1=(fun n=>some ((n.1,()),(n.2,()))) (yE a0 a1):=zkS (p:=fun (n:Int×dA)=>((n.1,()),(n.2,()))) rfl
theorem yPy:ConOk Tryz.prog 19 yzK:=(yL9).mono (fun x r _ h=>(yOL x.1 x.2.1).trans h)
end
section
def ygI:Code:=(Tryz.f21.body).getD .skip
def yl6:Env:=zki TT [] []
theorem yGB:FrOk Tryz.prog ⟨yl6,21,fun _=>none⟩ ygI:=zkp yb yc trivial
def ywW:Nat→Option Seg:=fun _=>none
def ybR:Shape:=⟨[(0,false,[.br tI]),(1,false,[.int .i64]),(5,false,[.int .i64])],[],[]⟩
def yhg:Shape:=⟨[(0,false,[.br tI]),(1,false,[.int .i64]),(5,false,[.ci .i64 0])],[],[]⟩
def yg1:Shape:=⟨[(1,false,[.int .i64])],[],[]⟩
def yhD:Shape:=⟨[(4,false,[.int .i64])],[],[]⟩
def ylS (v0:List Int) (v1:Int) (v2:Int):Option ((ybR).X ⊕ ((yg1).X ⊕ (yhD).X)) :=
  bif (ltb v2 (v0.length:Int)) then
    bif (inb v2 v0.length) then
      bif ((nth v0 v2 0) !=v1) then
        some (.inr (.inr ((((-1),()),()),(),())))
      else
        some (.inl (((v0,()),((IntKind.i64.wrap (v1+1)),()),((IntKind.i64.wrap (v2+1)),()),()),(),()))
    else none
  else
    some (.inr (.inl (((v1,()),()),(),())))
def yaS (x:(ybR).X):=ylS x.1.1.1 x.1.2.1.1 x.1.2.2.1.1
def ytN (x:(yhg).X):(ybR).X:=(((x.1.1.1,()),(x.1.2.1.1,()),(0,()),()),(),())
def yvl:Code:=(zdI ygI 64 52).getD .skip
theorem yF5:zdI ygI 64 13=some (.block 0 (.loop yvl)):=by kernel_rfl
theorem yHs (x:(ybR).X):zg7 ⟨yl6,21,ywW⟩ 0 yvl 52 ybR yg1 yhD x=yaS x:=by kernel_rfl
def yt0 (x:(yhg).X):Nat:=(fun (u0:List Int) (u1:Int)=>18446744073709551616) x.1.1.1 x.1.2.1.1
def ynn (x:(yhg).X):Option ((yg1).X ⊕ (yhD).X):=zr yaS (yt0 x) (ytN x)
def yuh:Seg:=⟨yhg,yg1,yhD,ynn⟩
def ywX:Nat→Option Seg:=fun q=>bif Nat.beq q 13 then some yuh else ywW q
theorem yGC:FrOk Tryz.prog ⟨yl6,21,ywX⟩ ygI:=(yGB).loop (sg:=yuh) ybR ytN (by decide) yF5 yaS yt0 (by decide) (fun _=>rfl) (fun x r _ h=>h) yHs
abbrev yd9:List Par:= [.rd tL,.rd tI]
abbrev ymq:List OT:= [⟨false,tI,.fz⟩]
def yiS (a0:List Int) (a1:Int):Option (ResD ymq×MutD yd9) :=
  zjw (ynn (((a0,()),(a1,()),((),()),()),(),())) (fun y0 =>
    some ((y0.1.1.1,()),())) (fun y0 =>
    some ((y0.1.1.1,()),()))
theorem yNz (x:InD yd9):zjH ⟨yl6,21,ywX⟩ Tryz.f21.results.toList ygI yd9 ymq x=yiS x.1 x.2.1:=by kernel_rfl
theorem yJd:ConOk Tryz.prog 21 ⟨yd9,ymq,fun x=>yiS x.1 x.2.1⟩:=zkh (yGC) Tryz.func21 (by kernel_rfl) (by kernel_rfl) Tryz.ntmps21.symm (by decide) (fun x r h=>(yNz x).trans h)
def yj (a0:List Int) (a1:Int):Int:=bif (List.range a0.length).any (fun i=>a0.getD i 0 !=yx a1 i) then -1 else yx a1 a0.length
theorem yLN (a0:List Int) (a1:Int) (hk:zi9 yd9 (a0,a1,())):yiS a0 a1=(fun n=>some ((n,()),())) (yj a0 a1):=by
  have hb:a0.length * 8≤2 ^ 47:=hk.1.1
  have hl:ynn (((a0,()),(a1,()),((),()),()),(),())=some (bif (List.range a0.length).any (fun i=>a0.getD i 0 !=yx a1 i) then .inr ((((-1),()),()),(),()) else .inl (((yx a1 a0.length,()),()),(),())) :=
    zf4 (step:=yaS) (fun i=>(((a0,()),(yx a1 i,()),((i:Int),()),()),(),())) a0.length (fun i=>a0.getD i 0 !=yx a1 i) _ _ (fun i hi=>by
      simp only [yaS,ylS,zkO hi,zjW,zjI (show (i:Int) < a0.length by omega),cond_true,wr (show -9223372036854775808≤(i:Int)+1 by omega) (by omega),Int.natCast_add,Int.natCast_one,yAl]
      cases (a0.getD i 0 !=yx a1 i)<;>rfl) (by simp only [yaS,ylS,zkm (Int.le_refl _),cond_false]) _ (by show _ < 18446744073709551616; omega)
  unfold yiS yj
  rw [hl]
  cases (List.range a0.length).any (fun i=>a0.getD i 0 !=yx a1 i)<;>rfl
theorem ySo: ∀ (n i:Nat) (k:Int),i < n→(yf9 k n).getD i 0=yx k i
  | n+1,0,k,_=>rfl
  | n+1,i+1,k,h=>ySo n i _ (by omega)
theorem yyC (n:Nat) (k:Int):yj (yf9 k n) k=yx k n:=by
  unfold yj
  rw [yr4]
  have:(List.range n).any (fun i=>(yf9 k n).getD i 0 !=yx k i)=false:=by
    rw [List.any_eq_false]
    intro i hi
    rw [ySo n i k (List.mem_range.1 hi)]
    simp
  rw [this]; rfl
def yeW:Con:=⟨yd9,ymq,fun x=>(fun n=>some ((n,()),())) (yj x.1 x.2.1)⟩
theorem ykB:ConOk Tryz.prog 21 yeW:=(yJd).mono (fun x r hk h=>(yLN x.1 x.2.1 hk).trans h)
end
end
end Go.Tf
