/- Functions of the program, and what they come to. -/
import Derived.Test.YtgmadfpnljibhaaGreatArrsF18
namespace Go.Tf
noncomputable section
open Go.Proofs
set_option synthInstance.maxHeartbeats 400000
set_option synthInstance.maxSize 10000
set_option linter.unusedVariables false
set_option linter.unusedSimpArgs false
set_option maxRecDepth 100000
section
def yFu:Code:=(Tryz.f208.body).getD .skip
def yGc:Env:=zj2 TT [(203,yoq),(261,yor)] []
theorem yMK:FrOk Tryz.prog ⟨yGc,17,fun _=>none⟩ yFu:=zj6 yc yd ⟨yxa,yxb,trivial⟩
def yOb:Nat→Option Seg:=fun _=>none
abbrev ykE:List Par:= [.pt tA (.pr .fz (.pr (.pr .fz .fz) (.pr (.ow (.pr (.ow .fz) (.pr (.ow (.pr .fz .fz)) (.pr .fz (.ow .fz))))) (.pr .fz (.pr .fz (.pr .fz (.pr .fz (.pr .fz (.pr (.ow (.pr .fz .fz)) (.pr .fz (.pr .fz .fz)))))))))))]
abbrev yqu:List OT:= []
def ytB (a0:dA):Option (ResD yqu×MutD ykE) :=
 let r1:=ydA a0
 bif r1.2.2.2.2.2.2.2.2.2.2.1 then
 some ((),(r1,()))
 else
 let r2:=yas (r1.1,r1.2.1,r1.2.2.1,r1.2.2.2.1,r1.2.2.2.2.1,r1.2.2.2.2.2.1,r1.2.2.2.2.2.1,r1.2.2.2.2.2.2.2)
 some ((),(r2,()))
theorem yVM (x:InD ykE):zjx ⟨yGc,17,yOb⟩ Tryz.f208.results.toList yFu ykE yqu x=ytB x.1:=by kernel_rfl
theorem yQJ:ConOk Tryz.prog 208 ⟨ykE,yqu,fun x=>ytB x.1⟩:=zj1 (yMK) Tryz.func208 (by kernel_rfl) (by kernel_rfl) Tryz.ntmps208.symm (by decide) (fun x r h=>(yVM x).trans h)
def ygt (a0:dA):dA :=
 let r1:=ydA a0
 bif r1.2.2.2.2.2.2.2.2.2.2.1 then
 r1
 else
 let r2:=yas (r1.1,r1.2.1,r1.2.2.1,r1.2.2.2.1,r1.2.2.2.2.1,r1.2.2.2.2.2.1,r1.2.2.2.2.2.1,r1.2.2.2.2.2.2.2)
 r2
def yta:Con:=⟨ykE,yqu,fun x=>(fun n=>some ((),(n,()))) (ygt x.1)⟩
theorem yTL (a0:dA):ytB a0=(fun n=>some ((),(n,()))) (ygt a0):=zkp (p:=fun (n:dA)=>((),(n,()))) (zkb (p:=fun (n:dA)=>((),(n,()))) rfl rfl)
theorem yEU:ConOk Tryz.prog 208 yta:=(yQJ).mono (fun x r _ h=>(yTL x.1).trans h)
theorem yIy (a:dA):ygt a=checkA a:=by
 unfold ygt checkA ydA yas
 show (bif downA (ycI a) then ycI a else markA (yv7 (ycI a)))=_
 rfl
end
section
def yHF:Code:=(Tryz.f271.body).getD .skip
def yIc:Env:=zj2 TT [(239,yGo)] []
theorem yO0:FrOk Tryz.prog ⟨yIc,18,fun _=>none⟩ yHF:=zj6 yc yd ⟨yY6,trivial⟩
def yRv:Nat→Option Seg:=fun _=>none
abbrev yhO:List Par:= [.rd tN]
abbrev yst:List OT:= [⟨false,tL,(.ow .fz)⟩]
def yoH (a0:dN):Option (ResD yst×MutD yhO) :=
 let r1:=yhk a0
 bif (!r1) then
 some ((([]:List Int),()),())
 else
 bif (zjR ([21322,a0.1,a0.2.1,(a0.2.2.length:Int)]:List Int).length a0.2.2.length 8) then
 some (((([21322,a0.1,a0.2.1,(a0.2.2.length:Int)]:List Int)++a0.2.2),()),())
 else none
theorem yYh (x:InD yhO):zjx ⟨yIc,18,yRv⟩ Tryz.f271.results.toList yHF yhO yst x=yoH x.1:=by kernel_rfl
theorem yT8:ConOk Tryz.prog 271 ⟨yhO,yst,fun x=>yoH x.1⟩:=zj1 (yO0) Tryz.func271 (by kernel_rfl) (by kernel_rfl) Tryz.ntmps271.symm (by decide) (fun x r h=>(yYh x).trans h)
def ymW (a0:dN):List Int:=yUK a0
theorem yWk (a0:dN) (hk:zi2 yhO (a0,())):yoH a0=(fun n=>some ((n,()),())) (ymW a0):=by
 unfold yoH ymW yUK
 cases hr:yhk a0
 ·rfl
 ·have:=(y1D.1 hr).2.2.1
  rw [zka.2 (show (([21322,a0.1,a0.2.1,(a0.2.2.length:Int)]:List Int).length+a0.2.2.length) * 8≤140737488355328 by simp only [List.length_cons,List.length_nil]; omega)]; rfl
def yEr:Con:=⟨yhO,yst,fun x=>(fun n=>some ((n,()),())) (ymW x.1)⟩
theorem yW9:ConOk Tryz.prog 271 yEr:=(yT8).mono (fun x r hk h=>(yWk x.1 hk).trans h)
end
section
def yoY:Code:=(Tryz.f229.body).getD .skip
def yuf:Env:=zj2 TT [(160,yEs),(207,ykY),(261,yor),(271,yEr)] []
theorem yS7:FrOk Tryz.prog ⟨yuf,24,fun _=>none⟩ yoY:=zj6 yc yd ⟨yXa,ysN,yxb,yW9,trivial⟩
def yFT:Nat→Option Seg:=fun _=>none
def ycX:Shape:=⟨[(0,false,[.ptr 1000000000 0]),(3,false,[.ptr 0 0]),(4,false,[.int .i64])],[(0,[.int .i64,.int .i64,.br tI]),(1000000000,[.int .i64,.int .i64,.int .i64,.at 800000000,.int .i64,.int .i64,.int .i64,.int .i64,.int .i64,.at 800000001,.int .i64,.bool,.bool])],[(800000000,tM,(.pr (.ow .fz) (.pr (.ow (.pr .fz .fz)) (.pr .fz (.ow .fz))))),(800000001,tW,(.pr .fz .fz))]⟩
def yiE:Shape:=⟨[(0,false,[.ptr 1000000000 0]),(3,false,[.ptr 0 0]),(4,false,[.ci .i64 0])],[(0,[.int .i64,.int .i64,.br tI]),(1000000000,[.int .i64,.int .i64,.int .i64,.at 800000000,.int .i64,.int .i64,.int .i64,.int .i64,.int .i64,.at 800000001,.int .i64,.bool,.bool])],[(800000000,tM,(.pr (.ow .fz) (.pr (.ow (.pr .fz .fz)) (.pr .fz (.ow .fz))))),(800000001,tW,(.pr .fz .fz))]⟩
def yio:Shape:=⟨[(0,false,[.ptr 1000000000 0])],[(1000000000,[.int .i64,.int .i64,.int .i64,.at 800000000,.int .i64,.int .i64,.int .i64,.int .i64,.int .i64,.at 800000001,.int .i64,.bool,.bool])],[(800000000,tM,(.pr (.ow .fz) (.pr (.ow (.pr .fz .fz)) (.pr .fz (.ow .fz))))),(800000001,tW,(.pr .fz .fz))]⟩
def yoe:Shape:=⟨[],[],[]⟩
abbrev ytq (v0:Int) (v1:dN) (v2:dA):(ycX).X:=((((),()),((),()),(v0,()),()),((v1.1,v1.2.1,v1.2.2,()),(v2.1,v2.2.1.1,v2.2.1.2,(),v2.2.2.2.1,v2.2.2.2.2.1,v2.2.2.2.2.2.1,v2.2.2.2.2.2.2.1,v2.2.2.2.2.2.2.2.1,(),v2.2.2.2.2.2.2.2.2.2.1,v2.2.2.2.2.2.2.2.2.2.2.1,v2.2.2.2.2.2.2.2.2.2.2.2,()),()),(v2.2.2.1,v2.2.2.2.2.2.2.2.2.1,()))
abbrev yPN (v0:dN) (v1:dA):(yiE).X:=((((),()),((),()),((),()),()),((v0.1,v0.2.1,v0.2.2,()),(v1.1,v1.2.1.1,v1.2.1.2,(),v1.2.2.2.1,v1.2.2.2.2.1,v1.2.2.2.2.2.1,v1.2.2.2.2.2.2.1,v1.2.2.2.2.2.2.2.1,(),v1.2.2.2.2.2.2.2.2.2.1,v1.2.2.2.2.2.2.2.2.2.2.1,v1.2.2.2.2.2.2.2.2.2.2.2,()),()),(v1.2.2.1,v1.2.2.2.2.2.2.2.2.1,()))
abbrev yCo (v0:dA):(yio).X:=((((),()),()),((v0.1,v0.2.1.1,v0.2.1.2,(),v0.2.2.2.1,v0.2.2.2.2.1,v0.2.2.2.2.2.1,v0.2.2.2.2.2.2.1,v0.2.2.2.2.2.2.2.1,(),v0.2.2.2.2.2.2.2.2.2.1,v0.2.2.2.2.2.2.2.2.2.2.1,v0.2.2.2.2.2.2.2.2.2.2.2,()),()),(v0.2.2.1,v0.2.2.2.2.2.2.2.2.1,()))
def ytO (v0 v1 v2:Int) (v3:List Int) (v4 v5 v6 v7 v8 v9 v10 v11 v12:Int) (v13 v14:Bool) (v15:List dM) (v16:List dW):Option ((ycX).X ⊕ ((yio).X ⊕ (yoe).X)) :=
 bif (ltb v0 (v15.length:Int)) then
 let r4:=ymX v1
 let r5:=ymW (v1,v2,v3)
 bnd (yeJ (v4,(v5,v6),v15,v7,v8,v9,v10,v11,v16,v12,v13,v14) v0 r4 r5) fun r6 =>
 some (.inl ((((),()),((),()),((IntKind.i64.wrap (v0+1)),()),()),((v1,v2,v3,()),(r6.2.1.1,r6.2.1.2.1.1,r6.2.1.2.1.2,(),r6.2.1.2.2.2.1,r6.2.1.2.2.2.2.1,r6.2.1.2.2.2.2.2.1,r6.2.1.2.2.2.2.2.2.1,r6.2.1.2.2.2.2.2.2.2.1,(),r6.2.1.2.2.2.2.2.2.2.2.2.1,r6.2.1.2.2.2.2.2.2.2.2.2.2.1,r6.2.1.2.2.2.2.2.2.2.2.2.2.2,()),()),(r6.2.1.2.2.1,r6.2.1.2.2.2.2.2.2.2.2.1,())))
 else
 some (.inr (.inl ((((),()),()),((v4,v5,v6,(),v7,v8,v9,v10,v11,(),v12,v13,v14,()),()),(v15,v16,()))))
def ydt (x:(ycX).X):=ytO x.1.2.2.1.1 x.2.1.1.1 x.2.1.1.2.1 x.2.1.1.2.2.1 x.2.1.2.1.1 x.2.1.2.1.2.1 x.2.1.2.1.2.2.1 x.2.1.2.1.2.2.2.2.1 x.2.1.2.1.2.2.2.2.2.1 x.2.1.2.1.2.2.2.2.2.2.1 x.2.1.2.1.2.2.2.2.2.2.2.1 x.2.1.2.1.2.2.2.2.2.2.2.2.1 x.2.1.2.1.2.2.2.2.2.2.2.2.2.2.1 x.2.1.2.1.2.2.2.2.2.2.2.2.2.2.2.1 x.2.1.2.1.2.2.2.2.2.2.2.2.2.2.2.2.1 x.2.2.1 x.2.2.2.1
def yBY (x:(yiE).X):(ycX).X:=((((),()),((),()),(0,()),()),((x.2.1.1.1,x.2.1.1.2.1,x.2.1.1.2.2.1,()),(x.2.1.2.1.1,x.2.1.2.1.2.1,x.2.1.2.1.2.2.1,(),x.2.1.2.1.2.2.2.2.1,x.2.1.2.1.2.2.2.2.2.1,x.2.1.2.1.2.2.2.2.2.2.1,x.2.1.2.1.2.2.2.2.2.2.2.1,x.2.1.2.1.2.2.2.2.2.2.2.2.1,(),x.2.1.2.1.2.2.2.2.2.2.2.2.2.2.1,x.2.1.2.1.2.2.2.2.2.2.2.2.2.2.2.1,x.2.1.2.1.2.2.2.2.2.2.2.2.2.2.2.2.1,()),()),(x.2.2.1,x.2.2.2.1,()))
def yEh:Code:=(zdD yoY 64 52).getD .skip
theorem yRU:zdD yoY 64 13=some (.block 0 (.loop yEh)):=by kernel_rfl
theorem yUY (x:(ycX).X):zg0 ⟨yuf,24,yFT⟩ 0 yEh 52 ycX yio yoe x=ydt x:=by kernel_rfl
def yCh (x:(yiE).X):Nat:=18446744073709551616
def yuv (x:(yiE).X):Option ((yio).X ⊕ (yoe).X):=zz ydt (yCh x) (yBY x)
def yCW:Seg:=⟨yiE,yio,yoe,yuv⟩
def yFU:Nat→Option Seg:=fun q=>bif Nat.beq q 13 then some yCW else yFT q
theorem yS8:FrOk Tryz.prog ⟨yuf,24,yFU⟩ yoY:=(yS7).loop (sg:=yCW) ycX yBY (by decide) yRU ydt yCh (by decide) (fun _=>rfl) (fun x r _ h=>h) yUY
abbrev ykF:List Par:= [.pt tA (.pr .fz (.pr (.pr .fz .fz) (.pr (.ow (.pr (.ow .fz) (.pr (.ow (.pr .fz .fz)) (.pr .fz (.ow .fz))))) (.pr .fz (.pr .fz (.pr .fz (.pr .fz (.pr .fz (.pr (.ow (.pr .fz .fz)) (.pr .fz (.pr .fz .fz))))))))))),.rd tN]
abbrev yuY:List OT:= []
def yqW (a0:dA) (a1:dN):Option (ResD yuY×MutD ykF) :=
 zkh (yuv ((((),()),((),()),((),()),()),((a1.1,a1.2.1,a1.2.2,()),(a0.1,a0.2.1.1,a0.2.1.2,(),a0.2.2.2.1,a0.2.2.2.2.1,a0.2.2.2.2.2.1,a0.2.2.2.2.2.2.1,a0.2.2.2.2.2.2.2.1,(),a0.2.2.2.2.2.2.2.2.2.1,a0.2.2.2.2.2.2.2.2.2.2.1,a0.2.2.2.2.2.2.2.2.2.2.2,()),()),(a0.2.2.1,a0.2.2.2.2.2.2.2.2.1,()))) (fun y6 =>
 let r8:=ydA (y6.2.1.1.1,(y6.2.1.1.2.1,y6.2.1.1.2.2.1),y6.2.2.1,y6.2.1.1.2.2.2.2.1,y6.2.1.1.2.2.2.2.2.1,y6.2.1.1.2.2.2.2.2.2.1,y6.2.1.1.2.2.2.2.2.2.2.1,y6.2.1.1.2.2.2.2.2.2.2.2.1,y6.2.2.2.1,y6.2.1.1.2.2.2.2.2.2.2.2.2.2.1,y6.2.1.1.2.2.2.2.2.2.2.2.2.2.2.1,y6.2.1.1.2.2.2.2.2.2.2.2.2.2.2.2.1)
 some ((),(r8,()))) (fun y6 =>
 none)
theorem yZU (x:InD ykF):zjx ⟨yuf,24,yFU⟩ Tryz.f229.results.toList yoY ykF yuY x=yqW x.1 x.2.1:=by kernel_rfl
theorem yWX:ConOk Tryz.prog 229 ⟨ykF,yuY,fun x=>yqW x.1 x.2.1⟩:=zj1 (yS8) Tryz.func229 (by kernel_rfl) (by kernel_rfl) Tryz.ntmps229.symm (by decide) (fun x r h=>(yZU x).trans h)
def yk8 (a0:dA) (a1:dN):dA:=ylg a0 a1
theorem yYU (a0:dA) (a1:dN) (hk:zi2 ykF (a0,a1,())):yqW a0 a1=(fun n=>some ((),(n,()))) (yk8 a0 a1):=by
 have hb:a0.2.2.1.length * 80≤2 ^ 47:=hk.1.2.2.1.1
 have h1:yuv (yPN a1 a0)=some (.inl (yCo ((List.range a0.2.2.1.length).foldl (yCI a1) a0))) :=
  zj8 (step:=ydt) a0.2.2.1.length (fun i s=>ytq i a1 s) (yCI a1) (fun _ s=>s.2.2.1.length=a0.2.2.1.length) (fun s=> .inl (yCo s)) (fun i s hi hs=>⟨by
   simp only [ydt,ytq,ytO,hs,zj4 (show (i:Int) < a0.2.2.1.length by omega),cond_true,wr (show -9223372036854775808≤(i:Int)+1 by omega) (by omega),Int.natCast_add,Int.natCast_one,Int.toNat_natCast,zkr,ymW]
   rw [ym6 s i (ymX a1.1) (yUK a1) (zkl (by rw [hs]; exact hi))]
   rfl,(yAN a1 s i).trans hs⟩) (fun s hs=>by simp only [ydt,ytq,ytO,hs,zkx (Int.le_refl _),cond_false]) a0 rfl _ (by show _ < 18446744073709551616; omega)
 unfold yqW yk8 ylg
 exact (congrArg (fun z=>zkh z _ _) h1).trans rfl
def yGt:Con:=⟨ykF,yuY,fun x=>(fun n=>some ((),(n,()))) (yk8 x.1 x.2.1)⟩
theorem yZb:ConOk Tryz.prog 229 yGt:=(yWX).mono (fun x r hk h=>(yYU x.1 x.2.1 hk).trans h)
end
section
def yoT:Code:=(Tryz.f289.body).getD .skip
def yua:Env:=zj2 TT [] []
theorem ySQ:FrOk Tryz.prog ⟨yua,18,fun _=>none⟩ yoT:=zj6 yc yd trivial
def yFJ:Nat→Option Seg:=fun _=>none
def ycT:Shape:=⟨[(0,false,[.br tI]),(3,false,[.int .i64]),(4,false,[.int .i64])],[],[]⟩
def yiA:Shape:=⟨[(0,false,[.br tI]),(3,false,[.ci .i64 0]),(4,false,[.ci .i64 0])],[],[]⟩
def yik:Shape:=⟨[(3,false,[.int .i64])],[],[]⟩
def yoa:Shape:=⟨[],[],[]⟩
abbrev ytm (v0:List Int) (v1 v2:Int):(ycT).X:=(((v0,()),(v1,()),(v2,()),()),(),())
abbrev yPJ (v0:List Int):(yiA).X:=(((v0,()),((),()),((),()),()),(),())
abbrev yCm (v0:Int):(yik).X:=(((v0,()),()),(),())
def ytK (v0:List Int) (v1 v2:Int):Option ((ycT).X ⊕ ((yik).X ⊕ (yoa).X)) :=
 bif (ltb v2 (v0.length:Int)) then
 bif (inb v2 v0.length) then
 some (.inl (((v0,()),((IntKind.i64.wrap ((BitVec.ofInt IntKind.i64.bits v1 ^^^ BitVec.ofInt IntKind.i64.bits (nth v0 v2 0)).toNat:Int)),()),((IntKind.i64.wrap (v2+1)),()),()),(),()))
 else none
 else
 some (.inr (.inl (((v1,()),()),(),())))
def ydp (x:(ycT).X):=ytK x.1.1.1 x.1.2.1.1 x.1.2.2.1.1
def yBT (x:(yiA).X):(ycT).X:=(((x.1.1.1,()),(0,()),(0,()),()),(),())
def yEc:Code:=(zdD yoT 64 116).getD .skip
theorem yRP:zdD yoT 64 29=some (.block 0 (.loop yEc)):=by kernel_rfl
theorem yUT (x:(ycT).X):zg0 ⟨yua,18,yFJ⟩ 0 yEc 116 ycT yik yoa x=ydp x:=by kernel_rfl
def yCc (x:(yiA).X):Nat:=18446744073709551616
def yuq (x:(yiA).X):Option ((yik).X ⊕ (yoa).X):=zz ydp (yCc x) (yBT x)
def yCR:Seg:=⟨yiA,yik,yoa,yuq⟩
def yFK:Nat→Option Seg:=fun q=>bif Nat.beq q 29 then some yCR else yFJ q
theorem ySR:FrOk Tryz.prog ⟨yua,18,yFK⟩ yoT:=(ySQ).loop (sg:=yCR) ycT yBT (by decide) yRP ydp yCc (by decide) (fun _=>rfl) (fun x r _ h=>h) yUT
abbrev ykA:List Par:= [.rd tL]
abbrev yuN:List OT:= [⟨false,tI,.fz⟩]
def yqT (a0:List Int):Option (ResD yuN×MutD ykA) :=
 zkh (yuq (((a0,()),((),()),((),()),()),(),())) (fun y0 =>
 some ((y0.1.1.1,()),())) (fun y0 =>
 none)
theorem yZI (x:InD ykA):zjx ⟨yua,18,yFK⟩ Tryz.f289.results.toList yoT ykA yuN x=yqT x.1:=by kernel_rfl
theorem yWL:ConOk Tryz.prog 289 ⟨ykA,yuN,fun x=>yqT x.1⟩:=zj1 (ySR) Tryz.func289 (by kernel_rfl) (by kernel_rfl) Tryz.ntmps289.symm (by decide) (fun x r h=>(yZI x).trans h)
def yk6 (a0:List Int):Int:=xorOf a0
theorem yYQ (a0:List Int) (hk:zi2 ykA (a0,())):yqT a0=(fun n=>some ((n,()),())) (yk6 a0):=by
 have hb:a0.length * 8≤2 ^ 47:=hk.1.1
 have h1:yuq (yPJ a0)=some (.inl (yCm (xorOf a0))) :=
  zj3 (step:=ydp) a0 0 (fun i s=>ytm a0 s i) xw (fun _ _=>True) (fun s=> .inl (yCm s)) (fun i s hi _=>⟨by
   simp only [ydp,ytm,ytK,zj4 (show (i:Int) < a0.length by omega),cond_true,wr (show -9223372036854775808≤(i:Int)+1 by omega) (by omega),Int.natCast_add,Int.natCast_one,Int.toNat_natCast,zkl hi,zkm]; rfl,trivial⟩) (fun s _=>by simp only [ydp,ytm,ytK,zkx (Int.le_refl _),cond_false]) 0 trivial _ (by show _ < 18446744073709551616; omega)
 unfold yqT yk6
 rw [h1]; rfl
def yGp:Con:=⟨ykA,yuN,fun x=>(fun n=>some ((n,()),())) (yk6 x.1)⟩
theorem yY7:ConOk Tryz.prog 289 yGp:=(yWL).mono (fun x r hk h=>(yYQ x.1 hk).trans h)
end
section
def yy9:Code:=(Tryz.f273.body).getD .skip
def yzu:Env:=zj2 TT [(289,yGp)] []
theorem yG1:FrOk Tryz.prog ⟨yzu,5,fun _=>none⟩ yy9:=zj6 yc yd ⟨yY7,trivial⟩
def yIE:Nat→Option Seg:=fun _=>none
abbrev yfB:List Par:= [.rd tL]
abbrev yjA:List OT:= [⟨false,tI,.fz⟩]
def ynu (a0:List Int):Option (ResD yjA×MutD yfB) :=
 let r1:=yk6 a0
 some ((r1,()),())
theorem yMc (x:InD yfB):zjx ⟨yzu,5,yIE⟩ Tryz.f273.results.toList yy9 yfB yjA x=ynu x.1:=by kernel_rfl
theorem yJc:ConOk Tryz.prog 273 ⟨yfB,yjA,fun x=>ynu x.1⟩:=zj1 (yG1) Tryz.func273 (by kernel_rfl) (by kernel_rfl) Tryz.ntmps273.symm (by decide) (fun x r h=>(yMc x).trans h)
def yjO (a0:List Int):Int :=
 let r1:=yk6 a0
 r1
def ywi:Con:=⟨yfB,yjA,fun x=>(fun n=>some ((n,()),())) (yjO x.1)⟩
theorem yK8 (a0:List Int):ynu a0=(fun n=>some ((n,()),())) (yjO a0):=zkp (p:=fun (n:Int)=>((n,()),())) rfl
theorem yLi:ConOk Tryz.prog 273 ywi:=(yJc).mono (fun x r _ h=>(yK8 x.1).trans h)
end
section
def ymg:Code:=(Tryz.f230.body).getD .skip
def yr7:Env:=zj2 TT [(48,yon),(141,yc0),(207,ykY),(272,yrh),(273,ywi)] []
theorem yPm:FrOk Tryz.prog ⟨yr7,61,fun _=>none⟩ ymg:=zj6 yc yd ⟨yw7,ygu,ysN,yCx,yLi,trivial⟩
def yDG:Nat→Option Seg:=fun _=>none
def ycW:Shape:=⟨[(0,false,[.ptr 1000000000 0]),(1,false,[.int .i64]),(2,false,[.br tI]),(6,false,[.int .i64]),(7,false,[.int .i64])],[(1000000000,[.int .i64,.int .i64,.int .i64,.at 800000000,.int .i64,.int .i64,.int .i64,.int .i64,.int .i64,.at 800000001,.int .i64,.bool,.bool])],[(800000000,tM,(.pr (.ow .fz) (.pr (.ow (.pr .fz .fz)) (.pr .fz (.ow .fz))))),(800000001,tW,(.pr .fz .fz))]⟩
def yiD:Shape:=⟨[(0,false,[.ptr 1000000000 0]),(1,false,[.int .i64]),(2,false,[.br tI]),(6,false,[.int .i64]),(7,false,[.ci .i64 0])],[(1000000000,[.int .i64,.int .i64,.int .i64,.at 800000000,.int .i64,.int .i64,.int .i64,.int .i64,.int .i64,.at 800000001,.int .i64,.bool,.bool])],[(800000000,tM,(.pr (.ow .fz) (.pr (.ow (.pr .fz .fz)) (.pr .fz (.ow .fz))))),(800000001,tW,(.pr .fz .fz))]⟩
def yin:Shape:=⟨[],[(1000000000,[.int .i64,.int .i64,.int .i64,.at 800000000,.int .i64,.int .i64,.int .i64,.int .i64,.int .i64,.at 800000001,.int .i64,.bool,.bool])],[(800000000,tM,(.pr (.ow .fz) (.pr (.ow (.pr .fz .fz)) (.pr .fz (.ow .fz))))),(800000001,tW,(.pr .fz .fz))]⟩
def yod:Shape:=⟨[],[],[]⟩
abbrev ytp (v0:Int) (v1:List Int) (v2 v3:Int) (v4:dA):(ycW).X:=((((),()),(v0,()),(v1,()),(v2,()),(v3,()),()),((v4.1,v4.2.1.1,v4.2.1.2,(),v4.2.2.2.1,v4.2.2.2.2.1,v4.2.2.2.2.2.1,v4.2.2.2.2.2.2.1,v4.2.2.2.2.2.2.2.1,(),v4.2.2.2.2.2.2.2.2.2.1,v4.2.2.2.2.2.2.2.2.2.2.1,v4.2.2.2.2.2.2.2.2.2.2.2,()),()),(v4.2.2.1,v4.2.2.2.2.2.2.2.2.1,()))
abbrev yPM (v0:Int) (v1:List Int) (v2:Int) (v3:dA):(yiD).X:=((((),()),(v0,()),(v1,()),(v2,()),((),()),()),((v3.1,v3.2.1.1,v3.2.1.2,(),v3.2.2.2.1,v3.2.2.2.2.1,v3.2.2.2.2.2.1,v3.2.2.2.2.2.2.1,v3.2.2.2.2.2.2.2.1,(),v3.2.2.2.2.2.2.2.2.2.1,v3.2.2.2.2.2.2.2.2.2.2.1,v3.2.2.2.2.2.2.2.2.2.2.2,()),()),(v3.2.2.1,v3.2.2.2.2.2.2.2.2.1,()))
abbrev yCn (v0:dA):(yin).X:=((),((v0.1,v0.2.1.1,v0.2.1.2,(),v0.2.2.2.1,v0.2.2.2.2.1,v0.2.2.2.2.2.1,v0.2.2.2.2.2.2.1,v0.2.2.2.2.2.2.2.1,(),v0.2.2.2.2.2.2.2.2.2.1,v0.2.2.2.2.2.2.2.2.2.2.1,v0.2.2.2.2.2.2.2.2.2.2.2,()),()),(v0.2.2.1,v0.2.2.2.2.2.2.2.2.1,()))
def ytN (v0:Int) (v1:List Int) (v2 v3 v4 v5 v6 v7 v8 v9 v10 v11 v12:Int) (v13 v14:Bool) (v15:List dM) (v16:List dW):Option ((ycW).X ⊕ ((yin).X ⊕ (yod).X)) :=
 bif (ltb v3 (v15.length:Int)) then
 let r9:=yjO v1
 bif (v3 !=v2) then
 bif (v5 !=0) then
 bif (inb ((IntKind.i64.wrap ((IntKind.i64.wrap ((IntKind.i64.wrap (v3 - v2)) - 1))+v5)).tmod v5) v1.length) then
 let r10:=ybb (v4,(v5,v6),v15,v7,v8,v9,v10,v11,v16,v12,v13,v14) v3 v0
 bif r10 then
 let r11:=yaq v0
 bnd (yeJ (v4,(v5,v6),v15,v7,v8,v9,v10,v11,v16,v12,v13,v14) v3 r11 ([(nth v1 ((IntKind.i64.wrap ((IntKind.i64.wrap ((IntKind.i64.wrap (v3 - v2)) - 1))+v5)).tmod v5) 0)]:List Int)) fun r12 =>
 some (.inl ((((),()),(v0,()),(v1,()),(v2,()),((IntKind.i64.wrap (v3+1)),()),()),((r12.2.1.1,r12.2.1.2.1.1,r12.2.1.2.1.2,(),r12.2.1.2.2.2.1,r12.2.1.2.2.2.2.1,r12.2.1.2.2.2.2.2.1,r12.2.1.2.2.2.2.2.2.1,r12.2.1.2.2.2.2.2.2.2.1,(),r12.2.1.2.2.2.2.2.2.2.2.2.1,r12.2.1.2.2.2.2.2.2.2.2.2.2.1,r12.2.1.2.2.2.2.2.2.2.2.2.2.2,()),()),(r12.2.1.2.2.1,r12.2.1.2.2.2.2.2.2.2.2.1,())))
 else
 some (.inl ((((),()),(v0,()),(v1,()),(v2,()),((IntKind.i64.wrap (v3+1)),()),()),((v4,v5,v6,(),v7,v8,v9,v10,v11,(),v12,v13,v14,()),()),(v15,v16,())))
 else none
 else none
 else
 let r13:=ybb (v4,(v5,v6),v15,v7,v8,v9,v10,v11,v16,v12,v13,v14) v3 v0
 bif r13 then
 let r14:=yaq v0
 bnd (yeJ (v4,(v5,v6),v15,v7,v8,v9,v10,v11,v16,v12,v13,v14) v3 r14 ([r9]:List Int)) fun r15 =>
 some (.inl ((((),()),(v0,()),(v1,()),(v2,()),((IntKind.i64.wrap (v3+1)),()),()),((r15.2.1.1,r15.2.1.2.1.1,r15.2.1.2.1.2,(),r15.2.1.2.2.2.1,r15.2.1.2.2.2.2.1,r15.2.1.2.2.2.2.2.1,r15.2.1.2.2.2.2.2.2.1,r15.2.1.2.2.2.2.2.2.2.1,(),r15.2.1.2.2.2.2.2.2.2.2.2.1,r15.2.1.2.2.2.2.2.2.2.2.2.2.1,r15.2.1.2.2.2.2.2.2.2.2.2.2.2,()),()),(r15.2.1.2.2.1,r15.2.1.2.2.2.2.2.2.2.2.1,())))
 else
 some (.inl ((((),()),(v0,()),(v1,()),(v2,()),((IntKind.i64.wrap (v3+1)),()),()),((v4,v5,v6,(),v7,v8,v9,v10,v11,(),v12,v13,v14,()),()),(v15,v16,())))
 else
 some (.inr (.inl ((),((v4,v5,v6,(),v7,v8,v9,v10,v11,(),v12,v13,v14,()),()),(v15,v16,()))))
def yds (x:(ycW).X):=ytN x.1.2.1.1 x.1.2.2.1.1 x.1.2.2.2.1.1 x.1.2.2.2.2.1.1 x.2.1.1.1 x.2.1.1.2.1 x.2.1.1.2.2.1 x.2.1.1.2.2.2.2.1 x.2.1.1.2.2.2.2.2.1 x.2.1.1.2.2.2.2.2.2.1 x.2.1.1.2.2.2.2.2.2.2.1 x.2.1.1.2.2.2.2.2.2.2.2.1 x.2.1.1.2.2.2.2.2.2.2.2.2.2.1 x.2.1.1.2.2.2.2.2.2.2.2.2.2.2.1 x.2.1.1.2.2.2.2.2.2.2.2.2.2.2.2.1 x.2.2.1 x.2.2.2.1
def yBX (x:(yiD).X):(ycW).X:=((((),()),(x.1.2.1.1,()),(x.1.2.2.1.1,()),(x.1.2.2.2.1.1,()),(0,()),()),((x.2.1.1.1,x.2.1.1.2.1,x.2.1.1.2.2.1,(),x.2.1.1.2.2.2.2.1,x.2.1.1.2.2.2.2.2.1,x.2.1.1.2.2.2.2.2.2.1,x.2.1.1.2.2.2.2.2.2.2.1,x.2.1.1.2.2.2.2.2.2.2.2.1,(),x.2.1.1.2.2.2.2.2.2.2.2.2.2.1,x.2.1.1.2.2.2.2.2.2.2.2.2.2.2.1,x.2.1.1.2.2.2.2.2.2.2.2.2.2.2.2.1,()),()),(x.2.2.1,x.2.2.2.1,()))
def yEg:Code:=(zdD ymg 64 28).getD .skip
theorem yRT:zdD ymg 64 7=some (.block 0 (.loop yEg)):=by kernel_rfl
theorem yUX (x:(ycW).X):zg0 ⟨yr7,61,yDG⟩ 0 yEg 28 ycW yin yod x=yds x:=by kernel_rfl
def yCg (x:(yiD).X):Nat:=18446744073709551616
def yuu (x:(yiD).X):Option ((yin).X ⊕ (yod).X):=zz yds (yCg x) (yBX x)
def yCV:Seg:=⟨yiD,yin,yod,yuu⟩
def yDH:Nat→Option Seg:=fun q=>bif Nat.beq q 7 then some yCV else yDG q
theorem yPn:FrOk Tryz.prog ⟨yr7,61,yDH⟩ ymg:=(yPm).loop (sg:=yCV) ycW yBX (by decide) yRT yds yCg (by decide) (fun _=>rfl) (fun x r _ h=>h) yUX
abbrev yfl:List Par:= [.pt tA (.pr .fz (.pr (.pr .fz .fz) (.pr (.ow (.pr (.ow .fz) (.pr (.ow (.pr .fz .fz)) (.pr .fz (.ow .fz))))) (.pr .fz (.pr .fz (.pr .fz (.pr .fz (.pr .fz (.pr (.ow (.pr .fz .fz)) (.pr .fz (.pr .fz .fz))))))))))),.rd tI,.rd tL]
abbrev ymF:List OT:= []
def yoM (a0:dA) (a1:Int) (a2:List Int):Option (ResD ymF×MutD yfl) :=
 let r1:=yc6 a0.2.1 a1
 zkh (yuu ((((),()),(a1,()),(a2,()),(r1,()),((),()),()),((a0.1,a0.2.1.1,a0.2.1.2,(),a0.2.2.2.1,a0.2.2.2.2.1,a0.2.2.2.2.2.1,a0.2.2.2.2.2.2.1,a0.2.2.2.2.2.2.2.1,(),a0.2.2.2.2.2.2.2.2.2.1,a0.2.2.2.2.2.2.2.2.2.2.1,a0.2.2.2.2.2.2.2.2.2.2.2,()),()),(a0.2.2.1,a0.2.2.2.2.2.2.2.2.1,()))) (fun y15 =>
 some ((),((y15.2.1.1.1,(y15.2.1.1.2.1,y15.2.1.1.2.2.1),y15.2.2.1,y15.2.1.1.2.2.2.2.1,y15.2.1.1.2.2.2.2.2.1,y15.2.1.1.2.2.2.2.2.2.1,y15.2.1.1.2.2.2.2.2.2.2.1,y15.2.1.1.2.2.2.2.2.2.2.2.1,y15.2.2.2.1,y15.2.1.1.2.2.2.2.2.2.2.2.2.2.1,y15.2.1.1.2.2.2.2.2.2.2.2.2.2.2.1,y15.2.1.1.2.2.2.2.2.2.2.2.2.2.2.2.1),()))) (fun y15 =>
 none)
theorem yYx (x:InD yfl):zjx ⟨yr7,61,yDH⟩ Tryz.f230.results.toList ymg yfl ymF x=yoM x.1 x.2.1 x.2.2.1:=by kernel_rfl
theorem yUo:ConOk Tryz.prog 230 ⟨yfl,ymF,fun x=>yoM x.1 x.2.1 x.2.2.1⟩:=zj1 (yPn) Tryz.func230 (by kernel_rfl) (by kernel_rfl) Tryz.ntmps230.symm (by decide) (fun x r h=>(yYx x).trans h)
def ysK (a0:dA) (a1:Int) (a2:List Int):dA:=ye9 a0 a1 a2
def ym7 (a0:dA) (a1:Int) (a2:List Int):Bool:=yaM a0.2.1 a1&&((a2.length:Int)==a0.2.1.1 - 1&&(a0.2.2.1.length:Int)==a0.2.1.1)
theorem yWu (a0:dA) (a1:Int) (a2:List Int) (hk:zi2 yfl (a0,a1,a2,())) (hq:ym7 a0 a1 a2=true):yoM a0 a1 a2=(fun n=>some ((),(n,()))) (ysK a0 a1 a2):=by
 simp only [ym7,Bool.and_eq_true,beq_iff_eq]at hq
 have hg:=yi.1 (ybC.1 hq.1).1
 have hp:=ytW hq.1
 have h1:yuu (yPM a1 a2 (yn a0.2.1 a1) a0)=some (.inl (yCn (ye9 a0 a1 a2))) :=
  zj8 (step:=yds) a0.2.2.1.length (fun i s=>ytp a1 a2 (yn a0.2.1 a1) i s) (ykZ (yn a0.2.1 a1) a0.2.1.1 a1 a2) (fun _ s=>s.2.2.1.length=a0.2.2.1.length∧s.2.1=a0.2.1) (fun s=> .inl (yCn s)) (fun i s hi hs=>⟨by
   have hN:s.2.1.1=a0.2.1.1:=by rw [hs.2]
   simp only [yds,ytp,ytN,hs.1,zj4 (show (i:Int) < a0.2.2.1.length by omega),cond_true,wr (show -9223372036854775808≤(i:Int)+1 by omega) (by omega),Int.natCast_add,Int.natCast_one,Int.toNat_natCast,zkr,yk6,yjO,ybb,yd9,ykZ,y2t]
   rw [← hN]
   by_cases he:(i:Int)=yn a0.2.1 a1
   ·rw [show ((i:Int) !=yn a0.2.1 a1)=false by simp [he],show ((i:Int)==yn a0.2.1 a1)=true from beq_iff_eq.2 he]
    rw [ym6 s i (dataAt a1) [xorOf a2] (zkl (by rw [hs.1]; exact hi))]
    cases yc3 s i a1<;>rfl
   ·have hd:=y3h (N:=s.2.1.1) (i:=i) (p:=yn a0.2.1 a1) ⟨by omega,by omega⟩ ⟨by omega,by omega⟩ ⟨hp.1,by omega⟩ he
    rw [show ((i:Int) !=yn a0.2.1 a1)=true from bne_iff_ne.2 he,show ((i:Int)==yn a0.2.1 a1)=false from beq_eq_false_iff_ne.2 he,show (s.2.1.1 !=0)=true from bne_iff_ne.2 (by omega),
     wr (show -9223372036854775808≤(i:Int) - yn a0.2.1 a1 by omega) (by omega),wr (show -9223372036854775808≤(i:Int) - yn a0.2.1 a1 - 1 by omega) (by omega),wr (show -9223372036854775808≤(i:Int) - yn a0.2.1 a1 - 1+s.2.1.1 by omega) (by omega),zjD.2 (show 0≤((i:Int) - yn a0.2.1 a1 - 1+s.2.1.1).tmod s.2.1.1∧((i:Int) - yn a0.2.1 a1 - 1+s.2.1.1).tmod s.2.1.1 < a2.length by omega)]
    rw [ym6 s i (dataAt a1) [nth a2 (((i:Int) - yn a0.2.1 a1 - 1+s.2.1.1).tmod s.2.1.1) 0] (zkl (by rw [hs.1]; exact hi))]
    cases yc3 s i a1<;>rfl,(yE2 _ _ _ _ s i).trans hs.1,(ypz (yJ6 _ _ _ _ s i)).trans hs.2⟩) (fun s hs=>by simp only [yds,ytp,ytN,hs.1,zkx (Int.le_refl _),cond_false]) a0 ⟨rfl,rfl⟩ _ (by show _ < 18446744073709551616; omega)
 unfold yoM ysK yc6
 exact (congrArg (fun z=>zkh z _ _) h1).trans rfl
def yhV (a0:dA) (a1:Int) (a2:List Int):Option (ResD ymF×MutD yfl):=bif ym7 a0 a1 a2 then (fun n=>some ((),(n,()))) (ysK a0 a1 a2) else none
theorem yXo (a0:dA) (a1:Int) (a2:List Int) (h:ym7 a0 a1 a2=true):yhV a0 a1 a2=(fun n=>some ((),(n,()))) (ysK a0 a1 a2):=by unfold yhV; rw [h]; rfl
def yED:Con:=⟨yfl,ymF,fun x=>yhV x.1 x.2.1 x.2.2.1⟩
theorem yXl:ConOk Tryz.prog 230 yED:=(yUo).mono (fun x r hk h=>zks h (fun hq=>yWu x.1 x.2.1 x.2.2.1 hk hq))
end
end
end Go.Tf
