/- Functions of the program, and what they come to. -/
import Derived.Test.YtfpjmijaiekbgaaGreatExactRecoverF0
namespace Go.Tf
noncomputable section
open Go.Proofs
set_option synthInstance.maxHeartbeats 400000
set_option synthInstance.maxSize 10000
set_option linter.unusedVariables false
set_option linter.unusedSimpArgs false
set_option maxRecDepth 100000
section
def yKJ:Code:=(Tryz.f70.body).getD .skip
def yK0:Env:=zki TT [] []
theorem yUG:FrOk Tryz.prog ⟨yK0,15,fun _=>none⟩ yKJ:=zkp yb yc trivial
def yWX:Nat→Option Seg:=fun _=>none
abbrev yqo:List Par:= [.rd tG,.rd tG]
abbrev yvW:List OT:= [⟨false,tB,.fz⟩]
def yyy (a0:dG) (a1:dG):Option (ResD yvW×MutD yqo) :=
  bif (a0.1 !=a1.1) then
    some ((false,()),())
  else
    bif (a0.2 !=a1.2) then
      some ((false,()),())
    else
      some ((true,()),())
theorem y04 (x:InD yqo):zjH ⟨yK0,15,yWX⟩ Tryz.f70.results.toList yKJ yqo yvW x=yyy x.1 x.2.1:=by kernel_rfl
theorem yYx:ConOk Tryz.prog 70 ⟨yqo,yvW,fun x=>yyy x.1 x.2.1⟩:=zkh (yUG) Tryz.func70 (by kernel_rfl) (by kernel_rfl) Tryz.ntmps70.symm (by decide) (fun x r h=>(y04 x).trans h)
def yg3 (a0:dG) (a1:dG):Bool :=
  bif (a0.1 !=a1.1) then
    false
  else
    bif (a0.2 !=a1.2) then
      false
    else
      true
def yHX:Con:=⟨yqo,yvW,fun x=>(fun n=>some ((n,()),())) (yg3 x.1 x.2.1)⟩
theorem y0h (a0:dG) (a1:dG):yyy a0 a1=(fun n=>some ((n,()),())) (yg3 a0 a1):=zkS (p:=fun (n:Bool)=>((n,()),())) (zkx (p:=fun (n:Bool)=>((n,()),())) rfl (zkx (p:=fun (n:Bool)=>((n,()),())) rfl rfl))
theorem y0H:ConOk Tryz.prog 70 yHX:=(yYx).mono (fun x r _ h=>(y0h x.1 x.2.1).trans h)
theorem yIa (a b:dG):yg3 a b=decide (a=b):=by
  unfold yg3
  simp only [zkz,zkA,zkB,zkC,zkD,Prod.ext_iff,Bool.decide_and,Bool.and_true]
theorem y2Q (a:dG):yg3 a a=true:=by rw [yIa]; exact decide_eq_true rfl
end
section
def yKI:Code:=(Tryz.f146.body).getD .skip
def yKZ:Env:=zki TT [(17,yfe)] []
theorem yUF:FrOk Tryz.prog ⟨yKZ,16,fun _=>none⟩ yKI:=zkp yb yc ⟨ylL,trivial⟩
def yWW:Nat→Option Seg:=fun _=>none
abbrev yqn:List Par:= [.rd tW,.rd tW]
abbrev yvV:List OT:= [⟨false,tB,.fz⟩]
def yyx (a0:dW) (a1:dW):Option (ResD yvV×MutD yqn) :=
  bif (a0.1 !=a1.1) then
    some ((false,()),())
  else
    let r1:=yy a0.2 a1.2
    bif (!r1) then
      some ((false,()),())
    else
      some ((true,()),())
theorem y03 (x:InD yqn):zjH ⟨yKZ,16,yWW⟩ Tryz.f146.results.toList yKI yqn yvV x=yyx x.1 x.2.1:=by kernel_rfl
theorem yYw:ConOk Tryz.prog 146 ⟨yqn,yvV,fun x=>yyx x.1 x.2.1⟩:=zkh (yUF) Tryz.func146 (by kernel_rfl) (by kernel_rfl) Tryz.ntmps146.symm (by decide) (fun x r h=>(y03 x).trans h)
def yeL (a0:dW) (a1:dW):Bool :=
  bif (a0.1 !=a1.1) then
    false
  else
    let r1:=yy a0.2 a1.2
    bif (!r1) then
      false
    else
      true
def yHW:Con:=⟨yqn,yvV,fun x=>(fun n=>some ((n,()),())) (yeL x.1 x.2.1)⟩
theorem y0g (a0:dW) (a1:dW):yyx a0 a1=(fun n=>some ((n,()),())) (yeL a0 a1):=zkS (p:=fun (n:Bool)=>((n,()),())) (zkx (p:=fun (n:Bool)=>((n,()),())) rfl (zkx (p:=fun (n:Bool)=>((n,()),())) rfl rfl))
theorem y0G:ConOk Tryz.prog 146 yHW:=(yYw).mono (fun x r _ h=>(y0g x.1 x.2.1).trans h)
theorem yH9 (a b:dW):yeL a b=decide (a=b):=by
  unfold yeL
  simp only [zkz,zkA,zkB,zkC,zkD,yjh,Prod.ext_iff,Bool.decide_and,Bool.and_true]
theorem y2P (a:dW):yeL a a=true:=by rw [yH9]; exact decide_eq_true rfl
end
section
def ynb:Code:=(Tryz.f71.body).getD .skip
def ytl:Env:=zki TT [(146,yHW)] []
theorem yQO:FrOk Tryz.prog ⟨ytl,27,fun _=>none⟩ ynb:=zkp yb yc ⟨y0G,trivial⟩
def yFr:Nat→Option Seg:=fun _=>none
def yd4:Shape:=⟨[(0,false,[.br tW]),(1,false,[.br tW]),(5,false,[.int .i64])],[],[]⟩
def yl6:Shape:=⟨[(0,false,[.br tW]),(1,false,[.br tW]),(5,false,[.ci .i64 0])],[],[]⟩
def yl0:Shape:=⟨[],[],[]⟩
def ymi:Shape:=⟨[(4,false,[.bool])],[],[]⟩
def ysO (v0:List dW) (v1:List dW) (v2:Int):Option ((yd4).X ⊕ ((yl0).X ⊕ (ymi).X)) :=
  bif (ltb v2 (v0.length:Int)) then
    bif (inb v2 v0.length) then
      bif (inb v2 v1.length) then
        let r2:=yeL (nth v0 v2 (0,[])) (nth v1 v2 (0,[]))
        bif (!r2) then
          some (.inr (.inr (((false,()),()),(),())))
        else
          some (.inl (((v0,()),(v1,()),((IntKind.i64.wrap (v2+1)),()),()),(),()))
      else none
    else none
  else
    some (.inr (.inl ((),(),())))
def ycs (x:(yd4).X):=ysO x.1.1.1 x.1.2.1.1 x.1.2.2.1.1
def yBT (x:(yl6).X):(yd4).X:=(((x.1.1.1,()),(x.1.2.1.1,()),(0,()),()),(),())
def yDu:Code:=(zdI ynb 64 116).getD .skip
theorem yQc:zdI ynb 64 29=some (.block 0 (.loop yDu)):=by kernel_rfl
theorem yS7 (x:(yd4).X):zg7 ⟨ytl,27,yFr⟩ 0 yDu 116 yd4 yl0 ymi x=ycs x:=by kernel_rfl
def yB7 (x:(yl6).X):Nat:=(fun (u0:List dW) (u1:List dW)=>18446744073709551616) x.1.1.1 x.1.2.1.1
def yud (x:(yl6).X):Option ((yl0).X ⊕ (ymi).X):=zr ycs (yB7 x) (yBT x)
def yCo:Seg:=⟨yl6,yl0,ymi,yud⟩
def yFs:Nat→Option Seg:=fun q=>bif Nat.beq q 29 then some yCo else yFr q
theorem yQP:FrOk Tryz.prog ⟨ytl,27,yFs⟩ ynb:=(yQO).loop (sg:=yCo) yd4 yBT (by decide) yQc ycs yB7 (by decide) (fun _=>rfl) (fun x r _ h=>h) yS7
abbrev yhA:List Par:= [.rd tWs,.rd tWs]
abbrev ytJ:List OT:= [⟨false,tB,.fz⟩]
def ypE (a0:List dW) (a1:List dW):Option (ResD ytJ×MutD yhA) :=
  bif ((a0.length:Int) !=(a1.length:Int)) then
    some ((false,()),())
  else
    zjw (yud (((a0,()),(a1,()),((),()),()),(),())) (fun y2 =>
      some ((true,()),())) (fun y2 =>
      some ((y2.1.1.1,()),()))
theorem yZM (x:InD yhA):zjH ⟨ytl,27,yFs⟩ Tryz.f71.results.toList ynb yhA ytJ x=ypE x.1 x.2.1:=by kernel_rfl
theorem yVR:ConOk Tryz.prog 71 ⟨yhA,ytJ,fun x=>ypE x.1 x.2.1⟩:=zkh (yQP) Tryz.func71 (by kernel_rfl) (by kernel_rfl) Tryz.ntmps71.symm (by decide) (fun x r h=>(yZM x).trans h)
def yfr (a0 a1:List (dW)):Bool:=decide (a0=a1)
theorem yX3 (a0 a1:List (dW)) (hk:zi9 yhA (a0,a1,())):ypE a0 a1=(fun n=>some ((n,()),())) (yfr a0 a1):=by
  have hb:a0.length * 32≤2 ^ 47:=hk.1.1
  unfold ypE yfr
  by_cases h:a0.length=a1.length
  · have hl:yud (((a0,()),(a1,()),((),()),()),(),())=some (bif decide (a0=a1) then .inl ((),(),()) else .inr (((false,()),()),(),())) :=
      zkF (step:=ycs) a0 a1 ((0,[]):dW) (fun i=>(((a0,()),(a1,()),((i:Int),()),()),(),())) yeL yH9 _ _ h (fun i hi=>by
        simp only [ycs,ysO,zkO (h ▸ hi),zkO hi,zjW,Int.toNat_natCast,zjI (show (i:Int) < a0.length by omega),cond_true,wr (show -9223372036854775808≤(i:Int)+1 by omega) (by omega),Int.natCast_add,Int.natCast_one,zkV]
        cases yeL (a0.getD i (0,[])) (a1.getD i (0,[]))<;>rfl) (by simp only [ycs,ysO,zkm (Int.le_refl _),cond_false]) _ (by show _ < 18446744073709551616; omega)
    rw [show ((a0.length:Int) !=(a1.length:Int))=false by simp [h],zkX,hl]
    cases decide (a0=a1)<;>rfl
  · rw [show ((a0.length:Int) !=(a1.length:Int))=true from bne_iff_ne.2 (by omega),zkY,decide_eq_false (fun e=>h (congrArg _ e))]
theorem yGJ (a0 a1:List (dW)):yfr a0 a1=decide (a0=a1):=rfl
def yGs:Con:=⟨yhA,ytJ,fun x=>(fun n=>some ((n,()),())) (yfr x.1 x.2.1)⟩
theorem yYV:ConOk Tryz.prog 71 yGs:=(yVR).mono (fun x r hk h=>(yX3 x.1 x.2.1 hk).trans h)
theorem y2K (a:List dW):yfr a a=true:=by rw [yGJ]; exact decide_eq_true rfl
end
section
def yKH:Code:=(Tryz.f18.body).getD .skip
def yKY:Env:=zki TT [(40,ywh),(70,yHX),(71,yGs)] []
theorem yUE:FrOk Tryz.prog ⟨yKY,68,fun _=>none⟩ yKH:=zkp yb yc ⟨yIm,y0H,yYV,trivial⟩
def yWV:Nat→Option Seg:=fun _=>none
abbrev yqm:List Par:= [.rd tA,.rd tA]
abbrev yvU:List OT:= [⟨false,tB,.fz⟩]
def yyw (a0:dA) (a1:dA):Option (ResD yvU×MutD yqm) :=
  bif (a0.1 !=a1.1) then
    some ((false,()),())
  else
    let r1:=yg3 a0.2.1 a1.2.1
    bif (!r1) then
      some ((false,()),())
    else
      let r2:=ydy a0.2.2.1 a1.2.2.1
      bif (!r2) then
        some ((false,()),())
      else
        bif (a0.2.2.2.1 !=a1.2.2.2.1) then
          some ((false,()),())
        else
          bif (a0.2.2.2.2.1 !=a1.2.2.2.2.1) then
            some ((false,()),())
          else
            bif (a0.2.2.2.2.2.1 !=a1.2.2.2.2.2.1) then
              some ((false,()),())
            else
              bif (a0.2.2.2.2.2.2.1 !=a1.2.2.2.2.2.2.1) then
                some ((false,()),())
              else
                bif (a0.2.2.2.2.2.2.2.1 !=a1.2.2.2.2.2.2.2.1) then
                  some ((false,()),())
                else
                  let r3:=yfr a0.2.2.2.2.2.2.2.2.1 a1.2.2.2.2.2.2.2.2.1
                  bif (!r3) then
                    some ((false,()),())
                  else
                    bif (a0.2.2.2.2.2.2.2.2.2.1 !=a1.2.2.2.2.2.2.2.2.2.1) then
                      some ((false,()),())
                    else
                      bif (!(a0.2.2.2.2.2.2.2.2.2.2.1==a1.2.2.2.2.2.2.2.2.2.2.1)) then
                        some ((false,()),())
                      else
                        bif (!(a0.2.2.2.2.2.2.2.2.2.2.2==a1.2.2.2.2.2.2.2.2.2.2.2)) then
                          some ((false,()),())
                        else
                          some ((true,()),())
theorem y02 (x:InD yqm):zjH ⟨yKY,68,yWV⟩ Tryz.f18.results.toList yKH yqm yvU x=yyw x.1 x.2.1:=by kernel_rfl
theorem yYv:ConOk Tryz.prog 18 ⟨yqm,yvU,fun x=>yyw x.1 x.2.1⟩:=zkh (yUE) Tryz.func18 (by kernel_rfl) (by kernel_rfl) Tryz.ntmps18.symm (by decide) (fun x r h=>(y02 x).trans h)
def yeK (a0:dA) (a1:dA):Bool :=
  bif (a0.1 !=a1.1) then
    false
  else
    let r1:=yg3 a0.2.1 a1.2.1
    bif (!r1) then
      false
    else
      let r2:=ydy a0.2.2.1 a1.2.2.1
      bif (!r2) then
        false
      else
        bif (a0.2.2.2.1 !=a1.2.2.2.1) then
          false
        else
          bif (a0.2.2.2.2.1 !=a1.2.2.2.2.1) then
            false
          else
            bif (a0.2.2.2.2.2.1 !=a1.2.2.2.2.2.1) then
              false
            else
              bif (a0.2.2.2.2.2.2.1 !=a1.2.2.2.2.2.2.1) then
                false
              else
                bif (a0.2.2.2.2.2.2.2.1 !=a1.2.2.2.2.2.2.2.1) then
                  false
                else
                  let r3:=yfr a0.2.2.2.2.2.2.2.2.1 a1.2.2.2.2.2.2.2.2.1
                  bif (!r3) then
                    false
                  else
                    bif (a0.2.2.2.2.2.2.2.2.2.1 !=a1.2.2.2.2.2.2.2.2.2.1) then
                      false
                    else
                      bif (!(a0.2.2.2.2.2.2.2.2.2.2.1==a1.2.2.2.2.2.2.2.2.2.2.1)) then
                        false
                      else
                        bif (!(a0.2.2.2.2.2.2.2.2.2.2.2==a1.2.2.2.2.2.2.2.2.2.2.2)) then
                          false
                        else
                          true
def yHV:Con:=⟨yqm,yvU,fun x=>(fun n=>some ((n,()),())) (yeK x.1 x.2.1)⟩
theorem y0f (a0:dA) (a1:dA):yyw a0 a1=(fun n=>some ((n,()),())) (yeK a0 a1):=zkS (p:=fun (n:Bool)=>((n,()),())) (zkx (p:=fun (n:Bool)=>((n,()),())) rfl (zkx (p:=fun (n:Bool)=>((n,()),())) rfl (zkx (p:=fun (n:Bool)=>((n,()),())) rfl (zkx (p:=fun (n:Bool)=>((n,()),())) rfl (zkx (p:=fun (n:Bool)=>((n,()),())) rfl (zkx (p:=fun (n:Bool)=>((n,()),())) rfl (zkx (p:=fun (n:Bool)=>((n,()),())) rfl (zkx (p:=fun (n:Bool)=>((n,()),())) rfl (zkx (p:=fun (n:Bool)=>((n,()),())) rfl (zkx (p:=fun (n:Bool)=>((n,()),())) rfl (zkx (p:=fun (n:Bool)=>((n,()),())) rfl (zkx (p:=fun (n:Bool)=>((n,()),())) rfl rfl))))))))))))
theorem y0F:ConOk Tryz.prog 18 yHV:=(yYv).mono (fun x r _ h=>(y0f x.1 x.2.1).trans h)
theorem yXB (a b:dA):yeK a b=decide (a=b):=by
  unfold yeK
  simp only [zkz,zkA,zkB,zkC,zkD,yGK,yIa,yGJ,Prod.ext_iff,Bool.decide_and,Bool.and_true]
theorem yXC (a:dA):yeK a a=true:=by rw [yXB]; exact decide_eq_true rfl
end
section
def yh5:Code:=(Tryz.f20.body).getD .skip
def yoK:Env:=zki TT [] []
theorem yLW:FrOk Tryz.prog ⟨yoK,19,fun _=>none⟩ yh5:=zkp yb yc trivial
def yA4:Nat→Option Seg:=fun _=>none
def yci:Shape:=⟨[(0,false,[.at 1000001000]),(1,false,[.int .i64]),(5,false,[.int .i64])],[],[(1000001000,tI,.fz)]⟩
def yiI:Shape:=⟨[(0,false,[.at 1000001000]),(1,false,[.int .i64]),(5,false,[.ci .i64 0])],[],[(1000001000,tI,.fz)]⟩
def yiq:Shape:=⟨[(1,false,[.int .i64])],[],[(1000001000,tI,.fz)]⟩
def yi7:Shape:=⟨[],[],[]⟩
def yow (v0:Int) (v1:Int) (v2:List Int):Option ((yci).X ⊕ ((yiq).X ⊕ (yi7).X)) :=
  bif (ltb v1 (v2.length:Int)) then
    bif (inb v1 v2.length) then
      some (.inl ((((),()),((IntKind.i64.wrap (v0+1)),()),((IntKind.i64.wrap (v1+1)),()),()),(),((v2.set (v1).toNat v0),())))
    else none
  else
    some (.inr (.inl (((v0,()),()),(),(v2,()))))
def ybd (x:(yci).X):=yow x.1.2.1.1 x.1.2.2.1.1 x.2.2.1
def yxy (x:(yiI).X):(yci).X:=((((),()),(x.1.2.1.1,()),(0,()),()),(),(x.2.2.1,()))
def yzg:Code:=(zdI yh5 64 52).getD .skip
theorem yLj:zdI yh5 64 13=some (.block 0 (.loop yzg)):=by kernel_rfl
theorem yM4 (x:(yci).X):zg7 ⟨yoK,19,yA4⟩ 0 yzg 52 yci yiq yi7 x=ybd x:=by kernel_rfl
def yxM (x:(yiI).X):Nat:=(fun (u0:Int) (u1:List Int)=>18446744073709551616) x.1.2.1.1 x.2.2.1
def yqg (x:(yiI).X):Option ((yiq).X ⊕ (yi7).X):=zr ybd (yxM x) (yxy x)
def yx5:Seg:=⟨yiI,yiq,yi7,yqg⟩
def yA5:Nat→Option Seg:=fun q=>bif Nat.beq q 13 then some yx5 else yA4 q
theorem yLX:FrOk Tryz.prog ⟨yoK,19,yA5⟩ yh5:=(yLW).loop (sg:=yx5) yci yxy (by decide) yLj ybd yxM (by decide) (fun _=>rfl) (fun x r _ h=>h) yM4
abbrev ye2:List Par:= [.mt tL (.ow .fz),.rd tI]
abbrev yo9:List OT:= [⟨false,tI,.fz⟩]
def ykz (a0:List Int) (a1:Int):Option (ResD yo9×MutD ye2) :=
  zjw (yqg ((((),()),(a1,()),((),()),()),(),(a0,()))) (fun y0 =>
    some ((y0.1.1.1,()),(y0.2.2.1,()))) (fun y0 =>
    none)
theorem yUg (x:InD ye2):zjH ⟨yoK,19,yA5⟩ Tryz.f20.results.toList yh5 ye2 yo9 x=ykz x.1 x.2.1:=by kernel_rfl
theorem yPb:ConOk Tryz.prog 20 ⟨ye2,yo9,fun x=>ykz x.1 x.2.1⟩:=zkh (yLX) Tryz.func20 (by kernel_rfl) (by kernel_rfl) Tryz.ntmps20.symm (by decide) (fun x r h=>(yUg x).trans h)
def yhq (k:Int):Nat→List Int
  | 0=> []
  | n+1=>k::yhq (IntKind.i64.wrap (k+1)) n
def yC (k:Int):Nat→Int
  | 0=>k
  | n+1=>yC (IntKind.i64.wrap (k+1)) n
theorem yvj: ∀ (n:Nat) (k:Int),(yhq k n).length=n
  | 0,_=>rfl
  | n+1,k=>by simp [yhq,yvj n]
theorem yU9: ∀ (n:Nat) (k:Int),yhq k (n+1)=yhq k n++ [yC k n]
  | 0,_=>rfl
  | n+1,k=>by rw [yhq,yU9 n]; rfl
theorem yEA: ∀ (n:Nat) (k:Int),yC k (n+1)=IntKind.i64.wrap (yC k n+1)
  | 0,_=>rfl
  | n+1,k=>by rw [yC,yEA n]; rfl
def yv (a0:List Int) (a1:Int):Int×List Int:=(yC a1 a0.length,yhq a1 a0.length)
theorem yR8 (a0:List Int) (a1:Int) (hk:zi9 ye2 (a0,a1,())):ykz a0 a1=(fun n=>some ((n.1,()),(n.2,()))) (yv a0 a1):=by
  have hb:a0.length * 8≤2 ^ 47:=hk.1.1
  have hs: ∀ i,i < a0.length→(yhq a1 i++a0.drop i).set i (yC a1 i)=yhq a1 (i+1)++a0.drop (i+1):=fun i hi=>by
    rw [List.set_append_right _ _ (by rw [yvj]; exact Nat.le_refl _),yvj,Nat.sub_self,yU9,List.append_assoc,List.drop_eq_getElem_cons hi]; rfl
  have hl:yqg ((((),()),(a1,()),((),()),()),(),(a0,()))=some (.inl (((yC a1 a0.length,()),()),(),(yhq a1 a0.length++a0.drop a0.length,()))) :=
    zjs (step:=ybd) (fun i=>((((),()),(yC a1 i,()),((i:Int),()),()),(),(yhq a1 i++a0.drop i,()))) a0.length _ (fun i hi=>by
      have hL:(yhq a1 i++a0.drop i).length=a0.length:=by rw [List.length_append,yvj,List.length_drop]; omega
      simp only [ybd,yow,hL,zkO hi,zjI (show (i:Int) < a0.length by omega),cond_true,wr (show -9223372036854775808≤(i:Int)+1 by omega) (by omega),Int.natCast_add,Int.natCast_one,yEA,Int.toNat_natCast,hs i hi]) (by
      have hL:(yhq a1 a0.length++a0.drop a0.length).length=a0.length:=by rw [List.length_append,yvj,List.length_drop]; omega
      simp only [ybd,yow,hL,zkm (Int.le_refl _),cond_false]) _ (by show _ < 18446744073709551616; omega)
  rw [List.drop_length,List.append_nil]at hl
  unfold ykz
  rw [hl]
  rfl
def yde:Con:=⟨ye2,yo9,fun x=>(fun n=>some ((n.1,()),(n.2,()))) (yv x.1 x.2.1)⟩
theorem yhb:ConOk Tryz.prog 20 yde:=(yPb).mono (fun x r hk h=>(yR8 x.1 x.2.1 hk).trans h)
theorem ymv: ∀ (n:Nat) (k:Int),0≤k→k+n≤9223372036854775807→yC k n=k+n
  | 0,k,_,_=>by simp [yC]
  | n+1,k,h,h2=>by
    rw [yC,wr (by omega) (by omega),ymv n (k+1) (by omega) (by omega)]; omega
theorem y2c {n:Nat} (h:n≤4611686018427387903): ¬ yC 1 n < 0:=by rw [ymv n 1 (by omega) (by omega)]; omega
theorem y3y {n:Nat} (h:n≤4611686018427387903):ltb (yC 1 n) 0=false:=zkm (Int.not_lt.1 (y2c h))
end
section
def ygx:Code:=(Tryz.f116.body).getD .skip
def ylV:Env:=zki TT [(20,yde)] []
theorem yKb:FrOk Tryz.prog ⟨ylV,19,fun _=>none⟩ ygx:=zkp yb yc ⟨yhb,trivial⟩
def yy0:Nat→Option Seg:=fun _=>none
def ybB:Shape:=⟨[(0,false,[.at 1000001000]),(1,false,[.int .i64]),(5,false,[.int .i64])],[],[(1000001000,tL,(.ow .fz))]⟩
def yhg:Shape:=⟨[(0,false,[.at 1000001000]),(1,false,[.int .i64]),(5,false,[.ci .i64 0])],[],[(1000001000,tL,(.ow .fz))]⟩
def yhe:Shape:=⟨[(1,false,[.int .i64])],[],[(1000001000,tL,(.ow .fz))]⟩
def yhl:Shape:=⟨[],[],[]⟩
def ym6 (v0:Int) (v1:Int) (v2:List (List Int)):Option ((ybB).X ⊕ ((yhe).X ⊕ (yhl).X)) :=
  bif (ltb v1 (v2.length:Int)) then
    bif (inb v1 v2.length) then
      let r4:=yv (nth v2 v1 []) v0
      some (.inl ((((),()),(r4.1,()),((IntKind.i64.wrap (v1+1)),()),()),(),((v2.set (v1).toNat r4.2),())))
    else none
  else
    some (.inr (.inl (((v0,()),()),(),(v2,()))))
def yaF (x:(ybB).X):=ym6 x.1.2.1.1 x.1.2.2.1.1 x.2.2.1
def ywq (x:(yhg).X):(ybB).X:=((((),()),(x.1.2.1.1,()),(0,()),()),(),(x.2.2.1,()))
def yxh:Code:=(zdI ygx 64 52).getD .skip
theorem yJX:zdI ygx 64 13=some (.block 0 (.loop yxh)):=by kernel_rfl
theorem yKA (x:(ybB).X):zg7 ⟨ylV,19,yy0⟩ 0 yxh 52 ybB yhe yhl x=yaF x:=by kernel_rfl
def ywy (x:(yhg).X):Nat:=(fun (u0:Int) (u1:List (List Int))=>18446744073709551616) x.1.2.1.1 x.2.2.1
def yn2 (x:(yhg).X):Option ((yhe).X ⊕ (yhl).X):=zr yaF (ywy x) (ywq x)
def yw5:Seg:=⟨yhg,yhe,yhl,yn2⟩
def yy1:Nat→Option Seg:=fun q=>bif Nat.beq q 13 then some yw5 else yy0 q
theorem yKc:FrOk Tryz.prog ⟨ylV,19,yy1⟩ ygx:=(yKb).loop (sg:=yw5) ybB ywq (by decide) yJX yaF ywy (by decide) (fun _=>rfl) (fun x r _ h=>h) yKA
abbrev ydX:List Par:= [.mt tLL (.ow (.ow .fz)),.rd tI]
abbrev ymf:List OT:= [⟨false,tI,.fz⟩]
def yjF (a0:List (List Int)) (a1:Int):Option (ResD ymf×MutD ydX) :=
  zjw (yn2 ((((),()),(a1,()),((),()),()),(),(a0,()))) (fun y4 =>
    some ((y4.1.1.1,()),(y4.2.2.1,()))) (fun y4 =>
    none)
theorem yQx (x:InD ydX):zjH ⟨ylV,19,yy1⟩ Tryz.f116.results.toList ygx ydX ymf x=yjF x.1 x.2.1:=by kernel_rfl
theorem yML:ConOk Tryz.prog 116 ⟨ydX,ymf,fun x=>yjF x.1 x.2.1⟩:=zkh (yKc) Tryz.func116 (by kernel_rfl) (by kernel_rfl) Tryz.ntmps116.symm (by decide) (fun x r h=>(yQx x).trans h)
def yE4 (x:List Int) (k:Int):Int×List Int:=yv x k
def yP (a0:List (List Int)) (a1:Int):Int×List (List Int):=zaX yE4 a0 a1
theorem yOS (a0:List (List Int)) (a1:Int) (hk:zi9 ydX (a0,a1,())):yjF a0 a1=(fun n=>some ((n.1,()),(n.2,()))) (yP a0 a1):=by
  have hb:a0.length * 24≤2 ^ 47:=hk.1.1
  have hl:yn2 ((((),()),(a1,()),((),()),()),(),(a0,()))=some (.inl ((((zaX yE4 a0 a1).1,()),()),(),((zaX yE4 a0 a1).2,()))) :=
    zkl (step:=yaF) a0 ([]:List Int) (fun i k m=>((((),()),(k,()),((i:Int),()),()),(),(m,()))) yE4 (fun k m=> .inl (((k,()),()),(),(m,()))) (fun i s m hi hm=>by
      simp only [yaF,ym6,zjI (show (i:Int) < m.length by omega),List.length_set,zkO hi,Int.toNat_natCast,List.set_set,cond_true,zkP hi,wr (show -9223372036854775808≤(i:Int)+1 by omega) (by omega),Int.natCast_add,Int.natCast_one,zjW]
      rfl) (fun s m hm=>by simp only [yaF,ym6,hm,zkm (Int.le_refl _),cond_false]) a1 _ (by show _ < 18446744073709551616; omega)
  unfold yjF yP
  rw [hl]; rfl
def yzo:Con:=⟨ydX,ymf,fun x=>(fun n=>some ((n.1,()),(n.2,()))) (yP x.1 x.2.1)⟩
theorem yPp:ConOk Tryz.prog 116 yzo:=(yML).mono (fun x r hk h=>(yOS x.1 x.2.1 hk).trans h)
end
end
end Go.Tf
