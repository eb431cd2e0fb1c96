/- Functions of the program, and what they come to. -/
import Derived.Test.YtfpjmijaiekbgaaGreatExactReplayF10
namespace Go.Tf
noncomputable section
open Go.Proofs
set_option synthInstance.maxHeartbeats 400000
set_option synthInstance.maxSize 10000
set_option linter.unusedVariables false
set_option linter.unusedSimpArgs false
set_option maxRecDepth 100000
section
def ygW:Code:=(Tryz.f254.body).getD .skip
def ymP:Env:=zki TT [(147,ynq),(218,yjU)] [(32768,(.pr .fz .fz))]
theorem yIf:FrOk Tryz.prog ⟨ymP,40,fun _=>none⟩ ygW:=zkp yb yc ⟨yvH,yr4,trivial⟩
def yyh:Nat→Option Seg:=fun _=>none
def yaw:Shape:=⟨[(2,false,[.ptr 64 0]),(3,false,[.ptr 4224 0]),(4,false,[.int .i64])],[(64,[.nil,.nil,.bool,.nil]),(4224,[.at 800000000,.at 800000001,.bool,.at 800000002])],[(800000000,tL,.fz),(800000001,tW,(.pr .fz .fz)),(800000002,tI,.fz)]⟩
def ydU:Shape:=⟨[(2,false,[.ptr 64 0]),(3,false,[.ptr 4224 0]),(4,false,[.ci .i64 0])],[(64,[.nil,.nil,.bool,.nil]),(4224,[.at 800000000,.at 800000001,.bool,.at 800000002])],[(800000000,tL,.fz),(800000001,tW,(.pr .fz .fz)),(800000002,tI,.fz)]⟩
def ydP:Shape:=⟨[(2,false,[.ptr 64 0]),(3,false,[.ptr 4224 0])],[(64,[.nil,.nil,.bool,.nil]),(4224,[.at 800000000,.at 800000001,.bool,.at 800000002])],[(800000000,tL,.fz),(800000001,tW,(.pr .fz .fz)),(800000002,tI,.fz)]⟩
def yhT:Shape:=⟨[],[],[]⟩
abbrev ymk (v0:Int) (v1:dM) (v2:dM):(yaw).X:=((((),()),((),()),(v0,()),()),(((),(),v1.2.2.1,(),()),((),(),v2.2.2.1,(),()),()),(v2.1,v2.2.1,v2.2.2.2,()))
abbrev yGG (v0:dM) (v1:dM):(ydU).X:=((((),()),((),()),((),()),()),(((),(),v0.2.2.1,(),()),((),(),v1.2.2.1,(),()),()),(v1.1,v1.2.1,v1.2.2.2,()))
abbrev yvk (v0:dM) (v1:dM):(ydP).X:=((((),()),((),()),()),(((),(),v0.2.2.1,(),()),((),(),v1.2.2.1,(),()),()),(v1.1,v1.2.1,v1.2.2.2,()))
def ymC (v0:Int) (v1:Bool) (v2:Bool) (v3:List (List Int)) (v4:List dW) (v5:List Int):Option ((yaw).X ⊕ ((ydP).X ⊕ (yhT).X)) :=
  bif (ltb v0 (v4.length:Int)) then
    bif (inb v0 v4.length) then
      bif (inb v0 v4.length) then
        bif (inb ((nth v4 v0 (0,[])).1) v3.length) then
          let r4:=(v3.set ((nth v4 v0 (0,[])).1).toNat ((nth v4 v0 (0,[])).2))
          some (.inl ((((),()),((),()),((IntKind.i64.wrap (v0+1)),()),()),(((),(),v1,(),()),((),(),v2,(),()),()),(r4,v4,v5,())))
        else none
      else none
    else none
  else
    some (.inr (.inl ((((),()),((),()),()),(((),(),v1,(),()),((),(),v2,(),()),()),(v3,v4,v5,()))))
def yaT (x:(yaw).X):=ymC x.1.2.2.1.1 x.2.1.1.2.2.1 x.2.1.2.1.2.2.1 x.2.2.1 x.2.2.2.1 x.2.2.2.2.1
def yu7 (x:(ydU).X):(yaw).X:=((((),()),((),()),(0,()),()),(((),(),x.2.1.1.2.2.1,(),()),((),(),x.2.1.2.1.2.2.1,(),()),()),(x.2.2.1,x.2.2.2.1,x.2.2.2.2.1,()))
def yww:Code:=(zdI ygW 64 244).getD .skip
theorem yHG:zdI ygW 64 61=some (.block 0 (.loop yww)):=by kernel_rfl
theorem yJe (x:(yaw).X):zg7 ⟨ymP,40,yyh⟩ 0 yww 244 yaw ydP yhT x=yaT x:=by kernel_rfl
def yvi (x:(ydU).X):Nat:=(fun (u0:Bool) (u1:Bool) (u2:List (List Int)) (u3:List dW) (u4:List Int)=>18446744073709551616) x.2.1.1.2.2.1 x.2.1.2.1.2.2.1 x.2.2.1 x.2.2.2.1 x.2.2.2.2.1
def yoh (x:(ydU).X):Option ((ydP).X ⊕ (yhT).X):=zr yaT (yvi x) (yu7 x)
def yvv:Seg:=⟨ydU,ydP,yhT,yoh⟩
def yyi:Nat→Option Seg:=fun q=>bif Nat.beq q 61 then some yvv else yyh q
theorem yIg:FrOk Tryz.prog ⟨ymP,40,yyi⟩ ygW:=(yIf).loop (sg:=yvv) yaw yu7 (by decide) yHG yaT yvi (by decide) (fun _=>rfl) (fun x r _ h=>h) yJe
abbrev yee:List Par:= [.rd tM]
abbrev yna:List OT:= [⟨false,tM,(.pr (.ow .fz) (.pr (.ow (.pr .fz .fz)) (.pr .fz (.ow .fz))))⟩]
def yjd (a0:dM):Option (ResD yna×MutD yee) :=
  let r1:=ybC a0
  let r2:=yaB a0
  bif (!(!r2)) then
    bif a0.2.2.1 then
      some ((r1,()),())
    else
      zjw (yoh ((((),()),((),()),((),()),()),(((),(),false,(),()),((),(),r1.2.2.1,(),()),()),(r1.1,r1.2.1,r1.2.2.2,()))) (fun y4 =>
        some (((y4.2.2.1,([]:List dW),y4.2.1.2.1.2.2.1,y4.2.2.2.2.1),()),())) (fun y4 =>
        none)
  else
    some ((r1,()),())
theorem yPO (x:InD yee):zjH ⟨ymP,40,yyi⟩ Tryz.f254.results.toList ygW yee yna x=yjd x.1:=by kernel_rfl
theorem yK4:ConOk Tryz.prog 254 ⟨yee,yna,fun x=>yjd x.1⟩:=zkh (yIg) Tryz.func254 (by kernel_rfl) (by kernel_rfl) Tryz.ntmps254.symm (by decide) (fun x r h=>(yPO x).trans h)
def yh9 (a0:dM):dM:=yfT a0
theorem yNQ (a0:dM) (hk:zi9 yee (a0,())):yjd a0=(fun n=>some ((n,()),())) (yh9 a0):=by
  have hb2:a0.2.1.length * 32≤2 ^ 47:=hk.1.2.1.1
  unfold yjd yh9 yfT
  simp only [ybC,yaB]
  cases hm:yo a0
  · rfl
  have h1:yoh (yGG yh a0)=some (.inl (yvk yh (ydz (fun _=>true) a0.2.1 a0.1,a0.2))) :=
    zks (step:=yaT) a0.2.1.length (fun i s=>ymk i yh (s,a0.2)) (ye5 (fun _=>true) a0.2.1) (fun i s=>s.length=a0.1.length) (fun s=> .inl (yvk yh (s,a0.2))) (fun i s hi hs=>by
      have hw:=(yXa hm hi).1
      refine ⟨?_,yFh.trans hs⟩
      simp only [yaT,ymk,ymC,zjI (show (i:Int) < a0.2.1.length by omega),cond_true,wr (show -9223372036854775808≤(i:Int)+1 by omega) (by omega),Int.natCast_add,Int.natCast_one,Int.toNat_natCast,zkO hi,hs,hw,ye5]) (fun s hs=>by simp only [yaT,ymk,ymC,zkm (Int.le_refl _),cond_false]) a0.1 rfl _ (by show _ < 18446744073709551616; omega)
  rw [h1]
  cases hf:a0.2.2.1
  · exact congrArg (fun z=>some (((ydz (fun _=>true) a0.2.1 a0.1,([]:List dW),z,a0.2.2.2),()),())) hf
  · rfl
def yyQ:Con:=⟨yee,yna,fun x=>(fun n=>some ((n,()),())) (yh9 x.1)⟩
theorem yOs:ConOk Tryz.prog 254 yyQ:=(yK4).mono (fun x r hk h=>(yNQ x.1 hk).trans h)
end
section
def ylD:Code:=(Tryz.f224.body).getD .skip
def yrq:Env:=zki TT [(213,yxE),(254,yyQ)] []
theorem yM6:FrOk Tryz.prog ⟨yrq,39,fun _=>none⟩ ylD:=zkp yb yc ⟨yI2,yOs,trivial⟩
def yCK:Nat→Option Seg:=fun _=>none
def ycy:Shape:=⟨[(0,false,[.ptr 1000000000 0]),(2,false,[.int .i64])],[(1000000000,[.int .i64,.int .i64,.int .i64,.at 800000000,.int .i64,.int .i64,.int .i64,.int .i64,.int .i64,.at 800000001,.int .i64,.bool,.bool])],[(800000000,tM,(.pr (.ow .fz) (.pr (.ow (.pr .fz .fz)) (.pr .fz (.ow .fz))))),(800000001,tW,(.pr .fz .fz))]⟩
def yhC:Shape:=⟨[(0,false,[.ptr 1000000000 0]),(2,false,[.ci .i64 0])],[(1000000000,[.int .i64,.int .i64,.int .i64,.at 800000000,.int .i64,.int .i64,.int .i64,.int .i64,.int .i64,.at 800000001,.int .i64,.bool,.bool])],[(800000000,tM,(.pr (.ow .fz) (.pr (.ow (.pr .fz .fz)) (.pr .fz (.ow .fz))))),(800000001,tW,(.pr .fz .fz))]⟩
def yhk:Shape:=⟨[],[(1000000000,[.int .i64,.int .i64,.int .i64,.at 800000000,.int .i64,.int .i64,.int .i64,.int .i64,.int .i64,.at 800000001,.int .i64,.bool,.bool])],[(800000000,tM,(.pr (.ow .fz) (.pr (.ow (.pr .fz .fz)) (.pr .fz (.ow .fz))))),(800000001,tW,(.pr .fz .fz))]⟩
def ynm:Shape:=⟨[],[],[]⟩
abbrev ysB (v0:Int) (v1:dA):(ycy).X:=((((),()),(v0,()),()),((v1.1,v1.2.1.1,v1.2.1.2,(),v1.2.2.2.1,v1.2.2.2.2.1,v1.2.2.2.2.2.1,v1.2.2.2.2.2.2.1,v1.2.2.2.2.2.2.2.1,(),v1.2.2.2.2.2.2.2.2.2.1,v1.2.2.2.2.2.2.2.2.2.2.1,v1.2.2.2.2.2.2.2.2.2.2.2,()),()),(v1.2.2.1,v1.2.2.2.2.2.2.2.2.1,()))
abbrev yNt (v0:dA):(yhC).X:=((((),()),((),()),()),((v0.1,v0.2.1.1,v0.2.1.2,(),v0.2.2.2.1,v0.2.2.2.2.1,v0.2.2.2.2.2.1,v0.2.2.2.2.2.2.1,v0.2.2.2.2.2.2.2.1,(),v0.2.2.2.2.2.2.2.2.2.1,v0.2.2.2.2.2.2.2.2.2.2.1,v0.2.2.2.2.2.2.2.2.2.2.2,()),()),(v0.2.2.1,v0.2.2.2.2.2.2.2.2.1,()))
abbrev yBF (v0:dA):(yhk).X:=((),((v0.1,v0.2.1.1,v0.2.1.2,(),v0.2.2.2.1,v0.2.2.2.2.1,v0.2.2.2.2.2.1,v0.2.2.2.2.2.2.1,v0.2.2.2.2.2.2.2.1,(),v0.2.2.2.2.2.2.2.2.2.1,v0.2.2.2.2.2.2.2.2.2.2.1,v0.2.2.2.2.2.2.2.2.2.2.2,()),()),(v0.2.2.1,v0.2.2.2.2.2.2.2.2.1,()))
def ys0 (v0:Int) (v1:Int) (v2:Int) (v3:Int) (v4:Int) (v5:Int) (v6:Int) (v7:Int) (v8:Int) (v9:Int) (v10:Bool) (v11:Bool) (v12:List dM) (v13:List dW):Option ((ycy).X ⊕ ((yhk).X ⊕ (ynm).X)) :=
  bif (ltb v0 (v12.length:Int)) then
    bif (inb v0 v12.length) then
      bif (!((((nth v12 v0 ([],[],false,[])).2).2).1)) then
        let r3:=yrb (v1,(v2,v3),v12,v4,v5,v6,v7,v8,v13,v9,v10,v11)
        bif r3.1 then
          bif (inb v0 r3.2.2.2.1.length) then
            let r4:=yh9 ((nth r3.2.2.2.1 v0 ([],[],false,[])).1,((nth r3.2.2.2.1 v0 ([],[],false,[])).2).1,(((nth r3.2.2.2.1 v0 ([],[],false,[])).2).2))
            bif (inb v0 r3.2.2.2.1.length) then
              some (.inl ((((),()),((IntKind.i64.wrap (v0+1)),()),()),((r3.2.1,r3.2.2.1.1,r3.2.2.1.2,(),r3.2.2.2.2.1,r3.2.2.2.2.2.1,r3.2.2.2.2.2.2.1,r3.2.2.2.2.2.2.2.1,r3.2.2.2.2.2.2.2.2.1,(),r3.2.2.2.2.2.2.2.2.2.2.1,r3.2.2.2.2.2.2.2.2.2.2.2.1,r3.2.2.2.2.2.2.2.2.2.2.2.2,()),()),((r3.2.2.2.1.set (v0).toNat r4),r3.2.2.2.2.2.2.2.2.2.1,())))
            else none
          else none
        else
          some (.inl ((((),()),((IntKind.i64.wrap (v0+1)),()),()),((r3.2.1,r3.2.2.1.1,r3.2.2.1.2,(),r3.2.2.2.2.1,r3.2.2.2.2.2.1,r3.2.2.2.2.2.2.1,r3.2.2.2.2.2.2.2.1,r3.2.2.2.2.2.2.2.2.1,(),r3.2.2.2.2.2.2.2.2.2.2.1,r3.2.2.2.2.2.2.2.2.2.2.2.1,r3.2.2.2.2.2.2.2.2.2.2.2.2,()),()),(r3.2.2.2.1,r3.2.2.2.2.2.2.2.2.2.1,())))
      else
        some (.inl ((((),()),((IntKind.i64.wrap (v0+1)),()),()),((v1,v2,v3,(),v4,v5,v6,v7,v8,(),v9,v10,v11,()),()),(v12,v13,())))
    else none
  else
    some (.inr (.inl ((),((v1,v2,v3,(),v4,v5,v6,v7,v8,(),v9,v10,v11,()),()),(v12,v13,()))))
def yc6 (x:(ycy).X):=ys0 x.1.2.1.1 x.2.1.1.1 x.2.1.1.2.1 x.2.1.1.2.2.1 x.2.1.1.2.2.2.2.1 x.2.1.1.2.2.2.2.2.1 x.2.1.1.2.2.2.2.2.2.1 x.2.1.1.2.2.2.2.2.2.2.1 x.2.1.1.2.2.2.2.2.2.2.2.1 x.2.1.1.2.2.2.2.2.2.2.2.2.2.1 x.2.1.1.2.2.2.2.2.2.2.2.2.2.2.1 x.2.1.1.2.2.2.2.2.2.2.2.2.2.2.2.1 x.2.2.1 x.2.2.2.1
def yBg (x:(yhC).X):(ycy).X:=((((),()),(0,()),()),((x.2.1.1.1,x.2.1.1.2.1,x.2.1.1.2.2.1,(),x.2.1.1.2.2.2.2.1,x.2.1.1.2.2.2.2.2.1,x.2.1.1.2.2.2.2.2.2.1,x.2.1.1.2.2.2.2.2.2.2.1,x.2.1.1.2.2.2.2.2.2.2.2.1,(),x.2.1.1.2.2.2.2.2.2.2.2.2.2.1,x.2.1.1.2.2.2.2.2.2.2.2.2.2.2.1,x.2.1.1.2.2.2.2.2.2.2.2.2.2.2.2.1,()),()),(x.2.2.1,x.2.2.2.1,()))
def yDa:Code:=(zdI ylD 64 12).getD .skip
theorem yPt:zdI ylD 64 3=some (.block 0 (.loop yDa)):=by kernel_rfl
theorem ySf (x:(ycy).X):zg7 ⟨yrq,39,yCK⟩ 0 yDa 12 ycy yhk ynm x=yc6 x:=by kernel_rfl
def yBx (x:(yhC).X):Nat:=(fun (u0:Int) (u1:Int) (u2:Int) (u3:Int) (u4:Int) (u5:Int) (u6:Int) (u7:Int) (u8:Int) (u9:Bool) (u10:Bool) (u11:List dM) (u12:List dW)=>18446744073709551616) x.2.1.1.1 x.2.1.1.2.1 x.2.1.1.2.2.1 x.2.1.1.2.2.2.2.1 x.2.1.1.2.2.2.2.2.1 x.2.1.1.2.2.2.2.2.2.1 x.2.1.1.2.2.2.2.2.2.2.1 x.2.1.1.2.2.2.2.2.2.2.2.1 x.2.1.1.2.2.2.2.2.2.2.2.2.2.1 x.2.1.1.2.2.2.2.2.2.2.2.2.2.2.1 x.2.1.1.2.2.2.2.2.2.2.2.2.2.2.2.1 x.2.2.1 x.2.2.2.1
def ytE (x:(yhC).X):Option ((yhk).X ⊕ (ynm).X):=zr yc6 (yBx x) (yBg x)
def yB0:Seg:=⟨yhC,yhk,ynm,ytE⟩
def yCL:Nat→Option Seg:=fun q=>bif Nat.beq q 3 then some yB0 else yCK q
theorem yM7:FrOk Tryz.prog ⟨yrq,39,yCL⟩ ylD:=(yM6).loop (sg:=yB0) ycy yBg (by decide) yPt yc6 yBx (by decide) (fun _=>rfl) (fun x r _ h=>h) ySf
abbrev ygD:List Par:= [.pt tA (.pr .fz (.pr (.pr .fz .fz) (.pr (.ow (.pr (.ow .fz) (.pr (.ow (.pr .fz .fz)) (.pr .fz (.ow .fz))))) (.pr .fz (.pr .fz (.pr .fz (.pr .fz (.pr .fz (.pr (.ow (.pr .fz .fz)) (.pr .fz (.pr .fz .fz)))))))))))]
abbrev yrY:List OT:= []
def ynU (a0:dA):Option (ResD yrY×MutD ygD) :=
  zjw (ytE ((((),()),((),()),()),((a0.1,a0.2.1.1,a0.2.1.2,(),a0.2.2.2.1,a0.2.2.2.2.1,a0.2.2.2.2.2.1,a0.2.2.2.2.2.2.1,a0.2.2.2.2.2.2.2.1,(),a0.2.2.2.2.2.2.2.2.2.1,a0.2.2.2.2.2.2.2.2.2.2.1,a0.2.2.2.2.2.2.2.2.2.2.2,()),()),(a0.2.2.1,a0.2.2.2.2.2.2.2.2.1,()))) (fun y4 =>
    some ((),((y4.2.1.1.1,(y4.2.1.1.2.1,y4.2.1.1.2.2.1),y4.2.2.1,y4.2.1.1.2.2.2.2.1,y4.2.1.1.2.2.2.2.2.1,y4.2.1.1.2.2.2.2.2.2.1,y4.2.1.1.2.2.2.2.2.2.2.1,y4.2.1.1.2.2.2.2.2.2.2.2.1,y4.2.2.2.1,y4.2.1.1.2.2.2.2.2.2.2.2.2.2.1,y4.2.1.1.2.2.2.2.2.2.2.2.2.2.2.1,y4.2.1.1.2.2.2.2.2.2.2.2.2.2.2.2.1),()))) (fun y4 =>
    none)
theorem yVA (x:InD ygD):zjH ⟨yrq,39,yCL⟩ Tryz.f224.results.toList ylD ygD yrY x=ynU x.1:=by kernel_rfl
theorem yRC:ConOk Tryz.prog 224 ⟨ygD,yrY,fun x=>ynU x.1⟩:=zkh (yM7) Tryz.func224 (by kernel_rfl) (by kernel_rfl) Tryz.ntmps224.symm (by decide) (fun x r h=>(yVA x).trans h)
def yc9 (a0:dA):dA:=yH a0
theorem yTK (a0:dA) (hk:zi9 ygD (a0,())):ynU a0=(fun n=>some ((),(n,()))) (yc9 a0):=by
  have hb:a0.2.2.1.length * 80≤2 ^ 47:=hk.1.2.2.1.1
  have h1:ytE (yNt a0)=some (.inl (yBF (yH a0))) :=
    zks (step:=yc6) a0.2.2.1.length (fun i s=>ysB i s) yF (fun _ s=>s.2.2.1.length=a0.2.2.1.length) (fun s=> .inl (yBF s)) (fun i s hi hs=>⟨by
      simp only [yc6,ysB,ys0,hs,zjI (show (i:Int) < a0.2.2.1.length by omega),cond_true,wr (show -9223372036854775808≤(i:Int)+1 by omega) (by omega),Int.natCast_add,Int.natCast_one,Int.toNat_natCast,zkO hi,zkV,ySh,ydD,yh9,yF,yBL]
      cases (nth s.2.2.1 i yh).2.2.1<;>cases (opA s).1<;>simp only [cond_true,cond_false,Bool.not_true,Bool.not_false,ydD,Int.toNat_natCast],(ywc s i).trans hs⟩) (fun s hs=>by simp only [yc6,ysB,ys0,hs,zkm (Int.le_refl _),cond_false]) a0 rfl _ (by show _ < 18446744073709551616; omega)
  unfold ynU yc9
  rw [h1]; rfl
def ynr:Con:=⟨ygD,yrY,fun x=>(fun n=>some ((),(n,()))) (yc9 x.1)⟩
theorem yvI:ConOk Tryz.prog 224 ynr:=(yRC).mono (fun x r hk h=>(yTK x.1 hk).trans h)
end
section
def yn3:Code:=(Tryz.f161.body).getD .skip
def ytp:Env:=zki TT [(149,ypJ),(221,yue),(223,yDs),(224,ynr)] []
theorem yQB:FrOk Tryz.prog ⟨ytp,24,fun _=>none⟩ yn3:=zkp yb yc ⟨yxL,yE3,yUw,yvI,trivial⟩
def yEk:Nat→Option Seg:=fun _=>none
def ycx:Shape:=⟨[(0,false,[.ptr 1000000000 0]),(3,false,[.ptr 0 0]),(4,false,[.int .i64])],[(0,[.int .i64,.int .i64,.br tI]),(1000000000,[.int .i64,.int .i64,.int .i64,.at 800000000,.int .i64,.int .i64,.int .i64,.int .i64,.int .i64,.at 800000001,.int .i64,.bool,.bool])],[(800000000,tM,(.pr (.ow .fz) (.pr (.ow (.pr .fz .fz)) (.pr .fz (.ow .fz))))),(800000001,tW,(.pr .fz .fz))]⟩
def yhB:Shape:=⟨[(0,false,[.ptr 1000000000 0]),(3,false,[.ptr 0 0]),(4,false,[.ci .i64 0])],[(0,[.int .i64,.int .i64,.br tI]),(1000000000,[.int .i64,.int .i64,.int .i64,.at 800000000,.int .i64,.int .i64,.int .i64,.int .i64,.int .i64,.at 800000001,.int .i64,.bool,.bool])],[(800000000,tM,(.pr (.ow .fz) (.pr (.ow (.pr .fz .fz)) (.pr .fz (.ow .fz))))),(800000001,tW,(.pr .fz .fz))]⟩
def yhj:Shape:=⟨[(0,false,[.ptr 1000000000 0])],[(1000000000,[.int .i64,.int .i64,.int .i64,.at 800000000,.int .i64,.int .i64,.int .i64,.int .i64,.int .i64,.at 800000001,.int .i64,.bool,.bool])],[(800000000,tM,(.pr (.ow .fz) (.pr (.ow (.pr .fz .fz)) (.pr .fz (.ow .fz))))),(800000001,tW,(.pr .fz .fz))]⟩
def ynl:Shape:=⟨[],[],[]⟩
abbrev ysA (v0:Int) (v1:dN) (v2:dA):(ycx).X:=((((),()),((),()),(v0,()),()),((v1.1,v1.2.1,v1.2.2,()),(v2.1,v2.2.1.1,v2.2.1.2,(),v2.2.2.2.1,v2.2.2.2.2.1,v2.2.2.2.2.2.1,v2.2.2.2.2.2.2.1,v2.2.2.2.2.2.2.2.1,(),v2.2.2.2.2.2.2.2.2.2.1,v2.2.2.2.2.2.2.2.2.2.2.1,v2.2.2.2.2.2.2.2.2.2.2.2,()),()),(v2.2.2.1,v2.2.2.2.2.2.2.2.2.1,()))
abbrev yNs (v0:dN) (v1:dA):(yhB).X:=((((),()),((),()),((),()),()),((v0.1,v0.2.1,v0.2.2,()),(v1.1,v1.2.1.1,v1.2.1.2,(),v1.2.2.2.1,v1.2.2.2.2.1,v1.2.2.2.2.2.1,v1.2.2.2.2.2.2.1,v1.2.2.2.2.2.2.2.1,(),v1.2.2.2.2.2.2.2.2.2.1,v1.2.2.2.2.2.2.2.2.2.2.1,v1.2.2.2.2.2.2.2.2.2.2.2,()),()),(v1.2.2.1,v1.2.2.2.2.2.2.2.2.1,()))
abbrev yBE (v0:dA):(yhj).X:=((((),()),()),((v0.1,v0.2.1.1,v0.2.1.2,(),v0.2.2.2.1,v0.2.2.2.2.1,v0.2.2.2.2.2.1,v0.2.2.2.2.2.2.1,v0.2.2.2.2.2.2.2.1,(),v0.2.2.2.2.2.2.2.2.2.1,v0.2.2.2.2.2.2.2.2.2.2.1,v0.2.2.2.2.2.2.2.2.2.2.2,()),()),(v0.2.2.1,v0.2.2.2.2.2.2.2.2.1,()))
def ysZ (v0:Int) (v1:Int) (v2:Int) (v3:List Int) (v4:Int) (v5:Int) (v6:Int) (v7:Int) (v8:Int) (v9:Int) (v10:Int) (v11:Int) (v12:Int) (v13:Bool) (v14:Bool) (v15:List dM) (v16:List dW):Option ((ycx).X ⊕ ((yhj).X ⊕ (ynl).X)) :=
  bif (ltb v0 (v15.length:Int)) then
    let r4:=yi v1
    let r5:=yl4 (v1,v2,v3)
    bnd (yf3 (v4,(v5,v6),v15,v7,v8,v9,v10,v11,v16,v12,v13,v14) v0 r4 r5) fun r6 =>
    some (.inl ((((),()),((),()),((IntKind.i64.wrap (v0+1)),()),()),((v1,v2,v3,()),(r6.2.1.1,r6.2.1.2.1.1,r6.2.1.2.1.2,(),r6.2.1.2.2.2.1,r6.2.1.2.2.2.2.1,r6.2.1.2.2.2.2.2.1,r6.2.1.2.2.2.2.2.2.1,r6.2.1.2.2.2.2.2.2.2.1,(),r6.2.1.2.2.2.2.2.2.2.2.2.1,r6.2.1.2.2.2.2.2.2.2.2.2.2.1,r6.2.1.2.2.2.2.2.2.2.2.2.2.2,()),()),(r6.2.1.2.2.1,r6.2.1.2.2.2.2.2.2.2.2.1,())))
  else
    some (.inr (.inl ((((),()),()),((v4,v5,v6,(),v7,v8,v9,v10,v11,(),v12,v13,v14,()),()),(v15,v16,()))))
def yc5 (x:(ycx).X):=ysZ x.1.2.2.1.1 x.2.1.1.1 x.2.1.1.2.1 x.2.1.1.2.2.1 x.2.1.2.1.1 x.2.1.2.1.2.1 x.2.1.2.1.2.2.1 x.2.1.2.1.2.2.2.2.1 x.2.1.2.1.2.2.2.2.2.1 x.2.1.2.1.2.2.2.2.2.2.1 x.2.1.2.1.2.2.2.2.2.2.2.1 x.2.1.2.1.2.2.2.2.2.2.2.2.1 x.2.1.2.1.2.2.2.2.2.2.2.2.2.2.1 x.2.1.2.1.2.2.2.2.2.2.2.2.2.2.2.1 x.2.1.2.1.2.2.2.2.2.2.2.2.2.2.2.2.1 x.2.2.1 x.2.2.2.1
def yBf (x:(yhB).X):(ycx).X:=((((),()),((),()),(0,()),()),((x.2.1.1.1,x.2.1.1.2.1,x.2.1.1.2.2.1,()),(x.2.1.2.1.1,x.2.1.2.1.2.1,x.2.1.2.1.2.2.1,(),x.2.1.2.1.2.2.2.2.1,x.2.1.2.1.2.2.2.2.2.1,x.2.1.2.1.2.2.2.2.2.2.1,x.2.1.2.1.2.2.2.2.2.2.2.1,x.2.1.2.1.2.2.2.2.2.2.2.2.1,(),x.2.1.2.1.2.2.2.2.2.2.2.2.2.2.1,x.2.1.2.1.2.2.2.2.2.2.2.2.2.2.2.1,x.2.1.2.1.2.2.2.2.2.2.2.2.2.2.2.2.1,()),()),(x.2.2.1,x.2.2.2.1,()))
def yC9:Code:=(zdI yn3 64 52).getD .skip
theorem yPs:zdI yn3 64 13=some (.block 0 (.loop yC9)):=by kernel_rfl
theorem ySe (x:(ycx).X):zg7 ⟨ytp,24,yEk⟩ 0 yC9 52 ycx yhj ynl x=yc5 x:=by kernel_rfl
def yBw (x:(yhB).X):Nat:=(fun (u0:Int) (u1:Int) (u2:List Int) (u3:Int) (u4:Int) (u5:Int) (u6:Int) (u7:Int) (u8:Int) (u9:Int) (u10:Int) (u11:Int) (u12:Bool) (u13:Bool) (u14:List dM) (u15:List dW)=>18446744073709551616) x.2.1.1.1 x.2.1.1.2.1 x.2.1.1.2.2.1 x.2.1.2.1.1 x.2.1.2.1.2.1 x.2.1.2.1.2.2.1 x.2.1.2.1.2.2.2.2.1 x.2.1.2.1.2.2.2.2.2.1 x.2.1.2.1.2.2.2.2.2.2.1 x.2.1.2.1.2.2.2.2.2.2.2.1 x.2.1.2.1.2.2.2.2.2.2.2.2.1 x.2.1.2.1.2.2.2.2.2.2.2.2.2.2.1 x.2.1.2.1.2.2.2.2.2.2.2.2.2.2.2.1 x.2.1.2.1.2.2.2.2.2.2.2.2.2.2.2.2.1 x.2.2.1 x.2.2.2.1
def ytD (x:(yhB).X):Option ((yhj).X ⊕ (ynl).X):=zr yc5 (yBw x) (yBf x)
def yBZ:Seg:=⟨yhB,yhj,ynl,ytD⟩
def yEl:Nat→Option Seg:=fun q=>bif Nat.beq q 13 then some yBZ else yEk q
theorem yQC:FrOk Tryz.prog ⟨ytp,24,yEl⟩ yn3:=(yQB).loop (sg:=yBZ) ycx yBf (by decide) yPs yc5 yBw (by decide) (fun _=>rfl) (fun x r _ h=>h) ySe
abbrev yjO:List Par:= [.pt tA (.pr .fz (.pr (.pr .fz .fz) (.pr (.ow (.pr (.ow .fz) (.pr (.ow (.pr .fz .fz)) (.pr .fz (.ow .fz))))) (.pr .fz (.pr .fz (.pr .fz (.pr .fz (.pr .fz (.pr (.ow (.pr .fz .fz)) (.pr .fz (.pr .fz .fz))))))))))),.rd tN]
abbrev yt6:List OT:= []
def yqa (a0:dA) (a1:dN):Option (ResD yt6×MutD yjO) :=
  zjw (ytD ((((),()),((),()),((),()),()),((a1.1,a1.2.1,a1.2.2,()),(a0.1,a0.2.1.1,a0.2.1.2,(),a0.2.2.2.1,a0.2.2.2.2.1,a0.2.2.2.2.2.1,a0.2.2.2.2.2.2.1,a0.2.2.2.2.2.2.2.1,(),a0.2.2.2.2.2.2.2.2.2.1,a0.2.2.2.2.2.2.2.2.2.2.1,a0.2.2.2.2.2.2.2.2.2.2.2,()),()),(a0.2.2.1,a0.2.2.2.2.2.2.2.2.1,()))) (fun y6 =>
    let r8:=yc9 (y6.2.1.1.1,(y6.2.1.1.2.1,y6.2.1.1.2.2.1),y6.2.2.1,y6.2.1.1.2.2.2.2.1,y6.2.1.1.2.2.2.2.2.1,y6.2.1.1.2.2.2.2.2.2.1,y6.2.1.1.2.2.2.2.2.2.2.1,y6.2.1.1.2.2.2.2.2.2.2.2.1,y6.2.2.2.1,y6.2.1.1.2.2.2.2.2.2.2.2.2.2.1,y6.2.1.1.2.2.2.2.2.2.2.2.2.2.2.1,y6.2.1.1.2.2.2.2.2.2.2.2.2.2.2.2.1)
    some ((),(r8,()))) (fun y6 =>
    none)
theorem yW5 (x:InD yjO):zjH ⟨ytp,24,yEl⟩ Tryz.f161.results.toList yn3 yjO yt6 x=yqa x.1 x.2.1:=by kernel_rfl
theorem yUe:ConOk Tryz.prog 161 ⟨yjO,yt6,fun x=>yqa x.1 x.2.1⟩:=zkh (yQC) Tryz.func161 (by kernel_rfl) (by kernel_rfl) Tryz.ntmps161.symm (by decide) (fun x r h=>(yW5 x).trans h)
def yoP (a0:dA) (a1:dN):dA:=yDT a0 a1
theorem yV7 (a0:dA) (a1:dN) (hk:zi9 yjO (a0,a1,())):yqa a0 a1=(fun n=>some ((),(n,()))) (yoP a0 a1):=by
  have hb:a0.2.2.1.length * 80≤2 ^ 47:=hk.1.2.2.1.1
  have h1:ytD (yNs a1 a0)=some (.inl (yBE ((List.range a0.2.2.1.length).foldl (ye8 a1) a0))) :=
    zks (step:=yc5) a0.2.2.1.length (fun i s=>ysA i a1 s) (ye8 a1) (fun _ s=>s.2.2.1.length=a0.2.2.1.length) (fun s=> .inl (yBE s)) (fun i s hi hs=>⟨by
      simp only [yc5,ysA,ysZ,hs,zjI (show (i:Int) < a0.2.2.1.length by omega),cond_true,wr (show -9223372036854775808≤(i:Int)+1 by omega) (by omega),Int.natCast_add,Int.natCast_one,Int.toNat_natCast,zkV,yl4]
      rw [yr5 s i (yi a1.1) (yoQ a1) (zkO (by rw [hs]; exact hi))]
      rfl,(yzP a1 s i).trans hs⟩) (fun s hs=>by simp only [yc5,ysA,ysZ,hs,zkm (Int.le_refl _),cond_false]) a0 rfl _ (by show _ < 18446744073709551616; omega)
  unfold yqa yoP yDT
  exact (congrArg (fun z=>zjw z _ _) h1).trans rfl
def yEN:Con:=⟨yjO,yt6,fun x=>(fun n=>some ((),(n,()))) (yoP x.1 x.2.1)⟩
theorem yWw:ConOk Tryz.prog 161 yEN:=(yUe).mono (fun x r hk h=>(yV7 x.1 x.2.1 hk).trans h)
end
section
def yFH:Code:=(Tryz.f150.body).getD .skip
def yF2:Env:=zki TT [(98,yz)] []
theorem yMM:FrOk Tryz.prog ⟨yF2,9,fun _=>none⟩ yFH:=zkp yb yc ⟨yP,trivial⟩
def yO7:Nat→Option Seg:=fun _=>none
abbrev ylN:List Par:= [.rd tI]
abbrev yrN:List OT:= [⟨false,tI,.fz⟩]
def yuG (a0:Int):Option (ResD yrN×MutD ylN) :=
  let r1:=ya a0 0 1099511627776
  bif (!r1) then
    some (((-1),()),())
  else
    some (((IntKind.i64.wrap ((IntKind.i64.wrap (a0+2))+4)),()),())
theorem yVn (x:InD ylN):zjH ⟨yF2,9,yO7⟩ Tryz.f150.results.toList yFH ylN yrN x=yuG x.1:=by kernel_rfl
theorem yRp:ConOk Tryz.prog 150 ⟨ylN,yrN,fun x=>yuG x.1⟩:=zkh (yMM) Tryz.func150 (by kernel_rfl) (by kernel_rfl) Tryz.ntmps150.symm (by decide) (fun x r h=>(yVn x).trans h)
def ygJ (a0:Int):Int :=
  let r1:=ya a0 0 1099511627776
  bif (!r1) then
    (-1)
  else
    (IntKind.i64.wrap ((IntKind.i64.wrap (a0+2))+4))
def yDp:Con:=⟨ylN,yrN,fun x=>(fun n=>some ((n,()),())) (ygJ x.1)⟩
theorem yTx (a0:Int):yuG a0=(fun n=>some ((n,()),())) (ygJ a0):=zkS (p:=fun (n:Int)=>((n,()),())) (zkx (p:=fun (n:Int)=>((n,()),())) rfl rfl)
theorem yUt:ConOk Tryz.prog 150 yDp:=(yRp).mono (fun x r _ h=>(yTx x.1).trans h)
theorem yE5 (s:Int):ygJ s=yuf s:=by
  unfold ygJ yuf
  rw [yiW]
  by_cases h:0≤s∧s≤1099511627776
  · rw [zk0 h.1,zk0 h.2,wr (show -9223372036854775808≤s+2 by omega) (by omega),wr (by omega) (by omega)]
    show s+2+4=s+6
    omega
  · cases h1:(leb 0 s&&leb s 1099511627776)
    · rfl
    · rw [Bool.and_eq_true,zjQ,zjQ]at h1; exact absurd h1 h
end
section
def yCh:Code:=(Tryz.f255.body).getD .skip
def yCU:Env:=zki TT [(98,yz),(141,ypI)] []
theorem yIk:FrOk Tryz.prog ⟨yCU,14,fun _=>none⟩ yCh:=zkp yb yc ⟨yP,yxK,trivial⟩
def yJw:Nat→Option Seg:=fun _=>none
abbrev yg2:List Par:= [.rd tG,.rd tI]
abbrev yne:List OT:= [⟨false,tB,.fz⟩]
def yqK (a0:dG) (a1:Int):Option (ResD yne×MutD yg2) :=
  let r1:=yf a0
  bif r1 then
    let r2:=ya a1 0 (IntKind.i64.wrap (a0.2 - 1))
    some ((r2,()),())
  else
    some ((false,()),())
theorem yPS (x:InD yg2):zjH ⟨yCU,14,yJw⟩ Tryz.f255.results.toList yCh yg2 yne x=yqK x.1 x.2.1:=by kernel_rfl
theorem yK8:ConOk Tryz.prog 255 ⟨yg2,yne,fun x=>yqK x.1 x.2.1⟩:=zkh (yIk) Tryz.func255 (by kernel_rfl) (by kernel_rfl) Tryz.ntmps255.symm (by decide) (fun x r h=>(yPS x).trans h)
def yic (a0:dG) (a1:Int):Bool :=
  let r1:=yf a0
  bif r1 then
    let r2:=ya a1 0 (IntKind.i64.wrap (a0.2 - 1))
    r2
  else
    false
def yyU:Con:=⟨yg2,yne,fun x=>(fun n=>some ((n,()),())) (yic x.1 x.2.1)⟩
theorem yNU (a0:dG) (a1:Int):yqK a0 a1=(fun n=>some ((n,()),())) (yic a0 a1):=zkS (p:=fun (n:Bool)=>((n,()),())) (zkx (p:=fun (n:Bool)=>((n,()),())) rfl rfl)
theorem yOw:ConOk Tryz.prog 255 yyU:=(yK8).mono (fun x r _ h=>(yNU x.1 x.2.1).trans h)
theorem yXF (g:dG) (s:Int):yic g s=yjh g s:=by
  unfold yic yjh
  cases hg:yf g
  · rfl
  have:=yaF.1 hg
  rw [yiW,wr (by omega) (by omega)]; rfl
end
section
def yCe:Code:=(Tryz.f225.body).getD .skip
def yCR:Env:=zki TT [(255,yyU)] []
theorem yIh:FrOk Tryz.prog ⟨yCR,17,fun _=>none⟩ yCe:=zkp yb yc ⟨yOw,trivial⟩
def yJt:Nat→Option Seg:=fun _=>none
abbrev yef:List Par:= [.rd tG,.rd tI]
abbrev ynb:List OT:= [⟨false,tI,.fz⟩]
def yje (a0:dG) (a1:Int):Option (ResD ynb×MutD yef) :=
  let r1:=yic a0 a1
  bif (!r1) then
    some (((-1),()),())
  else
    bif (a0.1 !=0) then
      some (((IntKind.i64.wrap ((IntKind.i64.wrap (a0.1 - 1)) - (a1.tmod a0.1))),()),())
    else none
theorem yPP (x:InD yef):zjH ⟨yCR,17,yJt⟩ Tryz.f225.results.toList yCe yef ynb x=yje x.1 x.2.1:=by kernel_rfl
theorem yK5:ConOk Tryz.prog 225 ⟨yef,ynb,fun x=>yje x.1 x.2.1⟩:=zkh (yIh) Tryz.func225 (by kernel_rfl) (by kernel_rfl) Tryz.ntmps225.symm (by decide) (fun x r h=>(yPP x).trans h)
def yia (a0:dG) (a1:Int):Int:=yg a0 a1
theorem yNR (a0:dG) (a1:Int) (hk:zi9 yef (a0,a1,())):yje a0 a1=(fun n=>some ((n,()),())) (yia a0 a1):=by
  unfold yje yia
  rw [yXF]
  cases hs:yjh a0 a1
  · unfold yg; rw [hs]; rfl
  · have h1:=ykk.1 hs
    have h2:=yaF.1 h1.1
    have h3:=ys9 hs
    have h4:yg a0 a1=a0.1 - 1 - a1.tmod a0.1:=by unfold yg; rw [hs]; rfl
    rw [show (a0.1 !=0)=true from bne_iff_ne.2 (by omega),wr (show -9223372036854775808≤a0.1 - 1 by omega) (by omega),wr (show -9223372036854775808≤a0.1 - 1 - a1.tmod a0.1 by omega) (by omega),h4]; rfl
def yyR:Con:=⟨yef,ynb,fun x=>(fun n=>some ((n,()),())) (yia x.1 x.2.1)⟩
theorem yOt:ConOk Tryz.prog 225 yyR:=(yK5).mono (fun x r hk h=>(yNR x.1 x.2.1 hk).trans h)
end
end
end Go.Tf
