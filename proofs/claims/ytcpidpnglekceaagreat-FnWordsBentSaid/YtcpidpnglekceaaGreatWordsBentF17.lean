/- Functions of the program, and what they come to. -/
import Derived.Test.YtcpidpnglekceaaGreatWordsBentF16
namespace Go.Tf
noncomputable section
open Go.Proofs
set_option synthInstance.maxHeartbeats 400000
set_option synthInstance.maxSize 10000
set_option linter.unusedVariables false
set_option linter.unusedSimpArgs false
set_option maxRecDepth 100000
section
def yiE:Code:=(Tryz.f62.body).getD .skip
def ym3:Env:=zki TT [(60,yqZ),(168,ywJ)] []
theorem yEx:FrOk Tryz.prog ⟨ym3,39,fun _=>none⟩ yiE:=zkp ye yf ⟨yAn,yLZ,trivial⟩
def yvO:Nat→Option Seg:=fun _=>none
def yaO:Shape:=⟨[(1,false,[.int .i64]),(2,false,[.ptr 0 0]),(6,false,[.at 800000000]),(8,false,[.at 800000001]),(22,false,[.int .i64]),(23,false,[.int .i64])],[(0,[.int .i64,.int .i64,.int .i64,.br tM,.int .i64,.int .i64,.int .i64,.int .i64,.int .i64,.br tW,.int .i64,.bool,.bool])],[(800000000,tI,.fz),(800000001,tI,.fz)]⟩
def ydF:Shape:=⟨[(1,false,[.int .i64]),(2,false,[.ptr 0 0]),(6,false,[.at 800000000]),(8,false,[.at 800000001]),(22,false,[.int .i64]),(23,false,[.ci .i64 0])],[(0,[.int .i64,.int .i64,.int .i64,.br tM,.int .i64,.int .i64,.int .i64,.int .i64,.int .i64,.br tW,.int .i64,.bool,.bool])],[(800000000,tI,.fz),(800000001,tI,.fz)]⟩
def ydz:Shape:=⟨[(8,false,[.at 800000000])],[],[(800000000,tI,.fz)]⟩
def ygM:Shape:=⟨[],[],[]⟩
abbrev yk5 (v0:Int) (v1:Int) (v2:Int) (v3:dA) (v4:List Int) (v5:List Int):(yaO).X:=(((v0,()),((),()),((),()),((),()),(v1,()),(v2,()),()),((v3.1,v3.2.1.1,v3.2.1.2,v3.2.2.1,v3.2.2.2.1,v3.2.2.2.2.1,v3.2.2.2.2.2.1,v3.2.2.2.2.2.2.1,v3.2.2.2.2.2.2.2.1,v3.2.2.2.2.2.2.2.2.1,v3.2.2.2.2.2.2.2.2.2.1,v3.2.2.2.2.2.2.2.2.2.2.1,v3.2.2.2.2.2.2.2.2.2.2.2,()),()),(v4,v5,()))
abbrev yBX (v0:Int) (v1:Int) (v2:dA) (v3:List Int) (v4:List Int):(ydF).X:=(((v0,()),((),()),((),()),((),()),(v1,()),((),()),()),((v2.1,v2.2.1.1,v2.2.1.2,v2.2.2.1,v2.2.2.2.1,v2.2.2.2.2.1,v2.2.2.2.2.2.1,v2.2.2.2.2.2.2.1,v2.2.2.2.2.2.2.2.1,v2.2.2.2.2.2.2.2.2.1,v2.2.2.2.2.2.2.2.2.2.1,v2.2.2.2.2.2.2.2.2.2.2.1,v2.2.2.2.2.2.2.2.2.2.2.2,()),()),(v3,v4,()))
abbrev yr4 (v0:List Int):(ydz).X:=((((),()),()),(),(v0,()))
def yli (v0:Int) (v1:Int) (v2:Int) (v3:Int) (v4:Int) (v5:Int) (v6:List dM) (v7:Int) (v8:Int) (v9:Int) (v10:Int) (v11:Int) (v12:List dW) (v13:Int) (v14:Bool) (v15:Bool) (v16:List Int) (v17:List Int):Option ((yaO).X ⊕ ((ydz).X ⊕ (ygM).X)) :=
  bif (ltb v2 v1) then
    let r3:=yje (v4,v5) v0 v2
    bif (inb r3 v16.length) then
      bif (zj4 v17.length ([(nth v16 r3 0)]:List Int).length 8) then
        some (.inl (((v0,()),((),()),((),()),((),()),(v1,()),((IntKind.i64.wrap (v2+1)),()),()),((v3,v4,v5,v6,v7,v8,v9,v10,v11,v12,v13,v14,v15,()),()),(v16,(v17++([(nth v16 r3 0)]:List Int)),())))
      else none
    else none
  else
    some (.inr (.inl ((((),()),()),(),(v17,()))))
def yaV (x:(yaO).X):=yli x.1.1.1 x.1.2.2.2.2.1.1 x.1.2.2.2.2.2.1.1 x.2.1.1.1 x.2.1.1.2.1 x.2.1.1.2.2.1 x.2.1.1.2.2.2.1 x.2.1.1.2.2.2.2.1 x.2.1.1.2.2.2.2.2.1 x.2.1.1.2.2.2.2.2.2.1 x.2.1.1.2.2.2.2.2.2.2.1 x.2.1.1.2.2.2.2.2.2.2.2.1 x.2.1.1.2.2.2.2.2.2.2.2.2.1 x.2.1.1.2.2.2.2.2.2.2.2.2.2.1 x.2.1.1.2.2.2.2.2.2.2.2.2.2.2.1 x.2.1.1.2.2.2.2.2.2.2.2.2.2.2.2.1 x.2.2.1 x.2.2.2.1
def yrL (x:(ydF).X):(yaO).X:=(((x.1.1.1,()),((),()),((),()),((),()),(x.1.2.2.2.2.1.1,()),(0,()),()),((x.2.1.1.1,x.2.1.1.2.1,x.2.1.1.2.2.1,x.2.1.1.2.2.2.1,x.2.1.1.2.2.2.2.1,x.2.1.1.2.2.2.2.2.1,x.2.1.1.2.2.2.2.2.2.1,x.2.1.1.2.2.2.2.2.2.2.1,x.2.1.1.2.2.2.2.2.2.2.2.1,x.2.1.1.2.2.2.2.2.2.2.2.2.1,x.2.1.1.2.2.2.2.2.2.2.2.2.2.1,x.2.1.1.2.2.2.2.2.2.2.2.2.2.2.1,x.2.1.1.2.2.2.2.2.2.2.2.2.2.2.2.1,()),()),(x.2.2.1,x.2.2.2.1,()))
def ysA:Code:=(zdI yiE 64 500).getD .skip
theorem yCB:zdI yiE 64 125=some (.block 0 (.loop ysA)):=by kernel_rfl
theorem yDL (x:(yaO).X):zg7 ⟨ym3,39,yvO⟩ 0 ysA 500 yaO ydz ygM x=yaV x:=by kernel_rfl
def yrV (x:(ydF).X):Nat:=(fun (u0:Int) (u1:Int) (u2:Int) (u3:Int) (u4:Int) (u5:List dM) (u6:Int) (u7:Int) (u8:Int) (u9:Int) (u10:Int) (u11:List dW) (u12:Int) (u13:Bool) (u14:Bool) (u15:List Int) (u16:List Int)=>18446744073709551616) x.1.1.1 x.1.2.2.2.2.1.1 x.2.1.1.1 x.2.1.1.2.1 x.2.1.1.2.2.1 x.2.1.1.2.2.2.1 x.2.1.1.2.2.2.2.1 x.2.1.1.2.2.2.2.2.1 x.2.1.1.2.2.2.2.2.2.1 x.2.1.1.2.2.2.2.2.2.2.1 x.2.1.1.2.2.2.2.2.2.2.2.1 x.2.1.1.2.2.2.2.2.2.2.2.2.1 x.2.1.1.2.2.2.2.2.2.2.2.2.2.1 x.2.1.1.2.2.2.2.2.2.2.2.2.2.2.1 x.2.1.1.2.2.2.2.2.2.2.2.2.2.2.2.1 x.2.2.1 x.2.2.2.1
def ymb (x:(ydF).X):Option ((ydz).X ⊕ (ygM).X):=zr yaV (yrV x) (yrL x)
def ysa:Seg:=⟨ydF,ydz,ygM,ymb⟩
def yvP:Nat→Option Seg:=fun q=>bif Nat.beq q 125 then some ysa else yvO q
theorem yEy:FrOk Tryz.prog ⟨ym3,39,yvP⟩ yiE:=(yEx).loop (sg:=ysa) yaO yrL (by decide) yCB yaV yrV (by decide) (fun _=>rfl) (fun x r _ h=>h) yDL
abbrev ye9:List Par:= [.rd tA,.rd tI]
abbrev ynf:List OT:= [⟨false,tL,(.ow .fz)⟩,⟨false,tB,.fz⟩]
def ykd (a0:dA) (a1:Int):Option (ResD ynf×MutD ye9) :=
  let r1:=yeW a0 a1
  bif (!r1.2) then
    some (([],false,()),())
  else
    zjw (ymb (((a1,()),((),()),((),()),((),()),((IntKind.i64.wrap (a0.2.1.1 - 1)),()),((),()),()),((a0.1,a0.2.1.1,a0.2.1.2,a0.2.2.1,a0.2.2.2.1,a0.2.2.2.2.1,a0.2.2.2.2.2.1,a0.2.2.2.2.2.2.1,a0.2.2.2.2.2.2.2.1,a0.2.2.2.2.2.2.2.2.1,a0.2.2.2.2.2.2.2.2.2.1,a0.2.2.2.2.2.2.2.2.2.2.1,a0.2.2.2.2.2.2.2.2.2.2.2,()),()),(r1.1,([]:List Int),()))) (fun y3 =>
      some ((y3.2.2.1,true,()),())) (fun y3 =>
      none)
theorem yMT (x:InD ye9):zjH ⟨ym3,39,yvP⟩ Tryz.f62.results.toList yiE ye9 ynf x=ykd x.1 x.2.1:=by kernel_rfl
theorem yI5:ConOk Tryz.prog 62 ⟨ye9,ynf,fun x=>ykd x.1 x.2.1⟩:=zkh (yEy) Tryz.func62 (by kernel_rfl) (by kernel_rfl) Tryz.ntmps62.symm (by decide) (fun x r h=>(yMT x).trans h)
def yjd (a0:dA) (a1:Int):List Int×Bool:=yyD a0 a1
theorem yKY (a0:dA) (a1:Int) (hk:zi9 ye9 (a0,a1,())):ykd a0 a1=(fun n=>some ((n.1,n.2,()),())) (yjd a0 a1):=by
  unfold ykd yjd yyD yeW
  cases hc:(yv a0&&(!a0.2.2.2.2.2.2.2.2.2.2.2&&yS a0.2.1 a1))
  · rfl
  simp only [Bool.and_eq_true]at hc
  have hg:=yn.1 (yac hc.1)
  have hs:=hc.2.2
  unfold yru
  simp only [cond_true]
  cases hw:(yH a0 a1).2
  · rfl
  · have hL:=yCk hw
    have h1:ymb (yBX a1 (a0.2.1.1 - 1) a0 (yH a0 a1).1 [])=some (.inl (yr4 ((List.range (a0.2.1.1 - 1).toNat).foldl (fun l (i:Nat)=>l++ [nth (yH a0 a1).1 (ycI a0.2.1 a1 i) 0]) []))) :=
      zks (step:=yaV) (a0.2.1.1 - 1).toNat (fun i s=>yk5 a1 (a0.2.1.1 - 1) i a0 (yH a0 a1).1 s) (fun l (i:Nat)=>l++ [nth (yH a0 a1).1 (ycI a0.2.1 a1 i) 0]) (fun i s=>s.length=i) (fun s=> .inl (yr4 s)) (fun i s hi hs2=>⟨by
        have hd:=yPs hs (show (0:Int)≤i by omega) (show (i:Int)≤a0.2.1.1 - 2 by omega)
        simp only [yaV,yk5,yli,zjI (show (i:Int) < a0.2.1.1 - 1 by omega),cond_true,wr (show -9223372036854775808≤(i:Int)+1 by omega) (by omega),Int.natCast_add,Int.natCast_one,Int.toNat_natCast,zkV,yje,zjP.2 (show 0≤ycI a0.2.1 a1 i∧ycI a0.2.1 a1 i < (yH a0 a1).1.length by omega)]
        rw [zkw.2 (show (s.length+ [nth (yH a0 a1).1 (ycI a0.2.1 a1 i) 0].length) * 8≤140737488355328 by simp only [List.length_cons,List.length_nil]; omega)]; rfl,by simp [hs2]⟩) (fun s hs2=>by simp only [yaV,yk5,yli,zkm (show a0.2.1.1 - 1≤((a0.2.1.1 - 1).toNat:Int) by omega),cond_false]) [] rfl _ (by show _ < 18446744073709551616; omega)
    simp only [wr (show -9223372036854775808≤a0.2.1.1 - 1 by omega) (by omega)]
    rw [h1,yp3]; rfl
def ywI:Con:=⟨ye9,ynf,fun x=>(fun n=>some ((n.1,n.2,()),())) (yjd x.1 x.2.1)⟩
theorem yLY:ConOk Tryz.prog 62 ywI:=(yI5).mono (fun x r hk h=>(yKY x.1 x.2.1 hk).trans h)
end
section
def yzF:Code:=(Tryz.f63.body).getD .skip
def yz6:Env:=zki TT [(83,yhI),(115,yq),(169,ypZ)] []
theorem yEO:FrOk Tryz.prog ⟨yz6,28,fun _=>none⟩ yzF:=zkp ye yf ⟨ynQ,yu,yyT,trivial⟩
def yG1:Nat→Option Seg:=fun _=>none
abbrev yfe:List Par:= [.rd tA,.rd tI]
abbrev ynr:List OT:= [⟨false,tL,(.ow .fz)⟩,⟨false,tB,.fz⟩]
def ykj (a0:dA) (a1:Int):Option (ResD ynr×MutD yfe) :=
  let r1:=yak a0
  bif (!(!r1)) then
    bif (!a0.2.2.2.2.2.2.2.2.2.2.2) then
      let r2:=yb a1 0 (IntKind.i64.wrap (a0.2.1.2 - 1))
      bif (!r2) then
        some ((([]:List Int),false,()),())
      else
        bnd (yjp a0 a1) fun r3 =>
        some ((r3.1.1,r3.1.2.1,()),())
    else
      some ((([]:List Int),false,()),())
  else
    some ((([]:List Int),false,()),())
theorem yM6 (x:InD yfe):zjH ⟨yz6,28,yG1⟩ Tryz.f63.results.toList yzF yfe ynr x=ykj x.1 x.2.1:=by kernel_rfl
theorem yJi:ConOk Tryz.prog 63 ⟨yfe,ynr,fun x=>ykj x.1 x.2.1⟩:=zkh (yEO) Tryz.func63 (by kernel_rfl) (by kernel_rfl) Tryz.ntmps63.symm (by decide) (fun x r h=>(yM6 x).trans h)
def yjj (a0:dA) (a1:Int):List Int×Bool:=yyD a0 a1
theorem yLb (a0:dA) (a1:Int) (hk:zi9 yfe (a0,a1,())):ykj a0 a1=(fun n=>some ((n.1,n.2,()),())) (yjj a0 a1):=by
  unfold ykj yjj yyD yak
  cases ha:yv a0
  · rfl
  have hg:=yn.1 (yac ha)
  rw [yaL,wr (show -9223372036854775808≤a0.2.1.2 - 1 by omega) (by omega)]
  cases a0.2.2.2.2.2.2.2.2.2.2.2
  · cases hs:(leb 0 a1&&leb a1 (a0.2.1.2 - 1))
    · rw [show yS a0.2.1 a1=false by unfold yS; rw [hs,Bool.and_false]]; rfl
    · have hs2:yS a0.2.1 a1=true:=by unfold yS; rw [hs,yac ha]; rfl
      rw [hs2,yyV a0 a1 hs2]; rfl
  · rfl
def ywQ:Con:=⟨yfe,ynr,fun x=>(fun n=>some ((n.1,n.2,()),())) (yjj x.1 x.2.1)⟩
theorem yL6:ConOk Tryz.prog 63 ywQ:=(yJi).mono (fun x r hk h=>(yLb x.1 x.2.1 hk).trans h)
end
section
def yky:Code:=(Tryz.f64.body).getD .skip
def yo0:Env:=zki TT [(165,yj3),(170,yq0)] []
theorem yHZ:FrOk Tryz.prog ⟨yo0,33,fun _=>none⟩ yky:=zkp ye yf ⟨yq5,yAo,trivial⟩
def yxJ:Nat→Option Seg:=fun _=>none
def ybR:Shape:=⟨[(1,false,[.int .i64]),(2,false,[.ptr 0 0]),(6,false,[.at 800000000]),(13,false,[.int .i64]),(14,false,[.int .i64])],[(0,[.int .i64,.int .i64,.int .i64,.br tM,.int .i64,.int .i64,.int .i64,.int .i64,.int .i64,.br tW,.int .i64,.bool,.bool])],[(800000000,tI,.fz)]⟩
def yfV:Shape:=⟨[(1,false,[.int .i64]),(2,false,[.ptr 0 0]),(6,false,[.at 800000000]),(13,false,[.int .i64]),(14,false,[.ci .i64 0])],[(0,[.int .i64,.int .i64,.int .i64,.br tM,.int .i64,.int .i64,.int .i64,.int .i64,.int .i64,.br tW,.int .i64,.bool,.bool])],[(800000000,tI,.fz)]⟩
def yfE:Shape:=⟨[(6,false,[.at 800000000])],[],[(800000000,tI,.fz)]⟩
def ygi:Shape:=⟨[(4,false,[.int .i64]),(5,false,[.bool])],[],[]⟩
abbrev yoe (v0:Int) (v1:Int) (v2:Int) (v3:dA) (v4:List Int):(ybR).X:=(((v0,()),((),()),((),()),(v1,()),(v2,()),()),((v3.1,v3.2.1.1,v3.2.1.2,v3.2.2.1,v3.2.2.2.1,v3.2.2.2.2.1,v3.2.2.2.2.2.1,v3.2.2.2.2.2.2.1,v3.2.2.2.2.2.2.2.1,v3.2.2.2.2.2.2.2.2.1,v3.2.2.2.2.2.2.2.2.2.1,v3.2.2.2.2.2.2.2.2.2.2.1,v3.2.2.2.2.2.2.2.2.2.2.2,()),()),(v4,()))
abbrev yFB (v0:Int) (v1:Int) (v2:dA) (v3:List Int):(yfV).X:=(((v0,()),((),()),((),()),(v1,()),((),()),()),((v2.1,v2.2.1.1,v2.2.1.2,v2.2.2.1,v2.2.2.2.1,v2.2.2.2.2.1,v2.2.2.2.2.2.1,v2.2.2.2.2.2.2.1,v2.2.2.2.2.2.2.2.1,v2.2.2.2.2.2.2.2.2.1,v2.2.2.2.2.2.2.2.2.2.1,v2.2.2.2.2.2.2.2.2.2.2.1,v2.2.2.2.2.2.2.2.2.2.2.2,()),()),(v3,()))
abbrev yu2 (v0:List Int):(yfE).X:=((((),()),()),(),(v0,()))
abbrev yFR (v0:Int) (v1:Bool):(ygi).X:=(((v0,()),(v1,()),()),(),())
def yoy (v0:Int) (v1:Int) (v2:Int) (v3:Int) (v4:Int) (v5:Int) (v6:List dM) (v7:Int) (v8:Int) (v9:Int) (v10:Int) (v11:Int) (v12:List dW) (v13:Int) (v14:Bool) (v15:Bool) (v16:List Int):Option ((ybR).X ⊕ ((yfE).X ⊕ (ygi).X)) :=
  bif (ltb v2 v1) then
    bnd (yfq (v3,(v4,v5),v6,v7,v8,v9,v10,v11,v12,v13,v14,v15) v2 v0) fun r2 =>
    bif (!r2.1.2.1) then
      some (.inr (.inr (((0,()),(false,()),()),(),())))
    else
      bif (zj4 v16.length ([r2.1.1]:List Int).length 8) then
        some (.inl (((v0,()),((),()),((),()),(v1,()),((IntKind.i64.wrap (v2+1)),()),()),((v3,v4,v5,v6,v7,v8,v9,v10,v11,v12,v13,v14,v15,()),()),((v16++([r2.1.1]:List Int)),())))
      else none
  else
    some (.inr (.inl ((((),()),()),(),(v16,()))))
def ych (x:(ybR).X):=yoy x.1.1.1 x.1.2.2.2.1.1 x.1.2.2.2.2.1.1 x.2.1.1.1 x.2.1.1.2.1 x.2.1.1.2.2.1 x.2.1.1.2.2.2.1 x.2.1.1.2.2.2.2.1 x.2.1.1.2.2.2.2.2.1 x.2.1.1.2.2.2.2.2.2.1 x.2.1.1.2.2.2.2.2.2.2.1 x.2.1.1.2.2.2.2.2.2.2.2.1 x.2.1.1.2.2.2.2.2.2.2.2.2.1 x.2.1.1.2.2.2.2.2.2.2.2.2.2.1 x.2.1.1.2.2.2.2.2.2.2.2.2.2.2.1 x.2.1.1.2.2.2.2.2.2.2.2.2.2.2.2.1 x.2.2.1
def yuu (x:(yfV).X):(ybR).X:=(((x.1.1.1,()),((),()),((),()),(x.1.2.2.2.1.1,()),(0,()),()),((x.2.1.1.1,x.2.1.1.2.1,x.2.1.1.2.2.1,x.2.1.1.2.2.2.1,x.2.1.1.2.2.2.2.1,x.2.1.1.2.2.2.2.2.1,x.2.1.1.2.2.2.2.2.2.1,x.2.1.1.2.2.2.2.2.2.2.1,x.2.1.1.2.2.2.2.2.2.2.2.1,x.2.1.1.2.2.2.2.2.2.2.2.2.1,x.2.1.1.2.2.2.2.2.2.2.2.2.2.1,x.2.1.1.2.2.2.2.2.2.2.2.2.2.2.1,x.2.1.1.2.2.2.2.2.2.2.2.2.2.2.2.1,()),()),(x.2.2.1,()))
def ywu:Code:=(zdI yky 64 116).getD .skip
theorem yHk:zdI yky 64 29=some (.block 0 (.loop ywu)):=by kernel_rfl
theorem yJ0 (x:(ybR).X):zg7 ⟨yo0,33,yxJ⟩ 0 ywu 116 ybR yfE ygi x=ych x:=by kernel_rfl
def yuM (x:(yfV).X):Nat:=(fun (u0:Int) (u1:Int) (u2:Int) (u3:Int) (u4:Int) (u5:List dM) (u6:Int) (u7:Int) (u8:Int) (u9:Int) (u10:Int) (u11:List dW) (u12:Int) (u13:Bool) (u14:Bool) (u15:List Int)=>18446744073709551616) x.1.1.1 x.1.2.2.2.1.1 x.2.1.1.1 x.2.1.1.2.1 x.2.1.1.2.2.1 x.2.1.1.2.2.2.1 x.2.1.1.2.2.2.2.1 x.2.1.1.2.2.2.2.2.1 x.2.1.1.2.2.2.2.2.2.1 x.2.1.1.2.2.2.2.2.2.2.1 x.2.1.1.2.2.2.2.2.2.2.2.1 x.2.1.1.2.2.2.2.2.2.2.2.2.1 x.2.1.1.2.2.2.2.2.2.2.2.2.2.1 x.2.1.1.2.2.2.2.2.2.2.2.2.2.2.1 x.2.1.1.2.2.2.2.2.2.2.2.2.2.2.2.1 x.2.2.1
def ypf (x:(yfV).X):Option ((yfE).X ⊕ (ygi).X):=zr ych (yuM x) (yuu x)
def yvn:Seg:=⟨yfV,yfE,ygi,ypf⟩
def yxK:Nat→Option Seg:=fun q=>bif Nat.beq q 29 then some yvn else yxJ q
theorem yH0:FrOk Tryz.prog ⟨yo0,33,yxK⟩ yky:=(yHZ).loop (sg:=yvn) ybR yuu (by decide) yHk ych yuM (by decide) (fun _=>rfl) (fun x r _ h=>h) yJ0
abbrev yhg:List Par:= [.rd tA,.rd tI]
abbrev ypy:List OT:= [⟨false,tI,.fz⟩,⟨false,tB,.fz⟩]
def ylW (a0:dA) (a1:Int):Option (ResD ypy×MutD yhg) :=
  zjw (ypf (((a1,()),((),()),((),()),((a0.2.2.1.length:Int),()),((),()),()),((a0.1,a0.2.1.1,a0.2.1.2,a0.2.2.1,a0.2.2.2.1,a0.2.2.2.2.1,a0.2.2.2.2.2.1,a0.2.2.2.2.2.2.1,a0.2.2.2.2.2.2.2.1,a0.2.2.2.2.2.2.2.2.1,a0.2.2.2.2.2.2.2.2.2.1,a0.2.2.2.2.2.2.2.2.2.2.1,a0.2.2.2.2.2.2.2.2.2.2.2,()),()),(([]:List Int),()))) (fun y2 =>
    let r4:=yeX y2.2.2.1
    some ((r4,true,()),())) (fun y2 =>
    some ((y2.1.1.1,y2.1.2.1.1,()),()))
theorem yOr (x:InD yhg):zjH ⟨yo0,33,yxK⟩ Tryz.f64.results.toList yky yhg ypy x=ylW x.1 x.2.1:=by kernel_rfl
theorem yLy:ConOk Tryz.prog 64 ⟨yhg,ypy,fun x=>ylW x.1 x.2.1⟩:=zkh (yH0) Tryz.func64 (by kernel_rfl) (by kernel_rfl) Tryz.ntmps64.symm (by decide) (fun x r h=>(yOr x).trans h)
def ylb (a0:dA) (a1:Int):Int×Bool:=yzt a0 a1
theorem yNA (a0:dA) (a1:Int) (hk:zi9 yhg (a0,a1,())):ylW a0 a1=(fun n=>some ((n.1,n.2,()),())) (ylb a0 a1):=by
  have hb:a0.2.2.1.length * 80≤2 ^ 47:=hk.1.2.2.1.1
  have h1:ypf (yFB a1 a0.2.2.1.length a0 [])=some (bif ytX a0 a1 then .inl (yu2 ((List.range a0.2.2.1.length).foldl (fun n (i:Nat)=>n++ [yjF a0 i a1]) [])) else .inr (yFR 0 false)) :=
    zhx (step:=ych) a0.2.2.1.length (fun i s=>yoe a1 a0.2.2.1.length i a0 s) (fun (i:Nat)=>ym a0 i a1) (fun n (i:Nat)=>n++ [yjF a0 i a1]) (fun i s=>s.length=i) (fun s=> .inl (yu2 s)) _ (fun i s hi hs=>⟨by
      simp only [ych,yoe,yoy,zjI (show (i:Int) < a0.2.2.1.length by omega),cond_true,wr (show -9223372036854775808≤(i:Int)+1 by omega) (by omega),Int.natCast_add,Int.natCast_one,Int.toNat_natCast,zkV,yrc a0 i a1 (zkO hi),ydx,zky]
      rw [show zj4 s.length ([yjF a0 i a1]:List Int).length 8=true from zkw.2 (by simp only [List.length_cons,List.length_nil]; omega)]
      cases ym a0 i a1<;>rfl,fun _=>by simp [hs]⟩) (fun s _=>by simp only [ych,yoe,yoy,zkm (Int.le_refl _),cond_false]) [] rfl _ (by show _ < 18446744073709551616; omega)
  unfold ylW ylb yzt yeX
  rw [h1,yp3,List.nil_append]
  cases ytX a0 a1<;>rfl
def yyo:Con:=⟨yhg,ypy,fun x=>(fun n=>some ((n.1,n.2,()),())) (ylb x.1 x.2.1)⟩
theorem yNV:ConOk Tryz.prog 64 yyo:=(yLy).mono (fun x r hk h=>(yNA x.1 x.2.1 hk).trans h)
end
section
def ykA:Code:=(Tryz.f65.body).getD .skip
def yo2:Env:=zki TT [(171,yj7)] []
theorem yIc:FrOk Tryz.prog ⟨yo2,30,fun _=>none⟩ ykA:=zkp ye yf ⟨yq9,trivial⟩
def yxP:Nat→Option Seg:=fun _=>none
def ybV:Shape:=⟨[(1,false,[.int .i64]),(2,false,[.ptr 0 0]),(6,false,[.int .i64]),(7,false,[.int .i64])],[(0,[.int .i64,.int .i64,.int .i64,.br tM,.int .i64,.int .i64,.int .i64,.int .i64,.int .i64,.br tW,.int .i64,.bool,.bool])],[]⟩
def yf0:Shape:=⟨[(1,false,[.int .i64]),(2,false,[.ptr 0 0]),(6,false,[.ci .i64 0]),(7,false,[.ci .i64 0])],[(0,[.int .i64,.int .i64,.int .i64,.br tM,.int .i64,.int .i64,.int .i64,.int .i64,.int .i64,.br tW,.int .i64,.bool,.bool])],[]⟩
def yfJ:Shape:=⟨[(6,false,[.int .i64])],[],[]⟩
def ygn:Shape:=⟨[(4,false,[.int .i64]),(5,false,[.bool])],[],[]⟩
abbrev yoi (v0:Int) (v1:Int) (v2:Int) (v3:dA):(ybV).X:=(((v0,()),((),()),(v1,()),(v2,()),()),((v3.1,v3.2.1.1,v3.2.1.2,v3.2.2.1,v3.2.2.2.1,v3.2.2.2.2.1,v3.2.2.2.2.2.1,v3.2.2.2.2.2.2.1,v3.2.2.2.2.2.2.2.1,v3.2.2.2.2.2.2.2.2.1,v3.2.2.2.2.2.2.2.2.2.1,v3.2.2.2.2.2.2.2.2.2.2.1,v3.2.2.2.2.2.2.2.2.2.2.2,()),()),())
abbrev yFF (v0:Int) (v1:dA):(yf0).X:=(((v0,()),((),()),((),()),((),()),()),((v1.1,v1.2.1.1,v1.2.1.2,v1.2.2.1,v1.2.2.2.1,v1.2.2.2.2.1,v1.2.2.2.2.2.1,v1.2.2.2.2.2.2.1,v1.2.2.2.2.2.2.2.1,v1.2.2.2.2.2.2.2.2.1,v1.2.2.2.2.2.2.2.2.2.1,v1.2.2.2.2.2.2.2.2.2.2.1,v1.2.2.2.2.2.2.2.2.2.2.2,()),()),())
abbrev yu4 (v0:Int):(yfJ).X:=(((v0,()),()),(),())
abbrev yFU (v0:Int) (v1:Bool):(ygn).X:=(((v0,()),(v1,()),()),(),())
def yoC (v0:Int) (v1:Int) (v2:Int) (v3:Int) (v4:Int) (v5:Int) (v6:List dM) (v7:Int) (v8:Int) (v9:Int) (v10:Int) (v11:Int) (v12:List dW) (v13:Int) (v14:Bool) (v15:Bool):Option ((ybV).X ⊕ ((yfJ).X ⊕ (ygn).X)) :=
  bif (ltb v2 (v6.length:Int)) then
    let r2:=ya5 (v3,(v4,v5),v6,v7,v8,v9,v10,v11,v12,v13,v14,v15) v2 v0
    bif (!r2.2) then
      some (.inr (.inr (((0,()),(false,()),()),(),())))
    else
      some (.inl (((v0,()),((),()),((IntKind.i64.wrap ((BitVec.ofInt IntKind.i64.bits v1 ^^^ BitVec.ofInt IntKind.i64.bits r2.1).toNat:Int)),()),((IntKind.i64.wrap (v2+1)),()),()),((v3,v4,v5,v6,v7,v8,v9,v10,v11,v12,v13,v14,v15,()),()),()))
  else
    some (.inr (.inl (((v1,()),()),(),())))
def ycl (x:(ybV).X):=yoC x.1.1.1 x.1.2.2.1.1 x.1.2.2.2.1.1 x.2.1.1.1 x.2.1.1.2.1 x.2.1.1.2.2.1 x.2.1.1.2.2.2.1 x.2.1.1.2.2.2.2.1 x.2.1.1.2.2.2.2.2.1 x.2.1.1.2.2.2.2.2.2.1 x.2.1.1.2.2.2.2.2.2.2.1 x.2.1.1.2.2.2.2.2.2.2.2.1 x.2.1.1.2.2.2.2.2.2.2.2.2.1 x.2.1.1.2.2.2.2.2.2.2.2.2.2.1 x.2.1.1.2.2.2.2.2.2.2.2.2.2.2.1 x.2.1.1.2.2.2.2.2.2.2.2.2.2.2.2.1
def yuy (x:(yf0).X):(ybV).X:=(((x.1.1.1,()),((),()),(0,()),(0,()),()),((x.2.1.1.1,x.2.1.1.2.1,x.2.1.1.2.2.1,x.2.1.1.2.2.2.1,x.2.1.1.2.2.2.2.1,x.2.1.1.2.2.2.2.2.1,x.2.1.1.2.2.2.2.2.2.1,x.2.1.1.2.2.2.2.2.2.2.1,x.2.1.1.2.2.2.2.2.2.2.2.1,x.2.1.1.2.2.2.2.2.2.2.2.2.1,x.2.1.1.2.2.2.2.2.2.2.2.2.2.1,x.2.1.1.2.2.2.2.2.2.2.2.2.2.2.1,x.2.1.1.2.2.2.2.2.2.2.2.2.2.2.2.1,()),()),())
def ywy:Code:=(zdI ykA 64 116).getD .skip
theorem yHo:zdI ykA 64 29=some (.block 0 (.loop ywy)):=by kernel_rfl
theorem yJ4 (x:(ybV).X):zg7 ⟨yo2,30,yxP⟩ 0 ywy 116 ybV yfJ ygn x=ycl x:=by kernel_rfl
def yuQ (x:(yf0).X):Nat:=(fun (u0:Int) (u1:Int) (u2:Int) (u3:Int) (u4:List dM) (u5:Int) (u6:Int) (u7:Int) (u8:Int) (u9:Int) (u10:List dW) (u11:Int) (u12:Bool) (u13:Bool)=>18446744073709551616) x.1.1.1 x.2.1.1.1 x.2.1.1.2.1 x.2.1.1.2.2.1 x.2.1.1.2.2.2.1 x.2.1.1.2.2.2.2.1 x.2.1.1.2.2.2.2.2.1 x.2.1.1.2.2.2.2.2.2.1 x.2.1.1.2.2.2.2.2.2.2.1 x.2.1.1.2.2.2.2.2.2.2.2.1 x.2.1.1.2.2.2.2.2.2.2.2.2.1 x.2.1.1.2.2.2.2.2.2.2.2.2.2.1 x.2.1.1.2.2.2.2.2.2.2.2.2.2.2.1 x.2.1.1.2.2.2.2.2.2.2.2.2.2.2.2.1
def ypj (x:(yf0).X):Option ((yfJ).X ⊕ (ygn).X):=zr ycl (yuQ x) (yuy x)
def yvr:Seg:=⟨yf0,yfJ,ygn,ypj⟩
def yxQ:Nat→Option Seg:=fun q=>bif Nat.beq q 29 then some yvr else yxP q
theorem yId:FrOk Tryz.prog ⟨yo2,30,yxQ⟩ ykA:=(yIc).loop (sg:=yvr) ybV yuy (by decide) yHo ycl yuQ (by decide) (fun _=>rfl) (fun x r _ h=>h) yJ4
abbrev yho:List Par:= [.rd tA,.rd tI]
abbrev ypG:List OT:= [⟨false,tI,.fz⟩,⟨false,tB,.fz⟩]
def yl1 (a0:dA) (a1:Int):Option (ResD ypG×MutD yho) :=
  zjw (ypj (((a1,()),((),()),((),()),((),()),()),((a0.1,a0.2.1.1,a0.2.1.2,a0.2.2.1,a0.2.2.2.1,a0.2.2.2.2.1,a0.2.2.2.2.2.1,a0.2.2.2.2.2.2.1,a0.2.2.2.2.2.2.2.1,a0.2.2.2.2.2.2.2.2.1,a0.2.2.2.2.2.2.2.2.2.1,a0.2.2.2.2.2.2.2.2.2.2.1,a0.2.2.2.2.2.2.2.2.2.2.2,()),()),())) (fun y2 =>
    some ((y2.1.1.1,true,()),())) (fun y2 =>
    some ((y2.1.1.1,y2.1.2.1.1,()),()))
theorem yOz (x:InD yho):zjH ⟨yo2,30,yxQ⟩ Tryz.f65.results.toList ykA yho ypG x=yl1 x.1 x.2.1:=by kernel_rfl
theorem yLG:ConOk Tryz.prog 65 ⟨yho,ypG,fun x=>yl1 x.1 x.2.1⟩:=zkh (yId) Tryz.func65 (by kernel_rfl) (by kernel_rfl) Tryz.ntmps65.symm (by decide) (fun x r h=>(yOz x).trans h)
def yle (a0:dA) (a1:Int):Int×Bool:=yzt a0 a1
theorem yNI (a0:dA) (a1:Int) (hk:zi9 yho (a0,a1,())):yl1 a0 a1=(fun n=>some ((n.1,n.2,()),())) (yle a0 a1):=by
  have hb:a0.2.2.1.length * 80≤2 ^ 47:=hk.1.2.2.1.1
  have h1:ypj (yFF a1 a0)=some (bif ytX a0 a1 then .inl (yu4 ((List.range a0.2.2.1.length).foldl (fun n (i:Nat)=>xw n (yjF a0 i a1)) 0)) else .inr (yFU 0 false)) :=
    zhx (step:=ycl) a0.2.2.1.length (fun i s=>yoi a1 s i a0) (fun (i:Nat)=>ym a0 i a1) (fun n (i:Nat)=>xw n (yjF a0 i a1)) (fun _ _=>True) (fun s=> .inl (yu4 s)) _ (fun i s hi _=>⟨by
      simp only [ycl,yoi,yoC,zjI (show (i:Int) < a0.2.2.1.length by omega),cond_true,wr (show -9223372036854775808≤(i:Int)+1 by omega) (by omega),Int.natCast_add,Int.natCast_one,Int.toNat_natCast,zkV,ya5]
      cases ym a0 i a1<;>rfl,fun _=>trivial⟩) (fun s _=>by simp only [ycl,yoi,yoC,zkm (Int.le_refl _),cond_false]) 0 trivial _ (by show _ < 18446744073709551616; omega)
  unfold yl1 yle yzt yiD
  rw [h1,List.foldl_map]
  cases ytX a0 a1<;>rfl
def yyr:Con:=⟨yho,ypG,fun x=>(fun n=>some ((n.1,n.2,()),())) (yle x.1 x.2.1)⟩
theorem yNY:ConOk Tryz.prog 65 yyr:=(yLG).mono (fun x r hk h=>(yNI x.1 x.2.1 hk).trans h)
end
section
def yft:Code:=(Tryz.f66.body).getD .skip
def yjG:Env:=zki TT [] []
theorem yBE:FrOk Tryz.prog ⟨yjG,26,fun _=>none⟩ yft:=zkp ye yf trivial
def yst:Nat→Option Seg:=fun _=>none
def ybn:Shape:=⟨[(0,false,[.br tI]),(1,false,[.br tI]),(5,false,[.int .i64])],[],[]⟩
def yfX:Shape:=⟨[(0,false,[.br tI]),(1,false,[.br tI]),(5,false,[.ci .i64 0])],[],[]⟩
def yfG:Shape:=⟨[],[],[]⟩
def ygj:Shape:=⟨[(4,false,[.bool])],[],[]⟩
def yjD (v0:List Int) (v1:List Int) (v2:Int):Option ((ybn).X ⊕ ((yfG).X ⊕ (ygj).X)) :=
  bif (ltb v2 (v0.length:Int)) then
    bif (inb v2 v0.length) then
      bif (inb v2 v1.length) then
        bif ((nth v0 v2 0) !=(nth v1 v2 0)) then
          some (.inr (.inr (((false,()),()),(),())))
        else
          some (.inl (((v0,()),(v1,()),((IntKind.i64.wrap (v2+1)),()),()),(),()))
      else none
    else none
  else
    some (.inr (.inl ((),(),())))
def yaM (x:(ybn).X):=yjD x.1.1.1 x.1.2.1.1 x.1.2.2.1.1
def yqG (x:(yfX).X):(ybn).X:=(((x.1.1.1,()),(x.1.2.1.1,()),(0,()),()),(),())
def yrE:Code:=(zdI yft 64 116).getD .skip
theorem yBo:zdI yft 64 29=some (.block 0 (.loop yrE)):=by kernel_rfl
theorem yCg (x:(ybn).X):zg7 ⟨yjG,26,yst⟩ 0 yrE 116 ybn yfG ygj x=yaM x:=by kernel_rfl
def yqJ (x:(yfX).X):Nat:=(fun (u0:List Int) (u1:List Int)=>18446744073709551616) x.1.1.1 x.1.2.1.1
def ykJ (x:(yfX).X):Option ((yfG).X ⊕ (ygj).X):=zr yaM (yqJ x) (yqG x)
def yqN:Seg:=⟨yfX,yfG,ygj,ykJ⟩
def ysu:Nat→Option Seg:=fun q=>bif Nat.beq q 29 then some yqN else yst q
theorem yBF:FrOk Tryz.prog ⟨yjG,26,ysu⟩ yft:=(yBE).loop (sg:=yqN) ybn yqG (by decide) yBo yaM yqJ (by decide) (fun _=>rfl) (fun x r _ h=>h) yCg
abbrev ydf:List Par:= [.rd tL,.rd tL]
abbrev yjN:List OT:= [⟨false,tB,.fz⟩]
def ygV (a0:List Int) (a1:List Int):Option (ResD yjN×MutD ydf) :=
  bif ((a0.length:Int) !=(a1.length:Int)) then
    some ((false,()),())
  else
    zjw (ykJ (((a0,()),(a1,()),((),()),()),(),())) (fun y0 =>
      some ((true,()),())) (fun y0 =>
      some ((y0.1.1.1,()),()))
theorem yHD (x:InD ydf):zjH ⟨yjG,26,ysu⟩ Tryz.f66.results.toList yft ydf yjN x=ygV x.1 x.2.1:=by kernel_rfl
theorem yDz:ConOk Tryz.prog 66 ⟨ydf,yjN,fun x=>ygV x.1 x.2.1⟩:=zkh (yBF) Tryz.func66 (by kernel_rfl) (by kernel_rfl) Tryz.ntmps66.symm (by decide) (fun x r h=>(yHD x).trans h)
def yb5 (a0 a1:List Int):Bool:=decide (a0=a1)
theorem yF0 (a0 a1:List Int) (hk:zi9 ydf (a0,a1,())):ygV a0 a1=(fun n=>some ((n,()),())) (yb5 a0 a1):=by
  have hb:a0.length * 8≤2 ^ 47:=hk.1.1
  have hl:a0.length=a1.length→ykJ (((a0,()),(a1,()),((),()),()),(),())=some (bif (List.range a0.length).any (fun i=>a0.getD i 0 !=a1.getD i 0) then .inr (((false,()),()),(),()) else .inl ((),(),())):=fun hL =>
    zf4 (step:=yaM) (fun i=>(((a0,()),(a1,()),((i:Int),()),()),(),())) a0.length (fun i=>a0.getD i 0 !=a1.getD i 0) _ _ (fun i hi=>by
      simp only [yaM,yjD,zkO hi,zkO (hL ▸ hi),zjW,zjI (show (i:Int) < a0.length by omega),cond_true,wr (show -9223372036854775808≤(i:Int)+1 by omega) (by omega),Int.natCast_add,Int.natCast_one]
      cases (a0.getD i 0 !=a1.getD i 0)<;>rfl) (by simp only [yaM,yjD,zkm (Int.le_refl _),cond_false]) _ (by show _ < 18446744073709551616; omega)
  unfold ygV yb5
  by_cases h:a0.length=a1.length
  · rw [show ((a0.length:Int) !=(a1.length:Int))=false by simp [h],zkX,hl h]
    by_cases e:a0=a1
    · subst e
      have:(List.range a0.length).any (fun i=>a0.getD i 0 !=a0.getD i 0)=false:=by simp
      rw [this,decide_eq_true rfl]
      rfl
    · have:(List.range a0.length).any (fun i=>a0.getD i 0 !=a1.getD i 0)=true:=by
        rcases Bool.eq_false_or_eq_true ((List.range a0.length).any (fun i=>a0.getD i 0 !=a1.getD i 0)) with h2 | h2
        · exact h2
        · refine absurd (List.ext_getElem h fun i h3 h4=> ?_) e
          rw [List.any_eq_false]at h2
          have:=h2 i (List.mem_range.2 h3)
          simpa [h3,h4] using this
      rw [this,decide_eq_false e]
      rfl
  · rw [show ((a0.length:Int) !=(a1.length:Int))=true from bne_iff_ne.2 (by omega),zkY,decide_eq_false (fun e=>h (congrArg _ e))]
theorem yOd (a:List Int):yb5 a a=true:=by unfold yb5; simp
def ysK:Con:=⟨ydf,yjN,fun x=>(fun n=>some ((n,()),())) (yb5 x.1 x.2.1)⟩
theorem yGt:ConOk Tryz.prog 66 ysK:=(yDz).mono (fun x r hk h=>(yF0 x.1 x.2.1 hk).trans h)
end
section
def yiF:Code:=(Tryz.f67.body).getD .skip
def ym4:Env:=zki TT [(78,yqW),(117,ybt),(165,yj3)] []
theorem yEB:FrOk Tryz.prog ⟨ym4,41,fun _=>none⟩ yiF:=zkp ye yf ⟨yAk,ydQ,yq5,trivial⟩
def yvQ:Nat→Option Seg:=fun _=>none
def ya6:Shape:=⟨[(1,false,[.int .i64]),(2,false,[.ptr 0 0]),(5,false,[.int .i64]),(24,false,[.int .i64]),(25,false,[.int .i64])],[(0,[.int .i64,.int .i64,.int .i64,.br tM,.int .i64,.int .i64,.int .i64,.int .i64,.int .i64,.br tW,.int .i64,.bool,.bool])],[]⟩
def yeC:Shape:=⟨[(1,false,[.int .i64]),(2,false,[.ptr 0 0]),(5,false,[.ci .i64 0]),(24,false,[.int .i64]),(25,false,[.ci .i64 0])],[(0,[.int .i64,.int .i64,.int .i64,.br tM,.int .i64,.int .i64,.int .i64,.int .i64,.int .i64,.br tW,.int .i64,.bool,.bool])],[]⟩
def yep:Shape:=⟨[(5,false,[.int .i64])],[],[]⟩
def yh7:Shape:=⟨[],[],[]⟩
abbrev ymp (v0:Int) (v1:Int) (v2:Int) (v3:Int) (v4:dA):(ya6).X:=(((v0,()),((),()),(v1,()),(v2,()),(v3,()),()),((v4.1,v4.2.1.1,v4.2.1.2,v4.2.2.1,v4.2.2.2.1,v4.2.2.2.2.1,v4.2.2.2.2.2.1,v4.2.2.2.2.2.2.1,v4.2.2.2.2.2.2.2.1,v4.2.2.2.2.2.2.2.2.1,v4.2.2.2.2.2.2.2.2.2.1,v4.2.2.2.2.2.2.2.2.2.2.1,v4.2.2.2.2.2.2.2.2.2.2.2,()),()),())
abbrev yDg (v0:Int) (v1:Int) (v2:dA):(yeC).X:=(((v0,()),((),()),((),()),(v1,()),((),()),()),((v2.1,v2.2.1.1,v2.2.1.2,v2.2.2.1,v2.2.2.2.1,v2.2.2.2.2.1,v2.2.2.2.2.2.1,v2.2.2.2.2.2.2.1,v2.2.2.2.2.2.2.2.1,v2.2.2.2.2.2.2.2.2.1,v2.2.2.2.2.2.2.2.2.2.1,v2.2.2.2.2.2.2.2.2.2.2.1,v2.2.2.2.2.2.2.2.2.2.2.2,()),()),())
abbrev yC8 (v0:Int):(yep).X:=(((v0,()),()),(),())
def ymC (v0:Int) (v1:Int) (v2:Int) (v3:Int) (v4:Int) (v5:Int) (v6:Int) (v7:List dM) (v8:Int) (v9:Int) (v10:Int) (v11:Int) (v12:Int) (v13:List dW) (v14:Int) (v15:Bool) (v16:Bool):Option ((ya6).X ⊕ ((yep).X ⊕ (yh7).X)) :=
  bif (ltb v3 v2) then
    bnd (yfq (v4,(v5,v6),v7,v8,v9,v10,v11,v12,v13,v14,v15,v16) v3 v0) fun r4 =>
    bif (!r4.1.2.1) then
      some (.inl (((v0,()),((),()),((IntKind.i64.wrap (v1+1)),()),(v2,()),((IntKind.i64.wrap (v3+1)),()),()),((v4,v5,v6,v7,v8,v9,v10,v11,v12,v13,v14,v15,v16,()),()),()))
    else
      some (.inl (((v0,()),((),()),(v1,()),(v2,()),((IntKind.i64.wrap (v3+1)),()),()),((v4,v5,v6,v7,v8,v9,v10,v11,v12,v13,v14,v15,v16,()),()),()))
  else
    some (.inr (.inl (((v1,()),()),(),())))
def ybA (x:(ya6).X):=ymC x.1.1.1 x.1.2.2.1.1 x.1.2.2.2.1.1 x.1.2.2.2.2.1.1 x.2.1.1.1 x.2.1.1.2.1 x.2.1.1.2.2.1 x.2.1.1.2.2.2.1 x.2.1.1.2.2.2.2.1 x.2.1.1.2.2.2.2.2.1 x.2.1.1.2.2.2.2.2.2.1 x.2.1.1.2.2.2.2.2.2.2.1 x.2.1.1.2.2.2.2.2.2.2.2.1 x.2.1.1.2.2.2.2.2.2.2.2.2.1 x.2.1.1.2.2.2.2.2.2.2.2.2.2.1 x.2.1.1.2.2.2.2.2.2.2.2.2.2.2.1 x.2.1.1.2.2.2.2.2.2.2.2.2.2.2.2.1
def ysO (x:(yeC).X):(ya6).X:=(((x.1.1.1,()),((),()),(0,()),(x.1.2.2.2.1.1,()),(0,()),()),((x.2.1.1.1,x.2.1.1.2.1,x.2.1.1.2.2.1,x.2.1.1.2.2.2.1,x.2.1.1.2.2.2.2.1,x.2.1.1.2.2.2.2.2.1,x.2.1.1.2.2.2.2.2.2.1,x.2.1.1.2.2.2.2.2.2.2.1,x.2.1.1.2.2.2.2.2.2.2.2.1,x.2.1.1.2.2.2.2.2.2.2.2.2.1,x.2.1.1.2.2.2.2.2.2.2.2.2.2.1,x.2.1.1.2.2.2.2.2.2.2.2.2.2.2.1,x.2.1.1.2.2.2.2.2.2.2.2.2.2.2.2.1,()),()),())
def yt1:Code:=(zdI yiF 64 244).getD .skip
theorem yEc:zdI yiF 64 61=some (.block 0 (.loop yt1)):=by kernel_rfl
theorem yGz (x:(ya6).X):zg7 ⟨ym4,41,yvQ⟩ 0 yt1 244 ya6 yep yh7 x=ybA x:=by kernel_rfl
def ys1 (x:(yeC).X):Nat:=(fun (u0:Int) (u1:Int) (u2:Int) (u3:Int) (u4:Int) (u5:List dM) (u6:Int) (u7:Int) (u8:Int) (u9:Int) (u10:Int) (u11:List dW) (u12:Int) (u13:Bool) (u14:Bool)=>18446744073709551616) x.1.1.1 x.1.2.2.2.1.1 x.2.1.1.1 x.2.1.1.2.1 x.2.1.1.2.2.1 x.2.1.1.2.2.2.1 x.2.1.1.2.2.2.2.1 x.2.1.1.2.2.2.2.2.1 x.2.1.1.2.2.2.2.2.2.1 x.2.1.1.2.2.2.2.2.2.2.1 x.2.1.1.2.2.2.2.2.2.2.2.1 x.2.1.1.2.2.2.2.2.2.2.2.2.1 x.2.1.1.2.2.2.2.2.2.2.2.2.2.1 x.2.1.1.2.2.2.2.2.2.2.2.2.2.2.1 x.2.1.1.2.2.2.2.2.2.2.2.2.2.2.2.1
def ynT (x:(yeC).X):Option ((yep).X ⊕ (yh7).X):=zr ybA (ys1 x) (ysO x)
def ytj:Seg:=⟨yeC,yep,yh7,ynT⟩
def yvR:Nat→Option Seg:=fun q=>bif Nat.beq q 61 then some ytj else yvQ q
theorem yEC:FrOk Tryz.prog ⟨ym4,41,yvR⟩ yiF:=(yEB).loop (sg:=ytj) ya6 ysO (by decide) yEc ybA ys1 (by decide) (fun _=>rfl) (fun x r _ h=>h) yGz
abbrev yfc:List Par:= [.rd tA,.rd tI]
abbrev yni:List OT:= [⟨false,tI,.fz⟩]
def ykg (a0:dA) (a1:Int):Option (ResD yni×MutD yfc) :=
  let r1:=yeU a0
  bif (!(!r1)) then
    let r2:=yN a0.2.1 a1
    bif (!r2) then
      some ((a0.2.1.1,()),())
    else
      zjw (ynT (((a1,()),((),()),((),()),((a0.2.2.1.length:Int),()),((),()),()),((a0.1,a0.2.1.1,a0.2.1.2,a0.2.2.1,a0.2.2.2.1,a0.2.2.2.2.1,a0.2.2.2.2.2.1,a0.2.2.2.2.2.2.1,a0.2.2.2.2.2.2.2.1,a0.2.2.2.2.2.2.2.2.1,a0.2.2.2.2.2.2.2.2.2.1,a0.2.2.2.2.2.2.2.2.2.2.1,a0.2.2.2.2.2.2.2.2.2.2.2,()),()),())) (fun y4 =>
        some ((y4.1.1.1,()),())) (fun y4 =>
        none)
  else
    some ((a0.2.1.1,()),())
theorem yMW (x:InD yfc):zjH ⟨ym4,41,yvR⟩ Tryz.f67.results.toList yiF yfc yni x=ykg x.1 x.2.1:=by kernel_rfl
theorem yI8:ConOk Tryz.prog 67 ⟨yfc,yni,fun x=>ykg x.1 x.2.1⟩:=zkh (yEC) Tryz.func67 (by kernel_rfl) (by kernel_rfl) Tryz.ntmps67.symm (by decide) (fun x r h=>(yMW x).trans h)
def yjg (a0:dA) (a1:Int):Int:=yIH a0 a1
theorem yK1 (a0:dA) (a1:Int) (hk:zi9 yfc (a0,a1,())):ykg a0 a1=(fun n=>some ((n,()),())) (yjg a0 a1):=by
  unfold ykg yjg yIH yeU
  cases ha:yv a0
  · rfl
  have hg:=yn.1 (yac ha)
  have hl:=yrD ha
  have h1:ynT (yDg a1 a0.2.2.1.length a0)=some (.inl (yC8 ((ylK (fun (i:Nat)=>ym a0 i a1) a0.2.1.1.toNat:Nat):Int))) :=
    zjs (step:=ybA) (fun i=>ymp a1 ((ylK (fun (i:Nat)=>ym a0 i a1) i:Nat):Int) a0.2.2.1.length i a0) a0.2.1.1.toNat _ (fun i hi=>by
      have:=yOV (fun (i:Nat)=>ym a0 i a1) i
      simp only [ybA,ymp,ymC,zjI (show (i:Int) < a0.2.2.1.length by omega),cond_true,wr (show -9223372036854775808≤(i:Int)+1 by omega) (by omega),Int.natCast_add,Int.natCast_one,Int.toNat_natCast,zkV,yrc a0 i a1 (zkO (show i < a0.2.2.1.length by omega)),ydx,zky,yIF,wr (show -9223372036854775808≤((ylK (fun (i:Nat)=>ym a0 i a1) i:Nat):Int)+1 by omega) (by omega)]
      cases ym a0 i a1<;>rfl) (by simp only [ybA,ymp,ymC,zkm (show (a0.2.2.1.length:Int)≤(a0.2.1.1.toNat:Int) by omega),cond_false]) _ (by show _ < 18446744073709551616; omega)
  rw [h1]
  unfold yN
  simp only [yIC,yac ha,yat,yaL,wr (show -9223372036854775808≤a0.2.1.2 - 1 by omega) (by omega)]
  cases (leb 0 a1&&leb a1 (a0.2.1.2 - 1))<;>rfl
def ywL:Con:=⟨yfc,yni,fun x=>(fun n=>some ((n,()),())) (yjg x.1 x.2.1)⟩
theorem yL1:ConOk Tryz.prog 67 ywL:=(yI8).mono (fun x r hk h=>(yK1 x.1 x.2.1 hk).trans h)
end
end
end Go.Tf
