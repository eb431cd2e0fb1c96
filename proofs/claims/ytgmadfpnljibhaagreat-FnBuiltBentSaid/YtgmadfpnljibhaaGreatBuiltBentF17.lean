/- Functions of the program, and what they come to. -/
import Derived.Test.YtgmadfpnljibhaaGreatBuiltBentF16
namespace Go.Tf
noncomputable section
open Go.Proofs
set_option synthInstance.maxHeartbeats 400000
set_option synthInstance.maxSize 10000
set_option linter.unusedVariables false
set_option linter.unusedSimpArgs false
set_option maxRecDepth 100000
section
def yE3:Code:=(Tryz.f128.body).getD .skip
def yFH:Env:=zki TT [] []
theorem yMb:FrOk Tryz.prog ⟨yFH,23,fun _=>none⟩ yE3:=zkp yc yd trivial
def yNT:Nat→Option Seg:=fun _=>none
abbrev ykC:List Par:= [.rd tA,.rd tI]
abbrev yql:List OT:= [⟨false,tS,(.pr .fz (.pr .fz (.pr .fz (.pr .fz (.pr .fz (.pr .fz (.pr .fz .fz)))))))⟩]
def ytz (a0:dA) (a1:Int):Option (ResD yql×MutD ykC) :=
  some (((a0.1,a0.2.2.2.2.2.2.2.1,a1,a0.2.1.1,a0.2.1.2,a0.2.2.2.2.2.2.1,a0.2.2.2.1,a0.2.2.2.2.1),()),())
theorem yU9 (x:InD ykC):zjH ⟨yFH,23,yNT⟩ Tryz.f128.results.toList yE3 ykC yql x=ytz x.1 x.2.1:=by kernel_rfl
theorem yQj:ConOk Tryz.prog 128 ⟨ykC,yql,fun x=>ytz x.1 x.2.1⟩:=zkh (yMb) Tryz.func128 (by kernel_rfl) (by kernel_rfl) Tryz.ntmps128.symm (by decide) (fun x r h=>(yU9 x).trans h)
def yqB (a0:dA) (a1:Int):dS :=
  (a0.1,a0.2.2.2.2.2.2.2.1,a1,a0.2.1.1,a0.2.1.2,a0.2.2.2.2.2.2.1,a0.2.2.2.1,a0.2.2.2.2.1)
def yBJ:Con:=⟨ykC,yql,fun x=>(fun n=>some ((n,()),())) (yqB x.1 x.2.1)⟩
theorem yTh (a0:dA) (a1:Int):ytz a0 a1=(fun n=>some ((n,()),())) (yqB a0 a1):=zkS (p:=fun (n:dS)=>((n,()),())) rfl
theorem yUa:ConOk Tryz.prog 128 yBJ:=(yQj).mono (fun x r _ h=>(yTh x.1 x.2.1).trans h)
end
section
def yE1:Code:=(Tryz.f218.body).getD .skip
def yFF:Env:=zki TT [(122,yqx),(126,yJ),(131,yu8)] []
theorem yL2:FrOk Tryz.prog ⟨yFF,44,fun _=>none⟩ yE1:=zkp yc yd ⟨yyV,yaa,yGq,trivial⟩
def yNR:Nat→Option Seg:=fun _=>none
abbrev yky:List Par:= [.rd tS]
abbrev yqh:List OT:= [⟨false,tB,.fz⟩]
def ytx (a0:dS):Option (ResD yqh×MutD yky) :=
  let r1:=yh a0.1 1 60000
  bif r1 then
    let r2:=yh a0.2.1 0 60000
    bif r2 then
      let r3:=yh a0.2.2.2.2.2.1 0 60000
      bif r3 then
        let r4:=yeZ (a0.2.2.2.1,a0.2.2.2.2.1)
        bif r4 then
          let r5:=yh a0.2.2.1 0 (IntKind.i64.wrap (a0.2.2.2.1 - 1))
          bif r5 then
            let r6:=yfE (a0.2.2.2.1,a0.2.2.2.2.1) a0.2.2.2.2.2.2.1 a0.2.2.2.2.2.2.2
            some ((r6,()),())
          else
            some ((false,()),())
        else
          some ((false,()),())
      else
        some ((false,()),())
    else
      some ((false,()),())
  else
    some ((false,()),())
theorem yU4 (x:InD yky):zjH ⟨yFF,44,yNR⟩ Tryz.f218.results.toList yE1 yky yqh x=ytx x.1:=by kernel_rfl
theorem yQe:ConOk Tryz.prog 218 ⟨yky,yqh,fun x=>ytx x.1⟩:=zkh (yL2) Tryz.func218 (by kernel_rfl) (by kernel_rfl) Tryz.ntmps218.symm (by decide) (fun x r h=>(yU4 x).trans h)
def ygB (a0:dS):Bool :=
  let r1:=yh a0.1 1 60000
  bif r1 then
    let r2:=yh a0.2.1 0 60000
    bif r2 then
      let r3:=yh a0.2.2.2.2.2.1 0 60000
      bif r3 then
        let r4:=yeZ (a0.2.2.2.1,a0.2.2.2.2.1)
        bif r4 then
          let r5:=yh a0.2.2.1 0 (IntKind.i64.wrap (a0.2.2.2.1 - 1))
          bif r5 then
            let r6:=yfE (a0.2.2.2.1,a0.2.2.2.2.1) a0.2.2.2.2.2.2.1 a0.2.2.2.2.2.2.2
            r6
          else
            false
        else
          false
      else
        false
    else
      false
  else
    false
def yBH:Con:=⟨yky,yqh,fun x=>(fun n=>some ((n,()),())) (ygB x.1)⟩
theorem yTc (a0:dS):ytx a0=(fun n=>some ((n,()),())) (ygB a0):=zkS (p:=fun (n:Bool)=>((n,()),())) (zkx (p:=fun (n:Bool)=>((n,()),())) (zkx (p:=fun (n:Bool)=>((n,()),())) (zkx (p:=fun (n:Bool)=>((n,()),())) (zkx (p:=fun (n:Bool)=>((n,()),())) (zkx (p:=fun (n:Bool)=>((n,()),())) rfl rfl) rfl) rfl) rfl) rfl)
theorem yT8:ConOk Tryz.prog 218 yBH:=(yQe).mono (fun x r _ h=>(yTc x.1).trans h)
theorem yYa (s:dS):ygB s=yaH s:=by
  rw [Bool.eq_iff_iff,y0d]
  unfold ygB yfE
  simp only [yS0,yaw]
  cases hg:yf (s.2.2.2.1,s.2.2.2.2.1)
  · cases ya s.1 1 60000<;>cases ya s.2.1 0 60000<;>cases ya s.2.2.2.2.2.1 0 60000<;>simp
  have hg2:=yk.1 hg
  simp only at hg2
  rw [wr (show -9223372036854775808≤s.2.2.2.1 - 1 by omega) (by omega)]
  simp only [← yrV]
  cases ya s.1 1 60000
  · simp
  cases ya s.2.1 0 60000
  · simp
  cases ya s.2.2.2.2.2.1 0 60000
  · simp
  cases ya s.2.2.1 0 (s.2.2.2.1 - 1)
  · simp
  cases hl:ya s.2.2.2.2.2.2.1 (-1) (s.2.2.2.1 - 1)
  · simp
  cases ya s.2.2.2.2.2.2.2 0 s.2.2.2.2.1
  · simp
  have:=yrV.1 hl
  by_cases h0:s.2.2.2.2.2.2.2=0
  · simp [h0]
  · simp [h0]; omega
end
section
def yC9:Code:=(Tryz.f201.body).getD .skip
def yDG:Env:=zki TT [(218,yBH)] []
theorem yKg:FrOk Tryz.prog ⟨yDG,24,fun _=>none⟩ yC9:=zkp yc yd ⟨yT8,trivial⟩
def yLA:Nat→Option Seg:=fun _=>none
abbrev yin:List Par:= [.rd tS]
abbrev ynT:List OT:= [⟨false,tL,(.ow .fz)⟩]
def yrx (a0:dS):Option (ResD ynT×MutD yin) :=
  let r1:=ygB a0
  bif (!r1) then
    some (([],()),())
  else
    some ((([21317,a0.1,a0.2.1,a0.2.2.1,a0.2.2.2.1,a0.2.2.2.2.1,a0.2.2.2.2.2.1,(IntKind.i64.wrap (a0.2.2.2.2.2.2.1+1)),a0.2.2.2.2.2.2.2]:List Int),()),())
theorem yRV (x:InD yin):zjH ⟨yDG,24,yLA⟩ Tryz.f201.results.toList yC9 yin ynT x=yrx x.1:=by kernel_rfl
theorem yM6:ConOk Tryz.prog 201 ⟨yin,ynT,fun x=>yrx x.1⟩:=zkh (yKg) Tryz.func201 (by kernel_rfl) (by kernel_rfl) Tryz.ntmps201.symm (by decide) (fun x r h=>(yRV x).trans h)
def yjo (a0:dS):(List Int) :=
  let r1:=ygB a0
  bif (!r1) then
    []
  else
    ([21317,a0.1,a0.2.1,a0.2.2.1,a0.2.2.2.1,a0.2.2.2.2.1,a0.2.2.2.2.2.1,(IntKind.i64.wrap (a0.2.2.2.2.2.2.1+1)),a0.2.2.2.2.2.2.2]:List Int)
def yzJ:Con:=⟨yin,ynT,fun x=>(fun n=>some ((n,()),())) (yjo x.1)⟩
theorem yPX (a0:dS):yrx a0=(fun n=>some ((n,()),())) (yjo a0):=zkS (p:=fun (n:(List Int))=>((n,()),())) (zkx (p:=fun (n:(List Int))=>((n,()),())) rfl rfl)
theorem yQD:ConOk Tryz.prog 201 yzJ:=(yM6).mono (fun x r _ h=>(yPX x.1).trans h)
theorem yZ4 (s:dS):yjo s=yK s:=by
  unfold yjo yK
  rw [yYa]
end
section
def yid:Code:=(Tryz.f130.body).getD .skip
def ynI:Env:=zki TT [(133,yk6),(200,ydu),(219,ylR)] []
theorem yKe:FrOk Tryz.prog ⟨ynI,34,fun _=>none⟩ yid:=zkp yc yd ⟨ysM,yhF,yvz,trivial⟩
def yze:Nat→Option Seg:=fun _=>none
def ya9:Shape:=⟨[(2,false,[.ptr 64 0]),(3,false,[.ptr 4224 0]),(17,false,[.br tW]),(18,false,[.int .i64]),(19,false,[.int .i64])],[(64,[.nil,.nil,.bool,.nil]),(4224,[.at 800000000,.at 800000001,.bool,.at 800000002])],[(800000000,tL,(.ow .fz)),(800000001,tW,(.pr .fz (.ow .fz))),(800000002,tI,.fz)]⟩
def yeQ:Shape:=⟨[(2,false,[.ptr 64 0]),(3,false,[.ptr 4224 0]),(17,false,[.br tW]),(18,false,[.int .i64]),(19,false,[.ci .i64 0])],[(64,[.nil,.nil,.bool,.nil]),(4224,[.at 800000000,.at 800000001,.bool,.at 800000002])],[(800000000,tL,(.ow .fz)),(800000001,tW,(.pr .fz (.ow .fz))),(800000002,tI,.fz)]⟩
def yeH:Shape:=⟨[(2,false,[.ptr 64 0]),(3,false,[.ptr 4224 0])],[(64,[.nil,.nil,.bool,.nil]),(4224,[.at 800000000,.at 800000001,.bool,.at 800000002])],[(800000000,tL,(.ow .fz)),(800000001,tW,(.pr .fz (.ow .fz))),(800000002,tI,.fz)]⟩
def yi6:Shape:=⟨[],[],[]⟩
abbrev ynm (v0:List dW) (v1:Int) (v2:Int) (v3:dM) (v4:dM):(ya9).X:=((((),()),((),()),(v0,()),(v1,()),(v2,()),()),(((),(),v3.2.2.1,(),()),((),(),v4.2.2.1,(),()),()),(v4.1,v4.2.1,v4.2.2.2,()))
abbrev yIH (v0:List dW) (v1:Int) (v2:dM) (v3:dM):(yeQ).X:=((((),()),((),()),(v0,()),(v1,()),((),()),()),(((),(),v2.2.2.1,(),()),((),(),v3.2.2.1,(),()),()),(v3.1,v3.2.1,v3.2.2.2,()))
abbrev ywt (v0:dM) (v1:dM):(yeH).X:=((((),()),((),()),()),(((),(),v0.2.2.1,(),()),((),(),v1.2.2.1,(),()),()),(v1.1,v1.2.1,v1.2.2.2,()))
def yny (v0:List dW) (v1:Int) (v2:Int) (v3:Bool) (v4:Bool) (v5:List (List Int)) (v6:List dW) (v7:List Int):Option ((ya9).X ⊕ ((yeH).X ⊕ (yi6).X)) :=
  bif (ltb v2 v1) then
    bif (inb v2 v0.length) then
      let r4:=yr ((nth v0 v2 (0,[])).2)
      bif (inb ((nth v0 v2 (0,[])).1) v5.length) then
        some (.inl ((((),()),((),()),(v0,()),(v1,()),((IntKind.i64.wrap (v2+1)),()),()),(((),(),v3,(),()),((),(),v4,(),()),()),((v5.set ((nth v0 v2 (0,[])).1).toNat r4),v6,v7,())))
      else none
    else none
  else
    some (.inr (.inl ((((),()),((),()),()),(((),(),v3,(),()),((),(),v4,(),()),()),(v5,v6,v7,()))))
def ybq (x:(ya9).X):=yny x.1.2.2.1.1 x.1.2.2.2.1.1 x.1.2.2.2.2.1.1 x.2.1.1.2.2.1 x.2.1.2.1.2.2.1 x.2.2.1 x.2.2.2.1 x.2.2.2.2.1
def ywb (x:(yeQ).X):(ya9).X:=((((),()),((),()),(x.1.2.2.1.1,()),(x.1.2.2.2.1.1,()),(0,()),()),(((),(),x.2.1.1.2.2.1,(),()),((),(),x.2.1.2.1.2.2.1,(),()),()),(x.2.2.1,x.2.2.2.1,x.2.2.2.2.1,()))
def yxJ:Code:=(zdI yid 64 244).getD .skip
theorem yJO:zdI yid 64 61=some (.block 0 (.loop yxJ)):=by kernel_rfl
theorem yLj (x:(ya9).X):zg7 ⟨ynI,34,yze⟩ 0 yxJ 244 ya9 yeH yi6 x=ybq x:=by kernel_rfl
def ywl (x:(yeQ).X):Nat:=(fun (u0:List dW) (u1:Int) (u2:Bool) (u3:Bool) (u4:List (List Int)) (u5:List dW) (u6:List Int)=>18446744073709551616) x.1.2.2.1.1 x.1.2.2.2.1.1 x.2.1.1.2.2.1 x.2.1.2.1.2.2.1 x.2.2.1 x.2.2.2.1 x.2.2.2.2.1
def yo0 (x:(yeQ).X):Option ((yeH).X ⊕ (yi6).X):=zr ybq (ywl x) (ywb x)
def ywA:Seg:=⟨yeQ,yeH,yi6,yo0⟩
def yzf:Nat→Option Seg:=fun q=>bif Nat.beq q 61 then some ywA else yze q
theorem yKf:FrOk Tryz.prog ⟨ynI,34,yzf⟩ yid:=(yKe).loop (sg:=ywA) ya9 ywb (by decide) yJO ybq ywl (by decide) (fun _=>rfl) (fun x r _ h=>h) yLj
abbrev yfb:List Par:= [.rd tM]
abbrev ynS:List OT:= [⟨false,tM,(.pr (.ow (.ow .fz)) (.pr (.ow (.pr .fz (.ow .fz))) (.pr .fz (.ow .fz))))⟩]
def yj5 (a0:dM):Option (ResD ynS×MutD yfb) :=
  let r1:=ybm a0
  let r2:=ybh a0
  bif (!(!r2)) then
    bif a0.2.2.1 then
      some ((r1,()),())
    else
      zjw (yo0 ((((),()),((),()),(a0.2.1,()),((a0.2.1.length:Int),()),((),()),()),(((),(),false,(),()),((),(),r1.2.2.1,(),()),()),(r1.1,r1.2.1,r1.2.2.2,()))) (fun y4 =>
        some (((y4.2.2.1,[],y4.2.1.2.1.2.2.1,y4.2.2.2.2.1),()),())) (fun y4 =>
        none)
  else
    some ((r1,()),())
theorem yRU (x:InD yfb):zjH ⟨ynI,34,yzf⟩ Tryz.f130.results.toList yid yfb ynS x=yj5 x.1:=by kernel_rfl
theorem yM5:ConOk Tryz.prog 130 ⟨yfb,ynS,fun x=>yj5 x.1⟩:=zkh (yKf) Tryz.func130 (by kernel_rfl) (by kernel_rfl) Tryz.ntmps130.symm (by decide) (fun x r h=>(yRU x).trans h)
def yjn (a0:dM):dM:=yeo a0
theorem yPW (a0:dM) (hk:zi9 yfb (a0,())):yj5 a0=(fun n=>some ((n,()),())) (yjn a0):=by
  have hb2:a0.2.1.length * 32≤2 ^ 47:=hk.1.2.1.1
  unfold yj5 yjn yeo
  simp only [ybm,ybh]
  cases hm:yp a0
  · rfl
  have h1:yo0 (yIH a0.2.1 a0.2.1.length ye a0)=some (.inl (ywt ye (yep (fun _=>true) a0.2.1 a0.1,a0.2))) :=
    zks (step:=ybq) a0.2.1.length (fun i s=>ynm a0.2.1 a0.2.1.length i ye (s,a0.2)) (yf9 (fun _=>true) a0.2.1) (fun i s=>s.length=a0.1.length) (fun s=> .inl (ywt ye (s,a0.2))) (fun i s hi hs=>by
      have hw:=(yZI hm hi).1
      refine ⟨?_,yGO.trans hs⟩
      simp only [ybq,ynm,yny,zjI (show (i:Int) < a0.2.1.length by omega),cond_true,wr (show -9223372036854775808≤(i:Int)+1 by omega) (by omega),Int.natCast_add,Int.natCast_one,Int.toNat_natCast,zkO hi,hs,hw,yf9,yr]) (fun s hs=>by simp only [ybq,ynm,yny,zkm (Int.le_refl _),cond_false]) a0.1 rfl _ (by show _ < 18446744073709551616; omega)
  rw [h1]
  cases hf:a0.2.2.1
  · exact congrArg (fun z=>some (((yep (fun _=>true) a0.2.1 a0.1,([]:List dW),z,a0.2.2.2),()),())) hf
  · rfl
def yzI:Con:=⟨yfb,ynS,fun x=>(fun n=>some ((n,()),())) (yjn x.1)⟩
theorem yQC:ConOk Tryz.prog 130 yzI:=(yM5).mono (fun x r hk h=>(yPW x.1 hk).trans h)
end
section
def yib:Code:=(Tryz.f202.body).getD .skip
def ynG:Env:=zki TT [(130,yzI),(205,yu4)] []
theorem yKa:FrOk Tryz.prog ⟨ynG,38,fun _=>none⟩ yib:=zkp yc yd ⟨yQC,yGn,trivial⟩
def yza:Nat→Option Seg:=fun _=>none
def ya7:Shape:=⟨[(0,false,[.ptr 1000000000 0]),(8,false,[.int .i64]),(9,false,[.int .i64])],[(1000000000,[.int .i64,.int .i64,.int .i64,.at 800000000,.int .i64,.int .i64,.int .i64,.int .i64,.int .i64,.at 800000001,.int .i64,.bool,.bool])],[(800000000,tM,(.pr (.ow (.ow .fz)) (.pr (.ow (.pr .fz (.ow .fz))) (.pr .fz (.ow .fz))))),(800000001,tW,(.pr .fz (.ow .fz)))]⟩
def yeO:Shape:=⟨[(0,false,[.ptr 1000000000 0]),(8,false,[.int .i64]),(9,false,[.ci .i64 0])],[(1000000000,[.int .i64,.int .i64,.int .i64,.at 800000000,.int .i64,.int .i64,.int .i64,.int .i64,.int .i64,.at 800000001,.int .i64,.bool,.bool])],[(800000000,tM,(.pr (.ow (.ow .fz)) (.pr (.ow (.pr .fz (.ow .fz))) (.pr .fz (.ow .fz))))),(800000001,tW,(.pr .fz (.ow .fz)))]⟩
def yeF:Shape:=⟨[],[(1000000000,[.int .i64,.int .i64,.int .i64,.at 800000000,.int .i64,.int .i64,.int .i64,.int .i64,.int .i64,.at 800000001,.int .i64,.bool,.bool])],[(800000000,tM,(.pr (.ow (.ow .fz)) (.pr (.ow (.pr .fz (.ow .fz))) (.pr .fz (.ow .fz))))),(800000001,tW,(.pr .fz (.ow .fz)))]⟩
def yeX:Shape:=⟨[(2,false,[.bool])],[(1000000000,[.int .i64,.int .i64,.int .i64,.at 800000000,.int .i64,.int .i64,.int .i64,.int .i64,.int .i64,.at 800000001,.int .i64,.bool,.bool])],[(800000000,tM,(.pr (.ow (.ow .fz)) (.pr (.ow (.pr .fz (.ow .fz))) (.pr .fz (.ow .fz))))),(800000001,tW,(.pr .fz (.ow .fz)))]⟩
abbrev yhM (v0:Int) (v1:Int) (v2:dA):(ya7).X:=((((),()),(v0,()),(v1,()),()),((v2.1,v2.2.1.1,v2.2.1.2,(),v2.2.2.2.1,v2.2.2.2.2.1,v2.2.2.2.2.2.1,v2.2.2.2.2.2.2.1,v2.2.2.2.2.2.2.2.1,(),v2.2.2.2.2.2.2.2.2.2.1,v2.2.2.2.2.2.2.2.2.2.2.1,v2.2.2.2.2.2.2.2.2.2.2.2,()),()),(v2.2.2.1,v2.2.2.2.2.2.2.2.2.1,()))
abbrev yIG (v0:Int) (v1:dA):(yeO).X:=((((),()),(v0,()),((),()),()),((v1.1,v1.2.1.1,v1.2.1.2,(),v1.2.2.2.1,v1.2.2.2.2.1,v1.2.2.2.2.2.1,v1.2.2.2.2.2.2.1,v1.2.2.2.2.2.2.2.1,(),v1.2.2.2.2.2.2.2.2.2.1,v1.2.2.2.2.2.2.2.2.2.2.1,v1.2.2.2.2.2.2.2.2.2.2.2,()),()),(v1.2.2.1,v1.2.2.2.2.2.2.2.2.1,()))
abbrev ynr (v0:dA):(yeF).X:=((),((v0.1,v0.2.1.1,v0.2.1.2,(),v0.2.2.2.1,v0.2.2.2.2.1,v0.2.2.2.2.2.1,v0.2.2.2.2.2.2.1,v0.2.2.2.2.2.2.2.1,(),v0.2.2.2.2.2.2.2.2.2.1,v0.2.2.2.2.2.2.2.2.2.2.1,v0.2.2.2.2.2.2.2.2.2.2.2,()),()),(v0.2.2.1,v0.2.2.2.2.2.2.2.2.1,()))
abbrev ynt (v0:Bool) (v1:dA):(yeX).X:=(((v0,()),()),((v1.1,v1.2.1.1,v1.2.1.2,(),v1.2.2.2.1,v1.2.2.2.2.1,v1.2.2.2.2.2.1,v1.2.2.2.2.2.2.1,v1.2.2.2.2.2.2.2.1,(),v1.2.2.2.2.2.2.2.2.2.1,v1.2.2.2.2.2.2.2.2.2.2.1,v1.2.2.2.2.2.2.2.2.2.2.2,()),()),(v1.2.2.1,v1.2.2.2.2.2.2.2.2.1,()))
def ynx (v0:Int) (v1:Int) (v2:Int) (v3:Int) (v4:Int) (v5:Int) (v6:Int) (v7:Int) (v8:Int) (v9:Int) (v10:Int) (v11:Bool) (v12:Bool) (v13:List dM) (v14:List dW):Option ((ya7).X ⊕ ((yeF).X ⊕ (yeX).X)) :=
  bif (ltb v1 v0) then
    bif (inb v1 v13.length) then
      bif (((nth v13 v1 ([],[],false,[])).2).2).1 then
        some (.inl ((((),()),(v0,()),((IntKind.i64.wrap (v1+1)),()),()),((v2,v3,v4,(),v5,v6,v7,v8,v9,(),v10,v11,v12,()),()),(v13,v14,())))
      else
        let r3:=yh8 (v2,(v3,v4),v13,v5,v6,v7,v8,v9,v14,v10,v11,v12)
        bif (!r3.1) then
          some (.inr (.inr (((false,()),()),((r3.2.1,r3.2.2.1.1,r3.2.2.1.2,(),r3.2.2.2.2.1,r3.2.2.2.2.2.1,r3.2.2.2.2.2.2.1,r3.2.2.2.2.2.2.2.1,r3.2.2.2.2.2.2.2.2.1,(),r3.2.2.2.2.2.2.2.2.2.2.1,r3.2.2.2.2.2.2.2.2.2.2.2.1,r3.2.2.2.2.2.2.2.2.2.2.2.2,()),()),(r3.2.2.2.1,r3.2.2.2.2.2.2.2.2.2.1,()))))
        else
          bif (inb v1 r3.2.2.2.1.length) then
            let r4:=yjn ((nth r3.2.2.2.1 v1 ([],[],false,[])).1,((nth r3.2.2.2.1 v1 ([],[],false,[])).2).1,(((nth r3.2.2.2.1 v1 ([],[],false,[])).2).2))
            bif (inb v1 r3.2.2.2.1.length) then
              some (.inl ((((),()),(v0,()),((IntKind.i64.wrap (v1+1)),()),()),((r3.2.1,r3.2.2.1.1,r3.2.2.1.2,(),r3.2.2.2.2.1,r3.2.2.2.2.2.1,r3.2.2.2.2.2.2.1,r3.2.2.2.2.2.2.2.1,r3.2.2.2.2.2.2.2.2.1,(),r3.2.2.2.2.2.2.2.2.2.2.1,r3.2.2.2.2.2.2.2.2.2.2.2.1,r3.2.2.2.2.2.2.2.2.2.2.2.2,()),()),((r3.2.2.2.1.set (v1).toNat r4),r3.2.2.2.2.2.2.2.2.2.1,())))
            else none
          else none
    else none
  else
    some (.inr (.inl ((),((v2,v3,v4,(),v5,v6,v7,v8,v9,(),v10,v11,v12,()),()),(v13,v14,()))))
def ybp (x:(ya7).X):=ynx x.1.2.1.1 x.1.2.2.1.1 x.2.1.1.1 x.2.1.1.2.1 x.2.1.1.2.2.1 x.2.1.1.2.2.2.2.1 x.2.1.1.2.2.2.2.2.1 x.2.1.1.2.2.2.2.2.2.1 x.2.1.1.2.2.2.2.2.2.2.1 x.2.1.1.2.2.2.2.2.2.2.2.1 x.2.1.1.2.2.2.2.2.2.2.2.2.2.1 x.2.1.1.2.2.2.2.2.2.2.2.2.2.2.1 x.2.1.1.2.2.2.2.2.2.2.2.2.2.2.2.1 x.2.2.1 x.2.2.2.1
def yv9 (x:(yeO).X):(ya7).X:=((((),()),(x.1.2.1.1,()),(0,()),()),((x.2.1.1.1,x.2.1.1.2.1,x.2.1.1.2.2.1,(),x.2.1.1.2.2.2.2.1,x.2.1.1.2.2.2.2.2.1,x.2.1.1.2.2.2.2.2.2.1,x.2.1.1.2.2.2.2.2.2.2.1,x.2.1.1.2.2.2.2.2.2.2.2.1,(),x.2.1.1.2.2.2.2.2.2.2.2.2.2.1,x.2.1.1.2.2.2.2.2.2.2.2.2.2.2.1,x.2.1.1.2.2.2.2.2.2.2.2.2.2.2.2.1,()),()),(x.2.2.1,x.2.2.2.1,()))
def yxH:Code:=(zdI yib 64 52).getD .skip
theorem yJM:zdI yib 64 13=some (.block 0 (.loop yxH)):=by kernel_rfl
theorem yLh (x:(ya7).X):zg7 ⟨ynG,38,yza⟩ 0 yxH 52 ya7 yeF yeX x=ybp x:=by kernel_rfl
def ywj (x:(yeO).X):Nat:=(fun (u0:Int) (u1:Int) (u2:Int) (u3:Int) (u4:Int) (u5:Int) (u6:Int) (u7:Int) (u8:Int) (u9:Int) (u10:Bool) (u11:Bool) (u12:List dM) (u13:List dW)=>18446744073709551616) x.1.2.1.1 x.2.1.1.1 x.2.1.1.2.1 x.2.1.1.2.2.1 x.2.1.1.2.2.2.2.1 x.2.1.1.2.2.2.2.2.1 x.2.1.1.2.2.2.2.2.2.1 x.2.1.1.2.2.2.2.2.2.2.1 x.2.1.1.2.2.2.2.2.2.2.2.1 x.2.1.1.2.2.2.2.2.2.2.2.2.2.1 x.2.1.1.2.2.2.2.2.2.2.2.2.2.2.1 x.2.1.1.2.2.2.2.2.2.2.2.2.2.2.2.1 x.2.2.1 x.2.2.2.1
def yoZ (x:(yeO).X):Option ((yeF).X ⊕ (yeX).X):=zr ybp (ywj x) (yv9 x)
def ywy:Seg:=⟨yeO,yeF,yeX,yoZ⟩
def yzb:Nat→Option Seg:=fun q=>bif Nat.beq q 13 then some ywy else yza q
theorem yKb:FrOk Tryz.prog ⟨ynG,38,yzb⟩ yib:=(yKa).loop (sg:=ywy) ya7 yv9 (by decide) yJM ybp ywj (by decide) (fun _=>rfl) (fun x r _ h=>h) yLh
abbrev ycY:List Par:= [.pt tA (.pr .fz (.pr (.pr .fz .fz) (.pr (.ow (.pr (.ow (.ow .fz)) (.pr (.ow (.pr .fz (.ow .fz))) (.pr .fz (.ow .fz))))) (.pr .fz (.pr .fz (.pr .fz (.pr .fz (.pr .fz (.pr (.ow (.pr .fz (.ow .fz))) (.pr .fz (.pr .fz .fz)))))))))))]
abbrev yiX:List OT:= [⟨false,tB,.fz⟩]
def yj3 (a0:dA):Option (ResD yiX×MutD ycY) :=
  zjw (yoZ ((((),()),((a0.2.2.1.length:Int),()),((),()),()),((a0.1,a0.2.1.1,a0.2.1.2,(),a0.2.2.2.1,a0.2.2.2.2.1,a0.2.2.2.2.2.1,a0.2.2.2.2.2.2.1,a0.2.2.2.2.2.2.2.1,(),a0.2.2.2.2.2.2.2.2.2.1,a0.2.2.2.2.2.2.2.2.2.2.1,a0.2.2.2.2.2.2.2.2.2.2.2,()),()),(a0.2.2.1,a0.2.2.2.2.2.2.2.2.1,()))) (fun y4 =>
    some ((true,()),((y4.2.1.1.1,(y4.2.1.1.2.1,y4.2.1.1.2.2.1),y4.2.2.1,y4.2.1.1.2.2.2.2.1,y4.2.1.1.2.2.2.2.2.1,y4.2.1.1.2.2.2.2.2.2.1,y4.2.1.1.2.2.2.2.2.2.2.1,y4.2.1.1.2.2.2.2.2.2.2.2.1,y4.2.2.2.1,y4.2.1.1.2.2.2.2.2.2.2.2.2.2.1,y4.2.1.1.2.2.2.2.2.2.2.2.2.2.2.1,y4.2.1.1.2.2.2.2.2.2.2.2.2.2.2.2.1),()))) (fun y4 =>
    some ((y4.1.1.1,()),((y4.2.1.1.1,(y4.2.1.1.2.1,y4.2.1.1.2.2.1),y4.2.2.1,y4.2.1.1.2.2.2.2.1,y4.2.1.1.2.2.2.2.2.1,y4.2.1.1.2.2.2.2.2.2.1,y4.2.1.1.2.2.2.2.2.2.2.1,y4.2.1.1.2.2.2.2.2.2.2.2.1,y4.2.2.2.1,y4.2.1.1.2.2.2.2.2.2.2.2.2.2.1,y4.2.1.1.2.2.2.2.2.2.2.2.2.2.2.1,y4.2.1.1.2.2.2.2.2.2.2.2.2.2.2.2.1),())))
theorem yRS (x:InD ycY):zjH ⟨ynG,38,yzb⟩ Tryz.f202.results.toList yib ycY yiX x=yj3 x.1:=by kernel_rfl
theorem yM3:ConOk Tryz.prog 202 ⟨ycY,yiX,fun x=>yj3 x.1⟩:=zkh (yKb) Tryz.func202 (by kernel_rfl) (by kernel_rfl) Tryz.ntmps202.symm (by decide) (fun x r h=>(yRS x).trans h)
def yjl (a0:dA):Bool×dA:=(!(yg (yC a0)),yC a0)
def yjw (a0:dA):Bool:= !(yg a0)
theorem yPU (a0:dA) (hk:zi9 ycY (a0,())) (hq:yjw a0=true):yj3 a0=(fun n=>some ((n.1,()),(n.2,()))) (yjl a0):=by
  have hb:a0.2.2.1.length * 80≤2 ^ 47:=hk.1.2.2.1.1
  have h1:yoZ (yIG a0.2.2.1.length a0)=some (bif yg (yC a0) then .inr (ynt false (yC a0)) else .inl (ynr (yC a0))):=by
    have:=zkr (step:=ybp) a0.2.2.1.length (fun i s=>yhM a0.2.2.1.length i s) (fun i s=>bif yg (yF s i) then (.inr (yF s i):dA ⊕ dA) else .inl (yF s i)) (fun _ s=>s.2.2.1.length=a0.2.2.1.length∧yg s=false) id
      (fun b=>bif yg b then .inr (ynt false b) else .inl (ynr b)) (fun i s hi hs=>by
        constructor
        · rw [yZT hs.2]
          simp only [ybp,yhM,ynx,hs.1,zjI (show (i:Int) < a0.2.2.1.length by omega),cond_true,wr (show -9223372036854775808≤(i:Int)+1 by omega) (by omega),Int.natCast_add,Int.natCast_one,Int.toNat_natCast,zkO hi,zkV,yS1 hs.2,yaI,yjn]
          cases hf:(nth s.2.2.1 i ye).2.2.1
          · cases ho:(opA s).1
            · have e:yF s i=(opA s).2:=by unfold yF; rw [hf,ho]; rfl
              have d:yg (opA s).2=true:=by rw [yWT hs.2,ho]; rfl
              rw [e]
              simp only [Bool.not_false,Bool.and_self,cond_true,cond_false,d,yaI,ynt]
            · have e:yF s i=ync (opA s).2 i (yeo (nth s.2.2.1 i ye)):=by unfold yF; rw [hf,ho]; rfl
              rw [e]
              simp only [Bool.not_true,Bool.not_false,Bool.and_false,cond_true,cond_false,yhM,ync,yaI,Int.toNat_natCast]
          · have e:yF s i=s:=by unfold yF; rw [hf]; rfl
            rw [e]; rfl
        · intro s' h
          cases hd:yg (yF s i)
          · rw [hd]at h
            cases h
            exact ⟨(ynf s i).trans hs.1,hd⟩
          · rw [hd]at h; cases h) (fun s hs=>by simp only [ybp,yhM,ynx,hs.2,zkm (Int.le_refl _),cond_false,id,ynr]) a0 ⟨rfl,by simpa [yjw] using hq⟩ 18446744073709551616 (by omega)
    rw [yPm (fun a i h=>yLq i h),← List.range_eq_range'] at this
    exact this
  unfold yj3 yjl
  rw [h1]
  cases hd:yg (yC a0)<;>rfl
def yjv (a0:dA):Option (ResD yiX×MutD ycY):=bif yjw a0 then (fun n=>some ((n.1,()),(n.2,()))) (yjl a0) else none
theorem yCG (a0:dA) (h:yjw a0=true):yjv a0=(fun n=>some ((n.1,()),(n.2,()))) (yjl a0):=by unfold yjv; rw [h]; rfl
def yre:Con:=⟨ycY,yiX,fun x=>yjv x.1⟩
theorem yCx:ConOk Tryz.prog 202 yre:=(yM3).mono (fun x r hk h=>zkW h (fun hq=>yPU x.1 hk hq))
end
section
def yia:Code:=(Tryz.f101.body).getD .skip
def ynF:Env:=zki TT [(107,ypr),(128,yBJ),(201,yzJ),(202,yre)] []
theorem yJ8:FrOk Tryz.prog ⟨ynF,37,fun _=>none⟩ yia:=zkp yc yd ⟨yAk,yUa,yQD,yCx,trivial⟩
def yy8:Nat→Option Seg:=fun _=>none
def ya6:Shape:=⟨[(0,false,[.ptr 1000000000 0]),(15,false,[.int .i64]),(16,false,[.int .i64])],[(1000000000,[.int .i64,.int .i64,.int .i64,.at 800000000,.int .i64,.int .i64,.int .i64,.int .i64,.int .i64,.at 800000001,.int .i64,.bool,.bool])],[(800000000,tM,(.pr (.ow (.ow .fz)) (.pr (.ow (.pr .fz (.ow .fz))) (.pr .fz (.ow .fz))))),(800000001,tW,(.pr .fz (.ow .fz)))]⟩
def yeN:Shape:=⟨[(0,false,[.ptr 1000000000 0]),(15,false,[.int .i64]),(16,false,[.ci .i64 0])],[(1000000000,[.int .i64,.int .i64,.int .i64,.at 800000000,.int .i64,.int .i64,.int .i64,.int .i64,.int .i64,.at 800000001,.int .i64,.bool,.bool])],[(800000000,tM,(.pr (.ow (.ow .fz)) (.pr (.ow (.pr .fz (.ow .fz))) (.pr .fz (.ow .fz))))),(800000001,tW,(.pr .fz (.ow .fz)))]⟩
def yeE:Shape:=⟨[(0,false,[.ptr 1000000000 0])],[(1000000000,[.int .i64,.int .i64,.int .i64,.at 800000000,.int .i64,.int .i64,.int .i64,.int .i64,.int .i64,.at 800000001,.int .i64,.bool,.bool])],[(800000000,tM,(.pr (.ow (.ow .fz)) (.pr (.ow (.pr .fz (.ow .fz))) (.pr .fz (.ow .fz))))),(800000001,tW,(.pr .fz (.ow .fz)))]⟩
def yeW:Shape:=⟨[(2,false,[.bool])],[(1000000000,[.int .i64,.int .i64,.int .i64,.at 800000000,.int .i64,.int .i64,.int .i64,.int .i64,.int .i64,.at 800000001,.int .i64,.bool,.bool])],[(800000000,tM,(.pr (.ow (.ow .fz)) (.pr (.ow (.pr .fz (.ow .fz))) (.pr .fz (.ow .fz))))),(800000001,tW,(.pr .fz (.ow .fz)))]⟩
abbrev ynl (v0:Int) (v1:Int) (v2:dA):(ya6).X:=((((),()),(v0,()),(v1,()),()),((v2.1,v2.2.1.1,v2.2.1.2,(),v2.2.2.2.1,v2.2.2.2.2.1,v2.2.2.2.2.2.1,v2.2.2.2.2.2.2.1,v2.2.2.2.2.2.2.2.1,(),v2.2.2.2.2.2.2.2.2.2.1,v2.2.2.2.2.2.2.2.2.2.2.1,v2.2.2.2.2.2.2.2.2.2.2.2,()),()),(v2.2.2.1,v2.2.2.2.2.2.2.2.2.1,()))
abbrev yIF (v0:Int) (v1:dA):(yeN).X:=((((),()),(v0,()),((),()),()),((v1.1,v1.2.1.1,v1.2.1.2,(),v1.2.2.2.1,v1.2.2.2.2.1,v1.2.2.2.2.2.1,v1.2.2.2.2.2.2.1,v1.2.2.2.2.2.2.2.1,(),v1.2.2.2.2.2.2.2.2.2.1,v1.2.2.2.2.2.2.2.2.2.2.1,v1.2.2.2.2.2.2.2.2.2.2.2,()),()),(v1.2.2.1,v1.2.2.2.2.2.2.2.2.1,()))
abbrev ynq (v0:dA):(yeE).X:=((((),()),()),((v0.1,v0.2.1.1,v0.2.1.2,(),v0.2.2.2.1,v0.2.2.2.2.1,v0.2.2.2.2.2.1,v0.2.2.2.2.2.2.1,v0.2.2.2.2.2.2.2.1,(),v0.2.2.2.2.2.2.2.2.2.1,v0.2.2.2.2.2.2.2.2.2.2.1,v0.2.2.2.2.2.2.2.2.2.2.2,()),()),(v0.2.2.1,v0.2.2.2.2.2.2.2.2.1,()))
abbrev yns (v0:Bool) (v1:dA):(yeW).X:=(((v0,()),()),((v1.1,v1.2.1.1,v1.2.1.2,(),v1.2.2.2.1,v1.2.2.2.2.1,v1.2.2.2.2.2.1,v1.2.2.2.2.2.2.1,v1.2.2.2.2.2.2.2.1,(),v1.2.2.2.2.2.2.2.2.2.1,v1.2.2.2.2.2.2.2.2.2.2.1,v1.2.2.2.2.2.2.2.2.2.2.2,()),()),(v1.2.2.1,v1.2.2.2.2.2.2.2.2.1,()))
def ynw (v0:Int) (v1:Int) (v2:Int) (v3:Int) (v4:Int) (v5:Int) (v6:Int) (v7:Int) (v8:Int) (v9:Int) (v10:Int) (v11:Bool) (v12:Bool) (v13:List dM) (v14:List dW):Option ((ya6).X ⊕ ((yeE).X ⊕ (yeW).X)) :=
  bif (ltb v1 v0) then
    let r4:=yqB (v2,(v3,v4),v13,v5,v6,v7,v8,v9,v14,v10,v11,v12) v1
    let r5:=yjo r4
    bnd (yhE (v2,(v3,v4),v13,v5,v6,v7,v8,v9,v14,v10,v11,v12) v1 (v9.tmod 2) r5) fun r6 =>
    bif (!r6.1.1) then
      some (.inr (.inr (((false,()),()),((r6.2.1.1,r6.2.1.2.1.1,r6.2.1.2.1.2,(),r6.2.1.2.2.2.1,r6.2.1.2.2.2.2.1,r6.2.1.2.2.2.2.2.1,r6.2.1.2.2.2.2.2.2.1,r6.2.1.2.2.2.2.2.2.2.1,(),r6.2.1.2.2.2.2.2.2.2.2.2.1,r6.2.1.2.2.2.2.2.2.2.2.2.2.1,r6.2.1.2.2.2.2.2.2.2.2.2.2.2,()),()),(r6.2.1.2.2.1,r6.2.1.2.2.2.2.2.2.2.2.1,()))))
    else
      some (.inl ((((),()),(v0,()),((IntKind.i64.wrap (v1+1)),()),()),((r6.2.1.1,r6.2.1.2.1.1,r6.2.1.2.1.2,(),r6.2.1.2.2.2.1,r6.2.1.2.2.2.2.1,r6.2.1.2.2.2.2.2.1,r6.2.1.2.2.2.2.2.2.1,r6.2.1.2.2.2.2.2.2.2.1,(),r6.2.1.2.2.2.2.2.2.2.2.2.1,r6.2.1.2.2.2.2.2.2.2.2.2.2.1,r6.2.1.2.2.2.2.2.2.2.2.2.2.2,()),()),(r6.2.1.2.2.1,r6.2.1.2.2.2.2.2.2.2.2.1,())))
  else
    some (.inr (.inl ((((),()),()),((v2,v3,v4,(),v5,v6,v7,v8,v9,(),v10,v11,v12,()),()),(v13,v14,()))))
def ybo (x:(ya6).X):=ynw x.1.2.1.1 x.1.2.2.1.1 x.2.1.1.1 x.2.1.1.2.1 x.2.1.1.2.2.1 x.2.1.1.2.2.2.2.1 x.2.1.1.2.2.2.2.2.1 x.2.1.1.2.2.2.2.2.2.1 x.2.1.1.2.2.2.2.2.2.2.1 x.2.1.1.2.2.2.2.2.2.2.2.1 x.2.1.1.2.2.2.2.2.2.2.2.2.2.1 x.2.1.1.2.2.2.2.2.2.2.2.2.2.2.1 x.2.1.1.2.2.2.2.2.2.2.2.2.2.2.2.1 x.2.2.1 x.2.2.2.1
def yv8 (x:(yeN).X):(ya6).X:=((((),()),(x.1.2.1.1,()),(0,()),()),((x.2.1.1.1,x.2.1.1.2.1,x.2.1.1.2.2.1,(),x.2.1.1.2.2.2.2.1,x.2.1.1.2.2.2.2.2.1,x.2.1.1.2.2.2.2.2.2.1,x.2.1.1.2.2.2.2.2.2.2.1,x.2.1.1.2.2.2.2.2.2.2.2.1,(),x.2.1.1.2.2.2.2.2.2.2.2.2.2.1,x.2.1.1.2.2.2.2.2.2.2.2.2.2.2.1,x.2.1.1.2.2.2.2.2.2.2.2.2.2.2.2.1,()),()),(x.2.2.1,x.2.2.2.1,()))
def yxG:Code:=(zdI yia 64 116).getD .skip
theorem yJL:zdI yia 64 29=some (.block 0 (.loop yxG)):=by kernel_rfl
theorem yLg (x:(ya6).X):zg7 ⟨ynF,37,yy8⟩ 0 yxG 116 ya6 yeE yeW x=ybo x:=by kernel_rfl
def ywi (x:(yeN).X):Nat:=(fun (u0:Int) (u1:Int) (u2:Int) (u3:Int) (u4:Int) (u5:Int) (u6:Int) (u7:Int) (u8:Int) (u9:Int) (u10:Bool) (u11:Bool) (u12:List dM) (u13:List dW)=>18446744073709551616) x.1.2.1.1 x.2.1.1.1 x.2.1.1.2.1 x.2.1.1.2.2.1 x.2.1.1.2.2.2.2.1 x.2.1.1.2.2.2.2.2.1 x.2.1.1.2.2.2.2.2.2.1 x.2.1.1.2.2.2.2.2.2.2.1 x.2.1.1.2.2.2.2.2.2.2.2.1 x.2.1.1.2.2.2.2.2.2.2.2.2.2.1 x.2.1.1.2.2.2.2.2.2.2.2.2.2.2.1 x.2.1.1.2.2.2.2.2.2.2.2.2.2.2.2.1 x.2.2.1 x.2.2.2.1
def yoY (x:(yeN).X):Option ((yeE).X ⊕ (yeW).X):=zr ybo (ywi x) (yv8 x)
def ywx:Seg:=⟨yeN,yeE,yeW,yoY⟩
def yy9:Nat→Option Seg:=fun q=>bif Nat.beq q 29 then some ywx else yy8 q
theorem yJ9:FrOk Tryz.prog ⟨ynF,37,yy9⟩ yia:=(yJ8).loop (sg:=ywx) ya6 yv8 (by decide) yJL ybo ywi (by decide) (fun _=>rfl) (fun x r _ h=>h) yLg
abbrev ycX:List Par:= [.pt tA (.pr .fz (.pr (.pr .fz .fz) (.pr (.ow (.pr (.ow (.ow .fz)) (.pr (.ow (.pr .fz (.ow .fz))) (.pr .fz (.ow .fz))))) (.pr .fz (.pr .fz (.pr .fz (.pr .fz (.pr .fz (.pr (.ow (.pr .fz (.ow .fz))) (.pr .fz (.pr .fz .fz)))))))))))]
abbrev yiW:List OT:= [⟨false,tB,.fz⟩]
def yj2 (a0:dA):Option (ResD yiW×MutD ycX) :=
  zjw (yoY ((((),()),((a0.2.2.1.length:Int),()),((),()),()),((a0.1,a0.2.1.1,a0.2.1.2,(),a0.2.2.2.1,a0.2.2.2.2.1,a0.2.2.2.2.2.1,a0.2.2.2.2.2.2.1,(IntKind.i64.wrap (a0.2.2.2.2.2.2.2.1+1)),(),a0.2.2.2.2.2.2.2.2.2.1,a0.2.2.2.2.2.2.2.2.2.2.1,a0.2.2.2.2.2.2.2.2.2.2.2,()),()),(a0.2.2.1,a0.2.2.2.2.2.2.2.2.1,()))) (fun y6 =>
    bnd (yjv (y6.2.1.1.1,(y6.2.1.1.2.1,y6.2.1.1.2.2.1),y6.2.2.1,y6.2.1.1.2.2.2.2.1,y6.2.1.1.2.2.2.2.2.1,y6.2.1.1.2.2.2.2.2.2.1,y6.2.1.1.2.2.2.2.2.2.2.1,y6.2.1.1.2.2.2.2.2.2.2.2.1,y6.2.2.2.1,y6.2.1.1.2.2.2.2.2.2.2.2.2.2.1,y6.2.1.1.2.2.2.2.2.2.2.2.2.2.2.1,y6.2.1.1.2.2.2.2.2.2.2.2.2.2.2.2.1)) fun r8 =>
    some ((r8.1.1,()),(r8.2.1,()))) (fun y6 =>
    some ((y6.1.1.1,()),((y6.2.1.1.1,(y6.2.1.1.2.1,y6.2.1.1.2.2.1),y6.2.2.1,y6.2.1.1.2.2.2.2.1,y6.2.1.1.2.2.2.2.2.1,y6.2.1.1.2.2.2.2.2.2.1,y6.2.1.1.2.2.2.2.2.2.2.1,y6.2.1.1.2.2.2.2.2.2.2.2.1,y6.2.2.2.1,y6.2.1.1.2.2.2.2.2.2.2.2.2.2.1,y6.2.1.1.2.2.2.2.2.2.2.2.2.2.2.1,y6.2.1.1.2.2.2.2.2.2.2.2.2.2.2.2.1),())))
theorem yRR (x:InD ycX):zjH ⟨ynF,37,yy9⟩ Tryz.f101.results.toList yia ycX yiW x=yj2 x.1:=by kernel_rfl
theorem yM2:ConOk Tryz.prog 101 ⟨ycX,yiW,fun x=>yj2 x.1⟩:=zkh (yJ9) Tryz.func101 (by kernel_rfl) (by kernel_rfl) Tryz.ntmps101.symm (by decide) (fun x r h=>(yRR x).trans h)
def yoo (a0:dA):Bool×dA:=(!(yg (yy a0)),yy a0)
def ydo (a0:dA):Bool:= !(yg a0)
theorem yZH {a:dA} (i:Nat) (h:yg a=true):yaF a i=a:=yQM h _ _ _
theorem yPT (a0:dA) (hk:zi9 ycX (a0,())) (hq:ydo a0=true):yj2 a0=(fun n=>some ((n.1,()),(n.2,()))) (yoo a0):=by
  have hb:a0.2.2.1.length * 80≤2 ^ 47:=hk.1.2.2.1.1
  have hd0:yg a0=false:=by simpa [ydo] using hq
  have h1:yoY (yIF a0.2.2.1.length (yez a0))=some (bif yg ((List.range a0.2.2.1.length).foldl yaF (yez a0)) then .inr (yns false ((List.range a0.2.2.1.length).foldl yaF (yez a0))) else .inl (ynq ((List.range a0.2.2.1.length).foldl yaF (yez a0)))):=by
    have:=zkr (step:=ybo) a0.2.2.1.length (fun i s=>ynl a0.2.2.1.length i s) (fun i s=>bif yg (yaF s i) then (.inr (yaF s i):dA ⊕ dA) else .inl (yaF s i)) (fun _ s=>s.2.2.1.length=a0.2.2.1.length∧yg s=false) id
      (fun b=>bif yg b then .inr (yns false b) else .inl (ynq b)) (fun i s hi hs=>by
        constructor
        · simp only [ybo,ynl,ynw,zjI (show (i:Int) < a0.2.2.1.length by omega),cond_true,wr (show -9223372036854775808≤(i:Int)+1 by omega) (by omega),Int.natCast_add,Int.natCast_one,Int.toNat_natCast,zkV,yZ4,yqB]
          rw [yAo s i (s.2.2.2.2.2.2.2.1.tmod 2) (yK (s.1,s.2.2.2.2.2.2.2.1,(i:Int),s.2.1.1,s.2.1.2,s.2.2.2.2.2.2.1,s.2.2.2.1,s.2.2.2.2.1)) (by unfold yer; rw [zkO (by rw [hs.1]; exact hi),hs.2]; rfl)]
          simp only [zky,yeq]
          rw [show ydT s i (s.2.2.2.2.2.2.2.1.tmod 2) (yK (s.1,s.2.2.2.2.2.2.2.1,(i:Int),s.2.1.1,s.2.1.2,s.2.2.2.2.2.2.1,s.2.2.2.1,s.2.2.2.2.1))=yaF s i from rfl]
          cases hd:yg (yaF s i)
          · rfl
          · simp only [hd,Bool.not_true,Bool.not_false,cond_true,yns]
        · intro s' h
          cases hd:yg (yaF s i)
          · rw [hd]at h
            cases h
            exact ⟨(yNN s i).trans hs.1,hd⟩
          · rw [hd]at h; cases h) (fun s hs=>by simp only [ybo,ynl,ynw,hs.2,zkm (Int.le_refl _),cond_false,id,ynq]) (yez a0) ⟨rfl,hd0⟩ 18446744073709551616 (by omega)
    rw [yPm (fun a i h=>yZH i h),← List.range_eq_range'] at this
    exact this
  unfold yj2 yoo yy
  refine (congrArg (fun z=>zjw z _ _) h1).trans ?_
  cases hd:yg ((List.range a0.2.2.1.length).foldl yaF (yez a0))
  · simp only [cond_false,zkJ,zkV]
    rw [yCG _ (by unfold yjw; rw [hd]; rfl)]; rfl
  · rw [y1b hd]
    simp only [cond_true,zkK,zkV]
    rw [hd]; rfl
def yad (a0:dA):Option (ResD yiW×MutD ycX):=bif ydo a0 then (fun n=>some ((n.1,()),(n.2,()))) (yoo a0) else none
theorem ytu (a0:dA) (h:ydo a0=true):yad a0=(fun n=>some ((n.1,()),(n.2,()))) (yoo a0):=by unfold yad; rw [h]; rfl
def yjY:Con:=⟨ycX,yiW,fun x=>yad x.1⟩
theorem yts:ConOk Tryz.prog 101 yjY:=(yM2).mono (fun x r hk h=>zkW h (fun hq=>yPT x.1 hk hq))
end
end
end Go.Tf
