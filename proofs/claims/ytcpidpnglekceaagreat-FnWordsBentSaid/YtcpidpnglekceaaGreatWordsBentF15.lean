/- Functions of the program, and what they come to. -/
import Derived.Test.YtcpidpnglekceaaGreatWordsBentF14
namespace Go.Tf
noncomputable section
open Go.Proofs
set_option synthInstance.maxHeartbeats 400000
set_option synthInstance.maxSize 10000
set_option linter.unusedVariables false
set_option linter.unusedSimpArgs false
set_option maxRecDepth 100000
section
def yzu:Code:=(Tryz.f119.body).getD .skip
def yzV:Env:=zki TT [(131,yK)] []
theorem yEw:FrOk Tryz.prog ⟨yzV,9,fun _=>none⟩ yzu:=zkp ye yf ⟨yaa,trivial⟩
def yGQ:Nat→Option Seg:=fun _=>none
abbrev yiP:List Par:= [.rd tI]
abbrev yne:List OT:= [⟨false,tI,.fz⟩]
def yqh (a0:Int):Option (ResD yne×MutD yiP) :=
  let r1:=yl a0 0 1099511627776
  bif (!r1) then
    some (((-1),()),())
  else
    some (((IntKind.i64.wrap ((IntKind.i64.wrap (a0+2))+4)),()),())
theorem yMS (x:InD yiP):zjH ⟨yzV,9,yGQ⟩ Tryz.f119.results.toList yzu yiP yne x=yqh x.1:=by kernel_rfl
theorem yI4:ConOk Tryz.prog 119 ⟨yiP,yne,fun x=>yqh x.1⟩:=zkh (yEw) Tryz.func119 (by kernel_rfl) (by kernel_rfl) Tryz.ntmps119.symm (by decide) (fun x r h=>(yMS x).trans h)
def ynL (a0:Int):Int :=
  let r1:=yl a0 0 1099511627776
  bif (!r1) then
    (-1)
  else
    (IntKind.i64.wrap ((IntKind.i64.wrap (a0+2))+4))
def ywH:Con:=⟨yiP,yne,fun x=>(fun n=>some ((n,()),())) (ynL x.1)⟩
theorem yKX (a0:Int):yqh a0=(fun n=>some ((n,()),())) (ynL a0):=zkS (p:=fun (n:Int)=>((n,()),())) (zkx (p:=fun (n:Int)=>((n,()),())) rfl rfl)
theorem yLX:ConOk Tryz.prog 119 ywH:=(yI4).mono (fun x r _ h=>(yKX x.1).trans h)
theorem yKU (s:Int):ynL s=ycH s:=ycV s
end
section
def yvG:Code:=(Tryz.f206.body).getD .skip
def ywf:Env:=zki TT [] []
theorem yBD:FrOk Tryz.prog ⟨ywf,6,fun _=>none⟩ yvG:=zkp ye yf trivial
def yCt:Nat→Option Seg:=fun _=>none
abbrev yde:List Par:= [.rd tL]
abbrev yjM:List OT:= [⟨false,tL,(.ow .fz)⟩]
def ygU (a0:List Int):Option (ResD yjM×MutD yde) :=
  bif (zj4 ([]:List Int).length a0.length 8) then
    some (((([]:List Int)++a0),()),())
  else none
theorem yHC (x:InD yde):zjH ⟨ywf,6,yCt⟩ Tryz.f206.results.toList yvG yde yjM x=ygU x.1:=by kernel_rfl
theorem yDy:ConOk Tryz.prog 206 ⟨yde,yjM,fun x=>ygU x.1⟩:=zkh (yBD) Tryz.func206 (by kernel_rfl) (by kernel_rfl) Tryz.ntmps206.symm (by decide) (fun x r h=>(yHC x).trans h)
def ygt (a0:List Int):List Int:=a0
theorem yFZ (a0:List Int) (hk:zi9 yde (a0,())):ygU a0=(fun n=>some ((n,()),())) (ygt a0):=by
  have hb:a0.length * 8≤2 ^ 47:=hk.1.1
  unfold ygU ygt
  rw [show zj4 ([]:List Int).length a0.length 8=true by rw [zkw,List.length_nil]; omega]
  rfl
def ysJ:Con:=⟨yde,yjM,fun x=>(fun n=>some ((n,()),())) (ygt x.1)⟩
theorem yGs:ConOk Tryz.prog 206 ysJ:=(yDy).mono (fun x r hk h=>(yFZ x.1 hk).trans h)
end
section
def ycZ:Code:=(Tryz.f257.body).getD .skip
def yfw:Env:=zki TT [] []
theorem yyI:FrOk Tryz.prog ⟨yfw,19,fun _=>none⟩ ycZ:=zkp ye yf trivial
def yoS:Nat→Option Seg:=fun _=>none
def yY:Shape:=⟨[(0,false,[.br tI]),(1,false,[.int .i64]),(7,false,[.int .i64]),(8,false,[.int .i64])],[],[]⟩
def ybq:Shape:=⟨[(0,false,[.br tI]),(1,false,[.int .i64]),(7,false,[.int .i64]),(8,false,[.ci .i64 0])],[],[]⟩
def ybo:Shape:=⟨[],[],[]⟩
def ybs:Shape:=⟨[(4,false,[.int .i64])],[],[]⟩
abbrev ygA (v0:List Int) (v1:Int) (v2:Int) (v3:Int):(yY).X:=(((v0,()),(v1,()),(v2,()),(v3,()),()),(),())
abbrev yxo (v0:List Int) (v1:Int) (v2:Int):(ybq).X:=(((v0,()),(v1,()),(v2,()),((),()),()),(),())
abbrev yxm  :(ybo).X:=((),(),())
abbrev ymY (v0:Int):(ybs).X:=(((v0,()),()),(),())
def ygE (v0:List Int) (v1:Int) (v2:Int) (v3:Int):Option ((yY).X ⊕ ((ybo).X ⊕ (ybs).X)) :=
  bif (ltb v3 v2) then
    bif (inb v3 v0.length) then
      bif (v1==(nth v0 v3 0)) then
        some (.inr (.inr (((v3,()),()),(),())))
      else
        some (.inl (((v0,()),(v1,()),(v2,()),((IntKind.i64.wrap (v3+1)),()),()),(),()))
    else none
  else
    some (.inr (.inl ((),(),())))
def yaf (x:(yY).X):=ygE x.1.1.1 x.1.2.1.1 x.1.2.2.1.1 x.1.2.2.2.1.1
def ymS (x:(ybq).X):(yY).X:=(((x.1.1.1,()),(x.1.2.1.1,()),(x.1.2.2.1.1,()),(0,()),()),(),())
def yoM:Code:=(zdI ycZ 64 52).getD .skip
theorem yyh:zdI ycZ 64 13=some (.block 0 (.loop yoM)):=by kernel_rfl
theorem yyW (x:(yY).X):zg7 ⟨yfw,19,yoS⟩ 0 yoM 52 yY ybo ybs x=yaf x:=by kernel_rfl
def ymU (x:(ybq).X):Nat:=(fun (u0:List Int) (u1:Int) (u2:Int)=>18446744073709551616) x.1.1.1 x.1.2.1.1 x.1.2.2.1.1
def yhb (x:(ybq).X):Option ((ybo).X ⊕ (ybs).X):=zr yaf (ymU x) (ymS x)
def ym0:Seg:=⟨ybq,ybo,ybs,yhb⟩
def yoT:Nat→Option Seg:=fun q=>bif Nat.beq q 13 then some ym0 else yoS q
theorem yyJ:FrOk Tryz.prog ⟨yfw,19,yoT⟩ ycZ:=(yyI).loop (sg:=ym0) yY ymS (by decide) yyh yaf ymU (by decide) (fun _=>rfl) (fun x r _ h=>h) yyW
abbrev ybl:List Par:= [.rd tL,.rd tI]
abbrev yga:List OT:= [⟨false,tI,.fz⟩]
def ydW (a0:List Int) (a1:Int):Option (ResD yga×MutD ybl) :=
  zjw (yhb (((a0,()),(a1,()),((a0.length:Int),()),((),()),()),(),())) (fun y0 =>
    some (((-1),()),())) (fun y0 =>
    some ((y0.1.1.1,()),()))
theorem yBx (x:InD ybl):zjH ⟨yfw,19,yoT⟩ Tryz.f257.results.toList ycZ ybl yga x=ydW x.1 x.2.1:=by kernel_rfl
theorem yzm:ConOk Tryz.prog 257 ⟨ybl,yga,fun x=>ydW x.1 x.2.1⟩:=zkh (yyJ) Tryz.func257 (by kernel_rfl) (by kernel_rfl) Tryz.ntmps257.symm (by decide) (fun x r h=>(yBx x).trans h)
def yKV (l:List Int) (x:Int):Int:=bif l.any (· ==x) then ((l.takeWhile (· !=x)).length:Int) else -1
def yc8 (a0:List Int) (a1:Int):Int:=yKV a0 a1
theorem yPI {A B α:Type} {step:A→Option (A ⊕ B)} (l:List α) (d:α) (f:Nat→A) (p:α→Bool) (b:Nat→B) (c:B)
    (h: ∀ i,i < l.length→step (f i)=some (bif p (l.getD i d) then .inr (b i) else .inl (f (i+1)))) (e:step (f l.length)=some (.inr c)) (fuel:Nat) (hf:l.length < fuel) :
    zr step fuel (f 0)=some (bif l.any p then b (l.takeWhile (fun x=> !p x)).length else c):=by
  have: ∀ (t q:List α) (fuel:Nat),q++t=l→t.length < fuel→zr step fuel (f q.length)=some (bif t.any p then b (q.length+(t.takeWhile (fun x=> !p x)).length) else c):=by
    intro t
    induction t with
    | nil =>
      intro q fuel hq hf
      obtain ⟨fuel,rfl⟩: ∃ m,fuel=m+1:=⟨fuel - 1,by omega⟩
      rw [List.append_nil]at hq
      subst hq
      simp only [zr,e,List.any_nil,cond_false]
    | cons x t ih =>
      intro q fuel hq hf
      obtain ⟨fuel,rfl⟩: ∃ m,fuel=m+1:=⟨fuel - 1,by omega⟩
      have hx:l.getD q.length d=x:=by
        subst hq
        rw [zcq (by simp)]; simp
      have hs:=h q.length (by rw [← hq]; simp)
      rw [hx]at hs
      cases hp:p x
      · rw [hp]at hs
        have:=ih (q++ [x]) fuel (by rw [← hq]; simp) (by simp at hf; omega)
        simp only [List.length_append,List.length_cons,List.length_nil]at this
        simp only [zr,hs,cond_false]
        simp only [List.any_cons,hp,Bool.false_or,List.takeWhile_cons,Bool.not_false,if_true,List.length_cons]
        rw [show q.length+((t.takeWhile (fun x=> !p x)).length+1)=q.length+(0+1)+(t.takeWhile (fun x=> !p x)).length by omega]
        exact this
      · rw [hp]at hs
        simp only [zr,hs,cond_true,List.any_cons,hp,Bool.true_or,List.takeWhile_cons,Bool.not_true,Bool.false_eq_true,if_false,List.length_nil,Nat.add_zero]
  have:=this l [] fuel rfl hf
  simpa using this
theorem yAI (a0:List Int) (a1:Int) (hk:zi9 ybl (a0,a1,())):ydW a0 a1=(fun n=>some ((n,()),())) (yc8 a0 a1):=by
  have hb:a0.length * 8≤2 ^ 47:=hk.1.1
  have h1:yhb (yxo a0 a1 a0.length)=some (bif a0.any (· ==a1) then .inr (ymY ((a0.takeWhile (fun x=> !(x==a1))).length:Int)) else .inl yxm) :=
    yPI (step:=yaf) a0 0 (fun i=>ygA a0 a1 a0.length i) (· ==a1) (fun i=> .inr (ymY (i:Int))) _ (fun i hi=>by
      simp only [yaf,ygA,ygE,zjI (show (i:Int) < a0.length by omega),cond_true,wr (show -9223372036854775808≤(i:Int)+1 by omega) (by omega),Int.natCast_add,Int.natCast_one,Int.toNat_natCast,zkO hi,zjW]
      rw [show (a1==a0.getD i 0)=(a0.getD i 0==a1) by rw [Bool.eq_iff_iff,beq_iff_eq,beq_iff_eq]; exact eq_comm]
      cases (a0.getD i 0==a1)<;>rfl) (by simp only [yaf,ygA,ygE,zkm (Int.le_refl _),cond_false]) _ (by show _ < 18446744073709551616; omega)
  unfold ydW yc8 yKV
  rw [h1]
  cases a0.any (· ==a1)<;>rfl
def ypV:Con:=⟨ybl,yga,fun x=>(fun n=>some ((n,()),())) (yc8 x.1 x.2.1)⟩
theorem yAN:ConOk Tryz.prog 257 ypV:=(yzm).mono (fun x r hk h=>(yAI x.1 x.2.1 hk).trans h)
end
section
def yoK:Code:=(Tryz.f220.body).getD .skip
def yoL:Env:=zki TT [(257,ypV)] []
theorem yuH:FrOk Tryz.prog ⟨yoL,9,fun _=>none⟩ yoK:=zkp ye yf ⟨yAN,trivial⟩
def yvD:Nat→Option Seg:=fun _=>none
abbrev yax:List Par:= [.rd tL,.rd tI]
abbrev ydm:List OT:= [⟨false,tB,.fz⟩]
def ycA (a0:List Int) (a1:Int):Option (ResD ydm×MutD yax) :=
  let r1:=yc8 a0 a1
  some (((leb 0 r1),()),())
theorem yyE (x:InD yax):zjH ⟨yoL,9,yvD⟩ Tryz.f220.results.toList yoK yax ydm x=ycA x.1 x.2.1:=by kernel_rfl
theorem yvE:ConOk Tryz.prog 220 ⟨yax,ydm,fun x=>ycA x.1 x.2.1⟩:=zkh (yuH) Tryz.func220 (by kernel_rfl) (by kernel_rfl) Tryz.ntmps220.symm (by decide) (fun x r h=>(yyE x).trans h)
def ybu (a0:List Int) (a1:Int):Bool:=a0.any (· ==a1)
theorem yxq (a0:List Int) (a1:Int) (hk:zi9 yax (a0,a1,())):ycA a0 a1=(fun n=>some ((n,()),())) (ybu a0 a1):=by
  unfold ycA ybu yc8 yKV
  cases a0.any (· ==a1)
  · rfl
  · simp only [cond_true]
    rw [zk0 (show (0:Int)≤((a0.takeWhile (· !=a1)).length:Int) by omega)]
def yma:Con:=⟨yax,ydm,fun x=>(fun n=>some ((n,()),())) (ybu x.1 x.2.1)⟩
theorem yxr:ConOk Tryz.prog 220 yma:=(yvE).mono (fun x r hk h=>(yxq x.1 x.2.1 hk).trans h)
end
section
def yg4:Code:=(Tryz.f134.body).getD .skip
def ylr:Env:=zki TT [(179,yqY),(206,ysJ),(211,ypU),(220,yma)] []
theorem yCK:FrOk Tryz.prog ⟨ylr,49,fun _=>none⟩ yg4:=zkp ye yf ⟨yAm,yGs,yyQ,yxr,trivial⟩
def ytF:Nat→Option Seg:=fun _=>none
def yaP:Shape:=⟨[(1,false,[.int .i64]),(6,false,[.br tI]),(34,false,[.br tW]),(35,false,[.int .i64]),(36,false,[.int .i64])],[],[]⟩
def ydG:Shape:=⟨[(1,false,[.int .i64]),(6,false,[.br tI]),(34,false,[.br tW]),(35,false,[.int .i64]),(36,false,[.ci .i64 0])],[],[]⟩
def ydA:Shape:=⟨[(6,false,[.br tI])],[],[]⟩
def ygN:Shape:=⟨[],[],[]⟩
abbrev yk6 (v0:Int) (v1:List Int) (v2:List dW) (v3:Int) (v4:Int):(yaP).X:=(((v0,()),(v1,()),(v2,()),(v3,()),(v4,()),()),(),())
abbrev yBY (v0:Int) (v1:List Int) (v2:List dW) (v3:Int):(ydG).X:=(((v0,()),(v1,()),(v2,()),(v3,()),((),()),()),(),())
abbrev yr5 (v0:List Int):(ydA).X:=(((v0,()),()),(),())
def ylj (v0:Int) (v1:List Int) (v2:List dW) (v3:Int) (v4:Int):Option ((yaP).X ⊕ ((ydA).X ⊕ (ygN).X)) :=
  bif (ltb v4 v3) then
    bif (inb v4 v2.length) then
      bif ((nth v2 v4 (0,[])).1==v0) then
        some (.inl (((v0,()),((nth v2 v4 (0,[])).2,()),(v2,()),(v3,()),((IntKind.i64.wrap (v4+1)),()),()),(),()))
      else
        some (.inl (((v0,()),(v1,()),(v2,()),(v3,()),((IntKind.i64.wrap (v4+1)),()),()),(),()))
    else none
  else
    some (.inr (.inl (((v1,()),()),(),())))
def yaW (x:(yaP).X):=ylj x.1.1.1 x.1.2.1.1 x.1.2.2.1.1 x.1.2.2.2.1.1 x.1.2.2.2.2.1.1
def yrM (x:(ydG).X):(yaP).X:=(((x.1.1.1,()),(x.1.2.1.1,()),(x.1.2.2.1.1,()),(x.1.2.2.2.1.1,()),(0,()),()),(),())
def ysB:Code:=(zdI yg4 64 244).getD .skip
theorem yCC:zdI yg4 64 61=some (.block 0 (.loop ysB)):=by kernel_rfl
theorem yDM (x:(yaP).X):zg7 ⟨ylr,49,ytF⟩ 0 ysB 244 yaP ydA ygN x=yaW x:=by kernel_rfl
def yrW (x:(ydG).X):Nat:=(fun (u0:Int) (u1:List Int) (u2:List dW) (u3:Int)=>18446744073709551616) x.1.1.1 x.1.2.1.1 x.1.2.2.1.1 x.1.2.2.2.1.1
def ymc (x:(ydG).X):Option ((ydA).X ⊕ (ygN).X):=zr yaW (yrW x) (yrM x)
def ysb:Seg:=⟨ydG,ydA,ygN,ymc⟩
def ytG:Nat→Option Seg:=fun q=>bif Nat.beq q 61 then some ysb else ytF q
theorem yCL:FrOk Tryz.prog ⟨ylr,49,ytG⟩ yg4:=(yCK).loop (sg:=ysb) yaP yrM (by decide) yCC yaW yrW (by decide) (fun _=>rfl) (fun x r _ h=>h) yDM
abbrev ydZ:List Par:= [.rd tM,.rd tI]
abbrev yly:List OT:= [⟨false,tL,(.ow .fz)⟩,⟨false,tB,.fz⟩]
def yio (a0:dM) (a1:Int):Option (ResD yly×MutD ydZ) :=
  let r1:=yeV a0
  bif (!(!r1)) then
    bif (!a0.2.2.1) then
      let r2:=ycv a0 a1
      bif (!(!r2)) then
        let r3:=ybu a0.2.2.2 a1
        bif r3 then
          some (([],false,()),())
        else
          bif (inb a1 a0.1.length) then
            zjw (ymc (((a1,()),((nth a0.1 a1 []),()),(a0.2.1,()),((a0.2.1.length:Int),()),((),()),()),(),())) (fun y3 =>
              let r5:=ygt y3.1.1.1
              some ((r5,true,()),())) (fun y3 =>
              none)
          else none
      else
        some (([],false,()),())
    else
      some (([],false,()),())
  else
    some (([],false,()),())
theorem yKz (x:InD ydZ):zjH ⟨ylr,49,ytG⟩ Tryz.f134.results.toList yg4 ydZ yly x=yio x.1 x.2.1:=by kernel_rfl
theorem yGa:ConOk Tryz.prog 134 ⟨ydZ,yly,fun x=>yio x.1 x.2.1⟩:=zkh (yCL) Tryz.func134 (by kernel_rfl) (by kernel_rfl) Tryz.ntmps134.symm (by decide) (fun x r h=>(yKz x).trans h)
def yhM (a0:dM) (a1:Int):List Int×Bool:=yjx a0 a1
theorem yIO (a0:dM) (a1:Int) (hk:zi9 ydZ (a0,a1,())):yio a0 a1=(fun n=>some ((n.1,n.2,()),())) (yhM a0 a1):=by
  have hb1:a0.1.length * 24≤2 ^ 47:=hk.1.1.1
  have hb2:a0.2.1.length * 32≤2 ^ 47:=hk.1.2.1.1
  have h1: ∀ s,ymc (yBY a1 s a0.2.1 a0.2.1.length)=some (.inl (yr5 (yyO a1 a0.2.1 s))):=fun s =>
    zkk (step:=yaW) a0.2.1 (0,[]) (fun i s=>yk6 a1 s a0.2.1 a0.2.1.length i) (fun s w=>bif w.1==a1 then w.2 else s) (fun _ _=>True) (fun s=> .inl (yr5 s)) (fun i s hi _=>⟨by
      simp only [yaW,yk6,ylj,zjI (show (i:Int) < a0.2.1.length by omega),cond_true,wr (show -9223372036854775808≤(i:Int)+1 by omega) (by omega),Int.natCast_add,Int.natCast_one,Int.toNat_natCast,zkO hi,zjW]
      cases ((a0.2.1.getD i (0,[])).1==a1)<;>rfl,trivial⟩) (fun s _=>by simp only [yaW,yk6,ylj,zkm (Int.le_refl _),cond_false]) s trivial _ (by show _ < 18446744073709551616; omega)
  unfold yio yhM yjx yym ycv
  rw [yat,ymW (show a0.1.length≤1152921504606846976 by omega)]
  unfold yeV ybu ygt
  simp only [h1,zkJ]
  cases yz a0
  · rfl
  cases a0.2.2.1
  · cases inb a1 a0.1.length
    · rfl
    · cases a0.2.2.2.any (· ==a1)<;>rfl
  · rfl
def yuf:Con:=⟨ydZ,yly,fun x=>(fun n=>some ((n.1,n.2,()),())) (yhM x.1 x.2.1)⟩
theorem yJG:ConOk Tryz.prog 134 yuf:=(yGa).mono (fun x r hk h=>(yIO x.1 x.2.1 hk).trans h)
end
section
def yzC:Code:=(Tryz.f165.body).getD .skip
def yz3:Env:=zki TT [(84,ywK),(119,ywH),(134,yuf)] []
theorem yEI:FrOk Tryz.prog ⟨yz3,38,fun _=>none⟩ yzC:=zkp ye yf ⟨yL0,yLX,yJG,trivial⟩
def yGY:Nat→Option Seg:=fun _=>none
abbrev ydt:List Par:= [.rd tA,.rd tI,.rd tI]
abbrev yi7:List OT:= [⟨false,tI,.fz⟩,⟨false,tB,.fz⟩]
def ykh (a0:dA) (a1:Int) (a2:Int):Option (ResD yi7×MutD ydt) :=
  bif (inb a1 a0.2.2.1.length) then
    let r1:=ynL a2
    let r2:=yhM ((nth a0.2.2.1 a1 ([],[],false,[])).1,((nth a0.2.2.1 a1 ([],[],false,[])).2).1,(((nth a0.2.2.1 a1 ([],[],false,[])).2).2)) r1
    let r3:=yjf a0 a1 a2
    bif (!(!r3)) then
      bif (!(!r2.2)) then
        bif ((r2.1.length:Int) !=1) then
          some ((0,false,()),())
        else
          bif (inb 0 r2.1.length) then
            some (((nth r2.1 0 0),true,()),())
          else none
      else
        some ((0,false,()),())
    else
      some ((0,false,()),())
  else none
theorem yM2 (x:InD ydt):zjH ⟨yz3,38,yGY⟩ Tryz.f165.results.toList yzC ydt yi7 x=ykh x.1 x.2.1 x.2.2.1:=by kernel_rfl
theorem yJe:ConOk Tryz.prog 165 ⟨ydt,yi7,fun x=>ykh x.1 x.2.1 x.2.2.1⟩:=zkh (yEI) Tryz.func165 (by kernel_rfl) (by kernel_rfl) Tryz.ntmps165.symm (by decide) (fun x r h=>(yM2 x).trans h)
def ydx (a0:dA) (a1 a2:Int):Int×Bool:=(yjF a0 a1 a2,ym a0 a1 a2)
def ysm (a0:dA) (a1 a2:Int):Bool:=inb a1 a0.2.2.1.length
theorem yK7 (a0:dA) (a1 a2:Int) (hk:zi9 ydt (a0,a1,a2,())) (hq:ysm a0 a1 a2=true):ykh a0 a1 a2=(fun n=>some ((n.1,n.2,()),())) (ydx a0 a1 a2):=by
  unfold ykh ydx yjF yjf
  simp only [zkV,yKU,yhM]
  rw [show ym a0 a1 a2=(yb4 a0 a1 a2&&((ycY a0 a1 a2).2&&((ycY a0 a1 a2).1.length:Int)==1)) from rfl]
  rw [show yjx (nth a0.2.2.1 a1 ([],[],false,[])) (ycH a2)=ycY a0 a1 a2 from rfl]
  rw [show inb a1 a0.2.2.1.length=true from hq]
  cases hl:yb4 a0 a1 a2
  · rfl
  · cases (ycY a0 a1 a2).2
    · rfl
    · rw [bne]
      cases h1:(((ycY a0 a1 a2).1.length:Int)==1)
      · rfl
      · rw [show inb 0 (ycY a0 a1 a2).1.length=true from zjP.2 (by have:=beq_iff_eq.1 h1; omega)]; rfl
def yfq (a0:dA) (a1:Int) (a2:Int):Option (ResD yi7×MutD ydt):=bif ysm a0 a1 a2 then (fun n=>some ((n.1,n.2,()),())) (ydx a0 a1 a2) else none
theorem yrc (a0:dA) (a1:Int) (a2:Int) (h:ysm a0 a1 a2=true):yfq a0 a1 a2=(fun n=>some ((n.1,n.2,()),())) (ydx a0 a1 a2):=by unfold yfq; rw [h]; rfl
def yj3:Con:=⟨ydt,yi7,fun x=>yfq x.1 x.2.1 x.2.2.1⟩
theorem yq5:ConOk Tryz.prog 165 yj3:=(yJe).mono (fun x r hk h=>zkW h (fun hq=>yK7 x.1 x.2.1 x.2.2.1 hk hq))
end
end
end Go.Tf
