/- Functions of the program, and what they come to. -/
import Derived.Test.YtgmadfpnljibhaaWordsF13
namespace Go.Tf
noncomputable section
open Go.Proofs
set_option synthInstance.maxHeartbeats 400000
set_option synthInstance.maxSize 10000
set_option linter.unusedVariables false
set_option linter.unusedSimpArgs false
set_option maxRecDepth 100000
section
def ycN:Code:=(Try.f159.body).getD .skip
def yfb:Env:=zki TT [] []
theorem ywT:FrOk Try.prog ⟨yfb,19,fun _=>none⟩ ycN:=zkp yc yd trivial
def ynV:Nat→Option Seg:=fun _=>none
def yP:Shape:=⟨[(0,false,[.br tI]),(1,false,[.int .i64]),(7,false,[.int .i64]),(8,false,[.int .i64])],[],[]⟩
def ybi:Shape:=⟨[(0,false,[.br tI]),(1,false,[.int .i64]),(7,false,[.int .i64]),(8,false,[.ci .i64 0])],[],[]⟩
def ybg:Shape:=⟨[],[],[]⟩
def ybk:Shape:=⟨[(4,false,[.int .i64])],[],[]⟩
abbrev yf6 (v0:List Int) (v1:Int) (v2:Int) (v3:Int):(yP).X:=(((v0,()),(v1,()),(v2,()),(v3,()),()),(),())
abbrev yvM (v0:List Int) (v1:Int) (v2:Int):(ybi).X:=(((v0,()),(v1,()),(v2,()),((),()),()),(),())
abbrev yvK  :(ybg).X:=((),(),())
abbrev yl4 (v0:Int):(ybk).X:=(((v0,()),()),(),())
def yga (v0:List Int) (v1:Int) (v2:Int) (v3:Int):Option ((yP).X ⊕ ((ybg).X ⊕ (ybk).X)) :=
  bif (ltb v3 v2) then
    bif (inb v3 v0.length) then
      bif (v1==(nth v0 v3 0)) then
        some (.inr (.inr (((v3,()),()),(),())))
      else
        some (.inl (((v0,()),(v1,()),(v2,()),((IntKind.i64.wrap (v3+1)),()),()),(),()))
    else none
  else
    some (.inr (.inl ((),(),())))
def yZ (x:(yP).X):=yga x.1.1.1 x.1.2.1.1 x.1.2.2.1.1 x.1.2.2.2.1.1
def ylZ (x:(ybi).X):(yP).X:=(((x.1.1.1,()),(x.1.2.1.1,()),(x.1.2.2.1.1,()),(0,()),()),(),())
def ynK:Code:=(zdI ycN 64 52).getD .skip
theorem ywA:zdI ycN 64 13=some (.block 0 (.loop ynK)):=by kernel_rfl
theorem yw8 (x:(yP).X):zg7 ⟨yfb,19,ynV⟩ 0 ynK 52 yP ybg ybk x=yZ x:=by kernel_rfl
def yl1 (x:(ybi).X):Nat:=(fun (u0:List Int) (u1:Int) (u2:Int)=>18446744073709551616) x.1.1.1 x.1.2.1.1 x.1.2.2.1.1
def ygI (x:(ybi).X):Option ((ybg).X ⊕ (ybk).X):=zr yZ (yl1 x) (ylZ x)
def yl6:Seg:=⟨ybi,ybg,ybk,ygI⟩
def ynW:Nat→Option Seg:=fun q=>bif Nat.beq q 13 then some yl6 else ynV q
theorem ywU:FrOk Try.prog ⟨yfb,19,ynW⟩ ycN:=(ywT).loop (sg:=yl6) yP ylZ (by decide) ywA yZ yl1 (by decide) (fun _=>rfl) (fun x r _ h=>h) yw8
abbrev ybe:List Par:= [.rd tL,.rd tI]
abbrev yfG:List OT:= [⟨false,tI,.fz⟩]
def ydO (a0:List Int) (a1:Int):Option (ResD yfG×MutD ybe) :=
  zjw (ygI (((a0,()),(a1,()),((a0.length:Int),()),((),()),()),(),())) (fun y0 =>
    some (((-1),()),())) (fun y0 =>
    some ((y0.1.1.1,()),()))
theorem yzp (x:InD ybe):zjH ⟨yfb,19,ynW⟩ Try.f159.results.toList ycN ybe yfG x=ydO x.1 x.2.1:=by kernel_rfl
theorem yxA:ConOk Try.prog 159 ⟨ybe,yfG,fun x=>ydO x.1 x.2.1⟩:=zkh (ywU) Try.func159 (by kernel_rfl) (by kernel_rfl) Try.ntmps159.symm (by decide) (fun x r h=>(yzp x).trans h)
def yIw (l:List Int) (x:Int):Int:=bif l.any (· ==x) then ((l.takeWhile (· !=x)).length:Int) else -1
def ycW (a0:List Int) (a1:Int):Int:=yIw a0 a1
theorem yNn {A B α:Type} {step:A→Option (A ⊕ B)} (l:List α) (d:α) (f:Nat→A) (p:α→Bool) (b:Nat→B) (c:B)
    (h: ∀ i,i < l.length→step (f i)=some (bif p (l.getD i d) then .inr (b i) else .inl (f (i+1)))) (e:step (f l.length)=some (.inr c)) (fuel:Nat) (hf:l.length < fuel) :
    zr step fuel (f 0)=some (bif l.any p then b (l.takeWhile (fun x=> !p x)).length else c):=by
  have: ∀ (t q:List α) (fuel:Nat),q++t=l→t.length < fuel→zr step fuel (f q.length)=some (bif t.any p then b (q.length+(t.takeWhile (fun x=> !p x)).length) else c):=by
    intro t
    induction t with
    | nil =>
      intro q fuel hq hf
      obtain ⟨fuel,rfl⟩: ∃ m,fuel=m+1:=⟨fuel - 1,by omega⟩
      rw [List.append_nil]at hq
      subst hq
      simp only [zr,e,List.any_nil,cond_false]
    | cons x t ih =>
      intro q fuel hq hf
      obtain ⟨fuel,rfl⟩: ∃ m,fuel=m+1:=⟨fuel - 1,by omega⟩
      have hx:l.getD q.length d=x:=by
        subst hq
        rw [zcq (by simp)]; simp
      have hs:=h q.length (by rw [← hq]; simp)
      rw [hx]at hs
      cases hp:p x
      · rw [hp]at hs
        have:=ih (q++ [x]) fuel (by rw [← hq]; simp) (by simp at hf; omega)
        simp only [List.length_append,List.length_cons,List.length_nil]at this
        simp only [zr,hs,cond_false]
        simp only [List.any_cons,hp,Bool.false_or,List.takeWhile_cons,Bool.not_false,if_true,List.length_cons]
        rw [show q.length+((t.takeWhile (fun x=> !p x)).length+1)=q.length+(0+1)+(t.takeWhile (fun x=> !p x)).length by omega]
        exact this
      · rw [hp]at hs
        simp only [zr,hs,cond_true,List.any_cons,hp,Bool.true_or,List.takeWhile_cons,Bool.not_true,Bool.false_eq_true,if_false,List.length_nil,Nat.add_zero]
  have:=this l [] fuel rfl hf
  simpa using this
theorem yyN (a0:List Int) (a1:Int) (hk:zi9 ybe (a0,a1,())):ydO a0 a1=(fun n=>some ((n,()),())) (ycW a0 a1):=by
  have hb:a0.length * 8≤2 ^ 47:=hk.1.1
  have h1:ygI (yvM a0 a1 a0.length)=some (bif a0.any (· ==a1) then .inr (yl4 ((a0.takeWhile (fun x=> !(x==a1))).length:Int)) else .inl yvK) :=
    yNn (step:=yZ) a0 0 (fun i=>yf6 a0 a1 a0.length i) (· ==a1) (fun i=> .inr (yl4 (i:Int))) _ (fun i hi=>by
      simp only [yZ,yf6,yga,zjI (show (i:Int) < a0.length by omega),cond_true,wr (show -9223372036854775808≤(i:Int)+1 by omega) (by omega),Int.natCast_add,Int.natCast_one,Int.toNat_natCast,zkO hi,zjW]
      rw [show (a1==a0.getD i 0)=(a0.getD i 0==a1) by rw [Bool.eq_iff_iff,beq_iff_eq,beq_iff_eq]; exact eq_comm]
      cases (a0.getD i 0==a1)<;>rfl) (by simp only [yZ,yf6,yga,zkm (Int.le_refl _),cond_false]) _ (by show _ < 18446744073709551616; omega)
  unfold ydO ycW yIw
  rw [h1]
  cases a0.any (· ==a1)<;>rfl
def yoL:Con:=⟨ybe,yfG,fun x=>(fun n=>some ((n,()),())) (ycW x.1 x.2.1)⟩
theorem yyS:ConOk Try.prog 159 yoL:=(yxA).mono (fun x r hk h=>(yyN x.1 x.2.1 hk).trans h)
end
section
def ynH:Code:=(Try.f128.body).getD .skip
def ynI:Env:=zki TT [(159,yoL)] []
theorem ytc:FrOk Try.prog ⟨ynI,9,fun _=>none⟩ ynH:=zkp yc yd ⟨yyS,trivial⟩
def yt1:Nat→Option Seg:=fun _=>none
abbrev yan:List Par:= [.rd tL,.rd tI]
abbrev ydb:List OT:= [⟨false,tB,.fz⟩]
def yco (a0:List Int) (a1:Int):Option (ResD ydb×MutD yan) :=
  let r1:=ycW a0 a1
  some (((leb 0 r1),()),())
theorem ywR (x:InD yan):zjH ⟨ynI,9,yt1⟩ Try.f128.results.toList ynH yan ydb x=yco x.1 x.2.1:=by kernel_rfl
theorem yt2:ConOk Try.prog 128 ⟨yan,ydb,fun x=>yco x.1 x.2.1⟩:=zkh (ytc) Try.func128 (by kernel_rfl) (by kernel_rfl) Try.ntmps128.symm (by decide) (fun x r h=>(ywR x).trans h)
def ybo (a0:List Int) (a1:Int):Bool:=a0.any (· ==a1)
theorem yvO (a0:List Int) (a1:Int) (hk:zi9 yan (a0,a1,())):yco a0 a1=(fun n=>some ((n,()),())) (ybo a0 a1):=by
  unfold yco ybo ycW yIw
  cases a0.any (· ==a1)
  · rfl
  · simp only [cond_true]
    rw [zk0 (show (0:Int)≤((a0.takeWhile (· !=a1)).length:Int) by omega)]
def yll:Con:=⟨yan,ydb,fun x=>(fun n=>some ((n,()),())) (ybo x.1 x.2.1)⟩
theorem yvP:ConOk Try.prog 128 yll:=(yt2).mono (fun x r hk h=>(yvO x.1 x.2.1 hk).trans h)
end
section
def ygB:Code:=(Try.f80.body).getD .skip
def ykC:Env:=zki TT [(43,ypD),(49,yrk),(84,yoJ),(128,yll)] []
theorem yAK:FrOk Try.prog ⟨ykC,49,fun _=>none⟩ ygB:=zkp yc yd ⟨yyx,yEi,yw2,yvP,trivial⟩
def yse:Nat→Option Seg:=fun _=>none
def yaD:Shape:=⟨[(1,false,[.int .i64]),(6,false,[.br tI]),(34,false,[.br tW]),(35,false,[.int .i64]),(36,false,[.int .i64])],[],[]⟩
def ydx:Shape:=⟨[(1,false,[.int .i64]),(6,false,[.br tI]),(34,false,[.br tW]),(35,false,[.int .i64]),(36,false,[.ci .i64 0])],[],[]⟩
def ydq:Shape:=⟨[(6,false,[.br tI])],[],[]⟩
def ygj:Shape:=⟨[],[],[]⟩
abbrev ykg (v0:Int) (v1:List Int) (v2:List dW) (v3:Int) (v4:Int):(yaD).X:=(((v0,()),(v1,()),(v2,()),(v3,()),(v4,()),()),(),())
abbrev yzQ (v0:Int) (v1:List Int) (v2:List dW) (v3:Int):(ydx).X:=(((v0,()),(v1,()),(v2,()),(v3,()),((),()),()),(),())
abbrev yqF (v0:List Int):(ydq).X:=(((v0,()),()),(),())
def ykt (v0:Int) (v1:List Int) (v2:List dW) (v3:Int) (v4:Int):Option ((yaD).X ⊕ ((ydq).X ⊕ (ygj).X)) :=
  bif (ltb v4 v3) then
    bif (inb v4 v2.length) then
      bif ((nth v2 v4 (0,[])).1==v0) then
        some (.inl (((v0,()),((nth v2 v4 (0,[])).2,()),(v2,()),(v3,()),((IntKind.i64.wrap (v4+1)),()),()),(),()))
      else
        some (.inl (((v0,()),(v1,()),(v2,()),(v3,()),((IntKind.i64.wrap (v4+1)),()),()),(),()))
    else none
  else
    some (.inr (.inl (((v1,()),()),(),())))
def yaM (x:(yaD).X):=ykt x.1.1.1 x.1.2.1.1 x.1.2.2.1.1 x.1.2.2.2.1.1 x.1.2.2.2.2.1.1
def yqi (x:(ydx).X):(yaD).X:=(((x.1.1.1,()),(x.1.2.1.1,()),(x.1.2.2.1.1,()),(x.1.2.2.2.1.1,()),(0,()),()),(),())
def yrc:Code:=(zdI ygB 64 244).getD .skip
theorem yAA:zdI ygB 64 61=some (.block 0 (.loop yrc)):=by kernel_rfl
theorem yBK (x:(yaD).X):zg7 ⟨ykC,49,yse⟩ 0 yrc 244 yaD ydq ygj x=yaM x:=by kernel_rfl
def yqu (x:(ydx).X):Nat:=(fun (u0:Int) (u1:List Int) (u2:List dW) (u3:Int)=>18446744073709551616) x.1.1.1 x.1.2.1.1 x.1.2.2.1.1 x.1.2.2.2.1.1
def yln (x:(ydx).X):Option ((ydq).X ⊕ (ygj).X):=zr yaM (yqu x) (yqi x)
def yqI:Seg:=⟨ydx,ydq,ygj,yln⟩
def ysf:Nat→Option Seg:=fun q=>bif Nat.beq q 61 then some yqI else yse q
theorem yAL:FrOk Try.prog ⟨ykC,49,ysf⟩ ygB:=(yAK).loop (sg:=yqI) yaD yqi (by decide) yAA yaM yqu (by decide) (fun _=>rfl) (fun x r _ h=>h) yBK
abbrev ydS:List Par:= [.rd tM,.rd tI]
abbrev ykJ:List OT:= [⟨false,tL,(.ow .fz)⟩,⟨false,tB,.fz⟩]
def yhV (a0:dM) (a1:Int):Option (ResD ykJ×MutD ydS) :=
  let r1:=yeH a0
  bif (!(!r1)) then
    bif (!a0.2.2.1) then
      let r2:=ycg a0 a1
      bif (!(!r2)) then
        let r3:=ybo a0.2.2.2 a1
        bif r3 then
          some (([],false,()),())
        else
          bif (inb a1 a0.1.length) then
            zjw (yln (((a1,()),((nth a0.1 a1 []),()),(a0.2.1,()),((a0.2.1.length:Int),()),((),()),()),(),())) (fun y3 =>
              let r5:=yfT y3.1.1.1
              some ((r5,true,()),())) (fun y3 =>
              none)
          else none
      else
        some (([],false,()),())
    else
      some (([],false,()),())
  else
    some (([],false,()),())
theorem yH8 (x:InD ydS):zjH ⟨ykC,49,ysf⟩ Try.f80.results.toList ygB ydS ykJ x=yhV x.1 x.2.1:=by kernel_rfl
theorem yDZ:ConOk Try.prog 80 ⟨ydS,ykJ,fun x=>yhV x.1 x.2.1⟩:=zkh (yAL) Try.func80 (by kernel_rfl) (by kernel_rfl) Try.ntmps80.symm (by decide) (fun x r h=>(yH8 x).trans h)
def yhh (a0:dM) (a1:Int):List Int×Bool:=ye8 a0 a1
theorem yGq (a0:dM) (a1:Int) (hk:zi9 ydS (a0,a1,())):yhV a0 a1=(fun n=>some ((n.1,n.2,()),())) (yhh a0 a1):=by
  have hb1:a0.1.length * 24≤2 ^ 47:=hk.1.1.1
  have hb2:a0.2.1.length * 32≤2 ^ 47:=hk.1.2.1.1
  have h1: ∀ s,yln (yzQ a1 s a0.2.1 a0.2.1.length)=some (.inl (yqF (yeL a1 a0.2.1 s))):=fun s =>
    zkk (step:=yaM) a0.2.1 (0,[]) (fun i s=>ykg a1 s a0.2.1 a0.2.1.length i) (fun s w=>bif w.1==a1 then w.2 else s) (fun _ _=>True) (fun s=> .inl (yqF s)) (fun i s hi _=>⟨by
      simp only [yaM,ykg,ykt,zjI (show (i:Int) < a0.2.1.length by omega),cond_true,wr (show -9223372036854775808≤(i:Int)+1 by omega) (by omega),Int.natCast_add,Int.natCast_one,Int.toNat_natCast,zkO hi,zjW]
      cases ((a0.2.1.getD i (0,[])).1==a1)<;>rfl,trivial⟩) (fun s _=>by simp only [yaM,ykg,ykt,zkm (Int.le_refl _),cond_false]) s trivial _ (by show _ < 18446744073709551616; omega)
  unfold yhV yhh ye8 ysa ycg
  rw [yaj,yl3 (show a0.1.length≤1152921504606846976 by omega)]
  unfold yeH ybo yfT
  simp only [h1,zkJ]
  cases ym a0
  · rfl
  cases a0.2.2.1
  · cases inb a1 a0.1.length
    · rfl
    · cases a0.2.2.2.any (· ==a1)<;>rfl
  · rfl
def ysL:Con:=⟨ydS,ykJ,fun x=>(fun n=>some ((n.1,n.2,()),())) (yhh x.1 x.2.1)⟩
theorem yHg:ConOk Try.prog 80 ysL:=(yDZ).mono (fun x r hk h=>(yGq x.1 x.2.1 hk).trans h)
end
section
def yxK:Code:=(Try.f81.body).getD .skip
def yya:Env:=zki TT [(39,yD)] []
theorem yCA:FrOk Try.prog ⟨yya,34,fun _=>none⟩ yxK:=zkp yc yd ⟨yS,trivial⟩
def yEI:Nat→Option Seg:=fun _=>none
abbrev yeU:List Par:= [.rd tA,.rd tI,.rd tI]
abbrev ymk:List OT:= [⟨false,tB,.fz⟩]
def yjC (a0:dA) (a1:Int) (a2:Int):Option (ResD ymk×MutD yeU) :=
  let r1:=yi a1 0 (IntKind.i64.wrap ((a0.2.2.1.length:Int) - 1))
  bif r1 then
    bif (inb a1 a0.2.2.1.length) then
      bif (!((((nth a0.2.2.1 a1 ([],[],false,[])).2).2).1)) then
        bif (!(a0.2.2.2.1 !=a1)) then
          some (((ltb a2 a0.2.2.2.2.1),()),())
        else
          some ((true,()),())
      else
        some ((false,()),())
    else none
  else
    some ((false,()),())
theorem yKu (x:InD yeU):zjH ⟨yya,34,yEI⟩ Try.f81.results.toList yxK yeU ymk x=yjC x.1 x.2.1 x.2.2.1:=by kernel_rfl
theorem yGK:ConOk Try.prog 81 ⟨yeU,ymk,fun x=>yjC x.1 x.2.1 x.2.2.1⟩:=zkh (yCA) Try.func81 (by kernel_rfl) (by kernel_rfl) Try.ntmps81.symm (by decide) (fun x r h=>(yKu x).trans h)
def yiJ (a0:dA) (a1 a2:Int):Bool:=yaV a0 a1 a2
theorem yIB (a0:dA) (a1 a2:Int) (hk:zi9 yeU (a0,a1,a2,())):yjC a0 a1 a2=(fun n=>some ((n,()),())) (yiJ a0 a1 a2):=by
  have hb:a0.2.2.1.length * 80≤2 ^ 47:=hk.1.2.2.1.1
  unfold yjC yiJ yaV noMem
  rw [yaj,yl3 (show a0.2.2.1.length≤1152921504606846976 by omega),bne_comm]
  cases inb a1 a0.2.2.1.length
  · rfl
  · cases (nth a0.2.2.1 a1 ([],[],false,[])).2.2.1<;>cases (a1 !=a0.2.2.2.1)<;>rfl
def yu1:Con:=⟨yeU,ymk,fun x=>(fun n=>some ((n,()),())) (yiJ x.1 x.2.1 x.2.2.1)⟩
theorem yJp:ConOk Try.prog 81 yu1:=(yGK).mono (fun x r hk h=>(yIB x.1 x.2.1 x.2.2.1 hk).trans h)
end
section
def yxQ:Code:=(Try.f37.body).getD .skip
def yyg:Env:=zki TT [(69,yuZ),(80,ysL),(81,yu1)] []
theorem yCI:FrOk Try.prog ⟨yyg,38,fun _=>none⟩ yxQ:=zkp yc yd ⟨yJn,yHg,yJp,trivial⟩
def yEO:Nat→Option Seg:=fun _=>none
abbrev ydh:List Par:= [.rd tA,.rd tI,.rd tI]
abbrev yiC:List OT:= [⟨false,tI,.fz⟩,⟨false,tB,.fz⟩]
def yjE (a0:dA) (a1:Int) (a2:Int):Option (ResD yiC×MutD ydh) :=
  bif (inb a1 a0.2.2.1.length) then
    let r1:=ymL a2
    let r2:=yhh ((nth a0.2.2.1 a1 ([],[],false,[])).1,((nth a0.2.2.1 a1 ([],[],false,[])).2).1,(((nth a0.2.2.1 a1 ([],[],false,[])).2).2)) r1
    let r3:=yiJ a0 a1 a2
    bif (!(!r3)) then
      bif (!(!r2.2)) then
        bif ((r2.1.length:Int) !=1) then
          some ((0,false,()),())
        else
          bif (inb 0 r2.1.length) then
            some (((nth r2.1 0 0),true,()),())
          else none
      else
        some ((0,false,()),())
    else
      some ((0,false,()),())
  else none
theorem yKB (x:InD ydh):zjH ⟨yyg,38,yEO⟩ Try.f37.results.toList yxQ ydh yiC x=yjE x.1 x.2.1 x.2.2.1:=by kernel_rfl
theorem yGR:ConOk Try.prog 37 ⟨ydh,yiC,fun x=>yjE x.1 x.2.1 x.2.2.1⟩:=zkh (yCI) Try.func37 (by kernel_rfl) (by kernel_rfl) Try.ntmps37.symm (by decide) (fun x r h=>(yKB x).trans h)
def ye6 (a0:dA) (a1 a2:Int):Int×Bool:=(ykB a0 a1 a2,yj a0 a1 a2)
def yqW (a0:dA) (a1 a2:Int):Bool:=inb a1 a0.2.2.1.length
theorem yII (a0:dA) (a1 a2:Int) (hk:zi9 ydh (a0,a1,a2,())) (hq:yqW a0 a1 a2=true):yjE a0 a1 a2=(fun n=>some ((n.1,n.2,()),())) (ye6 a0 a1 a2):=by
  unfold yjE ye6 ykB yiJ
  simp only [zkV,yIv,yhh]
  rw [show yj a0 a1 a2=(yaV a0 a1 a2&&((ybA a0 a1 a2).2&&((ybA a0 a1 a2).1.length:Int)==1)) from rfl]
  rw [show ye8 (nth a0.2.2.1 a1 ([],[],false,[])) (dataAt a2)=ybA a0 a1 a2 from rfl]
  rw [show inb a1 a0.2.2.1.length=true from hq]
  cases hl:yaV a0 a1 a2
  · rfl
  · cases (ybA a0 a1 a2).2
    · rfl
    · rw [bne]
      cases h1:(((ybA a0 a1 a2).1.length:Int)==1)
      · rfl
      · rw [show inb 0 (ybA a0 a1 a2).1.length=true from zjP.2 (by have:=beq_iff_eq.1 h1; omega)]; rfl
def yiR (a0:dA) (a1:Int) (a2:Int):Option (ResD yiC×MutD ydh):=bif yqW a0 a1 a2 then (fun n=>some ((n.1,n.2,()),())) (ye6 a0 a1 a2) else none
theorem yw7 (a0:dA) (a1:Int) (a2:Int) (h:yqW a0 a1 a2=true):yiR a0 a1 a2=(fun n=>some ((n.1,n.2,()),())) (ye6 a0 a1 a2):=by unfold yiR; rw [h]; rfl
def yoK:Con:=⟨ydh,yiC,fun x=>yiR x.1 x.2.1 x.2.2.1⟩
theorem yw3:ConOk Try.prog 37 yoK:=(yGR).mono (fun x r hk h=>zkW h (fun hq=>yII x.1 x.2.1 x.2.2.1 hk hq))
end
section
def yjT:Code:=(Try.f11.body).getD .skip
def yn3:Env:=zki TT [] []
theorem yFL:FrOk Try.prog ⟨yn3,17,fun _=>none⟩ yjT:=zkp yc yd trivial
def yv9:Nat→Option Seg:=fun _=>none
def ybI:Shape:=⟨[(3,false,[.int .i64]),(6,false,[.br tI]),(7,false,[.int .i64]),(8,false,[.int .i64])],[],[]⟩
def yfw:Shape:=⟨[(3,false,[.ci .i64 0]),(6,false,[.br tI]),(7,false,[.int .i64]),(8,false,[.ci .i64 0])],[],[]⟩
def yfj:Shape:=⟨[(3,false,[.int .i64])],[],[]⟩
def yjk:Shape:=⟨[],[],[]⟩
abbrev yng (v0:Int) (v1:List Int) (v2:Int) (v3:Int):(ybI).X:=(((v0,()),(v1,()),(v2,()),(v3,()),()),(),())
abbrev yDw (v0:List Int) (v1:Int):(yfw).X:=((((),()),(v0,()),(v1,()),((),()),()),(),())
abbrev ytt (v0:Int):(yfj).X:=(((v0,()),()),(),())
def ynx (v0:Int) (v1:List Int) (v2:Int) (v3:Int):Option ((ybI).X ⊕ ((yfj).X ⊕ (yjk).X)) :=
  bif (ltb v3 v2) then
    bif (inb v3 v1.length) then
      some (.inl ((((IntKind.i64.wrap ((BitVec.ofInt IntKind.i64.bits v0 ^^^ BitVec.ofInt IntKind.i64.bits (nth v1 v3 0)).toNat:Int)),()),(v1,()),(v2,()),((IntKind.i64.wrap (v3+1)),()),()),(),()))
    else none
  else
    some (.inr (.inl (((v0,()),()),(),())))
def yb5 (x:(ybI).X):=ynx x.1.1.1 x.1.2.1.1 x.1.2.2.1.1 x.1.2.2.2.1.1
def ys2 (x:(yfw).X):(ybI).X:=(((0,()),(x.1.2.1.1,()),(x.1.2.2.1.1,()),(0,()),()),(),())
def yuO:Code:=(zdI yjT 64 116).getD .skip
theorem yE9:zdI yjT 64 29=some (.block 0 (.loop yuO)):=by kernel_rfl
theorem yHC (x:(ybI).X):zg7 ⟨yn3,17,yv9⟩ 0 yuO 116 ybI yfj yjk x=yb5 x:=by kernel_rfl
def yth (x:(yfw).X):Nat:=(fun (u0:List Int) (u1:Int)=>18446744073709551616) x.1.2.1.1 x.1.2.2.1.1
def yoe (x:(yfw).X):Option ((yfj).X ⊕ (yjk).X):=zr yb5 (yth x) (ys2 x)
def ytO:Seg:=⟨yfw,yfj,yjk,yoe⟩
def ywa:Nat→Option Seg:=fun q=>bif Nat.beq q 29 then some ytO else yv9 q
theorem yFM:FrOk Try.prog ⟨yn3,17,ywa⟩ yjT:=(yFL).loop (sg:=ytO) ybI ys2 (by decide) yE9 yb5 yth (by decide) (fun _=>rfl) (fun x r _ h=>h) yHC
abbrev ygN:List Par:= [.rd tL]
abbrev you:List OT:= [⟨false,tI,.fz⟩]
def yla (a0:List Int):Option (ResD you×MutD ygN) :=
  zjw (yoe ((((),()),(a0,()),((a0.length:Int),()),((),()),()),(),())) (fun y0 =>
    some ((y0.1.1.1,()),())) (fun y0 =>
    none)
theorem yLS (x:InD ygN):zjH ⟨yn3,17,ywa⟩ Try.f11.results.toList yjT ygN you x=yla x.1:=by kernel_rfl
theorem yI7:ConOk Try.prog 11 ⟨ygN,you,fun x=>yla x.1⟩:=zkh (yFM) Try.func11 (by kernel_rfl) (by kernel_rfl) Try.ntmps11.symm (by decide) (fun x r h=>(yLS x).trans h)
def ybV (a0:List Int):Int:=xorOf a0
theorem yK6 (a0:List Int) (hk:zi9 ygN (a0,())):yla a0=(fun n=>some ((n,()),())) (ybV a0):=by
  have hb:a0.length * 8≤2 ^ 47:=hk.1.1
  have h1:yoe (yDw a0 a0.length)=some (.inl (ytt (xorOf a0))) :=
    zkk (step:=yb5) a0 0 (fun i s=>yng s a0 a0.length i) xw (fun _ _=>True) (fun s=> .inl (ytt s)) (fun i s hi _=>⟨by
      simp only [yb5,yng,ynx,zjI (show (i:Int) < a0.length by omega),cond_true,wr (show -9223372036854775808≤(i:Int)+1 by omega) (by omega),Int.natCast_add,Int.natCast_one,Int.toNat_natCast,zkO hi,zjW]; rfl,trivial⟩) (fun s _=>by simp only [yb5,yng,ynx,zkm (Int.le_refl _),cond_false]) 0 trivial _ (by show _ < 18446744073709551616; omega)
  unfold yla ybV
  rw [h1]; rfl
def ykX:Con:=⟨ygN,you,fun x=>(fun n=>some ((n,()),())) (ybV x.1)⟩
theorem yqV:ConOk Try.prog 11 ykX:=(yI7).mono (fun x r hk h=>(yK6 x.1 hk).trans h)
end
end
end Go.Tf
