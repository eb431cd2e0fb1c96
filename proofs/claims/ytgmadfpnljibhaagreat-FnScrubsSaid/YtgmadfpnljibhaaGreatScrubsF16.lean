/- Functions of the program, and what they come to. -/
import Derived.Test.YtgmadfpnljibhaaGreatScrubsF15
namespace Go.Tf
noncomputable section
open Go.Proofs
set_option synthInstance.maxHeartbeats 400000
set_option synthInstance.maxSize 10000
set_option linter.unusedVariables false
set_option linter.unusedSimpArgs false
set_option maxRecDepth 100000
section
def ydS:Code:=(Tryz.f275.body).getD .skip
def yg6:Env:=zki TT [] []
theorem yEa:FrOk Tryz.prog ⟨yg6,19,fun _=>none⟩ ydS:=zkp yc yd trivial
def ysr:Nat→Option Seg:=fun _=>none
def yaf:Shape:=⟨[(0,false,[.br tI]),(1,false,[.int .i64]),(7,false,[.int .i64]),(8,false,[.int .i64])],[],[]⟩
def ybX:Shape:=⟨[(0,false,[.br tI]),(1,false,[.int .i64]),(7,false,[.int .i64]),(8,false,[.ci .i64 0])],[],[]⟩
def ybV:Shape:=⟨[],[],[]⟩
def ybZ:Shape:=⟨[(4,false,[.int .i64])],[],[]⟩
abbrev yij (v0:List Int) (v1:Int) (v2:Int) (v3:Int):(yaf).X:=(((v0,()),(v1,()),(v2,()),(v3,()),()),(),())
abbrev yCI (v0:List Int) (v1:Int) (v2:Int):(ybX).X:=(((v0,()),(v1,()),(v2,()),((),()),()),(),())
abbrev yCG  :(ybV).X:=((),(),())
abbrev yqa (v0:Int):(ybZ).X:=(((v0,()),()),(),())
def yin (v0:List Int) (v1:Int) (v2:Int) (v3:Int):Option ((yaf).X ⊕ ((ybV).X ⊕ (ybZ).X)) :=
  bif (ltb v3 v2) then
    bif (inb v3 v0.length) then
      bif (v1==(nth v0 v3 0)) then
        some (.inr (.inr (((v3,()),()),(),())))
      else
        some (.inl (((v0,()),(v1,()),(v2,()),((IntKind.i64.wrap (v3+1)),()),()),(),()))
    else none
  else
    some (.inr (.inl ((),(),())))
def yaq (x:(yaf).X):=yin x.1.1.1 x.1.2.1.1 x.1.2.2.1.1 x.1.2.2.2.1.1
def yp5 (x:(ybX).X):(yaf).X:=(((x.1.1.1,()),(x.1.2.1.1,()),(x.1.2.2.1.1,()),(0,()),()),(),())
def ysg:Code:=(zdI ydS 64 52).getD .skip
theorem yDK:zdI ydS 64 13=some (.block 0 (.loop ysg)):=by kernel_rfl
theorem yEu (x:(yaf).X):zg7 ⟨yg6,19,ysr⟩ 0 ysg 52 yaf ybV ybZ x=yaq x:=by kernel_rfl
def yp7 (x:(ybX).X):Nat:=(fun (u0:List Int) (u1:Int) (u2:Int)=>18446744073709551616) x.1.1.1 x.1.2.1.1 x.1.2.2.1.1
def yi3 (x:(ybX).X):Option ((ybV).X ⊕ (ybZ).X):=zr yaq (yp7 x) (yp5 x)
def yqe:Seg:=⟨ybX,ybV,ybZ,yi3⟩
def yss:Nat→Option Seg:=fun q=>bif Nat.beq q 13 then some yqe else ysr q
theorem yEb:FrOk Tryz.prog ⟨yg6,19,yss⟩ ydS:=(yEa).loop (sg:=yqe) yaf yp5 (by decide) yDK yaq yp7 (by decide) (fun _=>rfl) (fun x r _ h=>h) yEu
abbrev ybS:List Par:= [.rd tL,.rd tI]
abbrev yhM:List OT:= [⟨false,tI,.fz⟩]
def yfk (a0:List Int) (a1:Int):Option (ResD yhM×MutD ybS) :=
  zjw (yi3 (((a0,()),(a1,()),((a0.length:Int),()),((),()),()),(),())) (fun y0 =>
    some (((-1),()),())) (fun y0 =>
    some ((y0.1.1.1,()),()))
theorem yHy (x:InD ybS):zjH ⟨yg6,19,yss⟩ Tryz.f275.results.toList ydS ybS yhM x=yfk x.1 x.2.1:=by kernel_rfl
theorem yE0:ConOk Tryz.prog 275 ⟨ybS,yhM,fun x=>yfk x.1 x.2.1⟩:=zkh (yEb) Tryz.func275 (by kernel_rfl) (by kernel_rfl) Tryz.ntmps275.symm (by decide) (fun x r h=>(yHy x).trans h)
def yTd (l:List Int) (x:Int):Int:=bif l.any (· ==x) then ((l.takeWhile (· !=x)).length:Int) else -1
def yd9 (a0:List Int) (a1:Int):Int:=yTd a0 a1
theorem yYT {A B α:Type} {step:A→Option (A ⊕ B)} (l:List α) (d:α) (f:Nat→A) (p:α→Bool) (b:Nat→B) (c:B)
    (h: ∀ i,i < l.length→step (f i)=some (bif p (l.getD i d) then .inr (b i) else .inl (f (i+1)))) (e:step (f l.length)=some (.inr c)) (fuel:Nat) (hf:l.length < fuel) :
    zr step fuel (f 0)=some (bif l.any p then b (l.takeWhile (fun x=> !p x)).length else c):=by
  have: ∀ (t q:List α) (fuel:Nat),q++t=l→t.length < fuel→zr step fuel (f q.length)=some (bif t.any p then b (q.length+(t.takeWhile (fun x=> !p x)).length) else c):=by
    intro t
    induction t with
    | nil =>
      intro q fuel hq hf
      obtain ⟨fuel,rfl⟩: ∃ m,fuel=m+1:=⟨fuel - 1,by omega⟩
      rw [List.append_nil]at hq
      subst hq
      simp only [zr,e,List.any_nil,cond_false]
    | cons x t ih =>
      intro q fuel hq hf
      obtain ⟨fuel,rfl⟩: ∃ m,fuel=m+1:=⟨fuel - 1,by omega⟩
      have hx:l.getD q.length d=x:=by
        subst hq
        rw [zcq (by simp)]; simp
      have hs:=h q.length (by rw [← hq]; simp)
      rw [hx]at hs
      cases hp:p x
      · rw [hp]at hs
        have:=ih (q++ [x]) fuel (by rw [← hq]; simp) (by simp at hf; omega)
        simp only [List.length_append,List.length_cons,List.length_nil]at this
        simp only [zr,hs,cond_false]
        simp only [List.any_cons,hp,Bool.false_or,List.takeWhile_cons,Bool.not_false,if_true,List.length_cons]
        rw [show q.length+((t.takeWhile (fun x=> !p x)).length+1)=q.length+(0+1)+(t.takeWhile (fun x=> !p x)).length by omega]
        exact this
      · rw [hp]at hs
        simp only [zr,hs,cond_true,List.any_cons,hp,Bool.true_or,List.takeWhile_cons,Bool.not_true,Bool.false_eq_true,if_false,List.length_nil,Nat.add_zero]
  have:=this l [] fuel rfl hf
  simpa using this
theorem yGH (a0:List Int) (a1:Int) (hk:zi9 ybS (a0,a1,())):yfk a0 a1=(fun n=>some ((n,()),())) (yd9 a0 a1):=by
  have hb:a0.length * 8≤2 ^ 47:=hk.1.1
  have h1:yi3 (yCI a0 a1 a0.length)=some (bif a0.any (· ==a1) then .inr (yqa ((a0.takeWhile (fun x=> !(x==a1))).length:Int)) else .inl yCG) :=
    yYT (step:=yaq) a0 0 (fun i=>yij a0 a1 a0.length i) (· ==a1) (fun i=> .inr (yqa (i:Int))) _ (fun i hi=>by
      simp only [yaq,yij,yin,zjI (show (i:Int) < a0.length by omega),cond_true,wr (show -9223372036854775808≤(i:Int)+1 by omega) (by omega),Int.natCast_add,Int.natCast_one,Int.toNat_natCast,zkO hi,zjW]
      rw [show (a1==a0.getD i 0)=(a0.getD i 0==a1) by rw [Bool.eq_iff_iff,beq_iff_eq,beq_iff_eq]; exact eq_comm]
      cases (a0.getD i 0==a1)<;>rfl) (by simp only [yaq,yij,yin,zkm (Int.le_refl _),cond_false]) _ (by show _ < 18446744073709551616; omega)
  unfold yfk yd9 yTd
  rw [h1]
  cases a0.any (· ==a1)<;>rfl
def ytx:Con:=⟨ybS,yhM,fun x=>(fun n=>some ((n,()),())) (yd9 x.1 x.2.1)⟩
theorem yGL:ConOk Tryz.prog 275 ytx:=(yE0).mono (fun x r hk h=>(yGH x.1 x.2.1 hk).trans h)
end
section
def yse:Code:=(Tryz.f236.body).getD .skip
def ysf:Env:=zki TT [(275,ytx)] []
theorem yzk:FrOk Tryz.prog ⟨ysf,9,fun _=>none⟩ yse:=zkp yc yd ⟨yGL,trivial⟩
def yAq:Nat→Option Seg:=fun _=>none
abbrev yaM:List Par:= [.rd tL,.rd tI]
abbrev yew:List OT:= [⟨false,tB,.fz⟩]
def ydf (a0:List Int) (a1:Int):Option (ResD yew×MutD yaM) :=
  let r1:=yd9 a0 a1
  some (((leb 0 r1),()),())
theorem yD8 (x:InD yaM):zjH ⟨ysf,9,yAq⟩ Tryz.f236.results.toList yse yaM yew x=ydf x.1 x.2.1:=by kernel_rfl
theorem yAs:ConOk Tryz.prog 236 ⟨yaM,yew,fun x=>ydf x.1 x.2.1⟩:=zkh (yzk) Tryz.func236 (by kernel_rfl) (by kernel_rfl) Tryz.ntmps236.symm (by decide) (fun x r h=>(yD8 x).trans h)
def yb4 (a0:List Int) (a1:Int):Bool:=a0.any (· ==a1)
theorem yCK (a0:List Int) (a1:Int) (hk:zi9 yaM (a0,a1,())):ydf a0 a1=(fun n=>some ((n,()),())) (yb4 a0 a1):=by
  unfold ydf yb4 yd9 yTd
  cases a0.any (· ==a1)
  · rfl
  · simp only [cond_true]
    rw [zk0 (show (0:Int)≤((a0.takeWhile (· !=a1)).length:Int) by omega)]
def ypg:Con:=⟨yaM,yew,fun x=>(fun n=>some ((n,()),())) (yb4 x.1 x.2.1)⟩
theorem yCL:ConOk Tryz.prog 236 ypg:=(yAs).mono (fun x r hk h=>(yCK x.1 x.2.1 hk).trans h)
end
section
def yiV:Code:=(Tryz.f156.body).getD .skip
def yoo:Env:=zki TT [(133,yuT),(200,ypq),(220,ytw),(236,ypg)] []
theorem yJn:FrOk Tryz.prog ⟨yoo,49,fun _=>none⟩ yiV:=zkp yc yd ⟨yGh,yzP,yEm,yCL,trivial⟩
def yyd:Nat→Option Seg:=fun _=>none
def ybd:Shape:=⟨[(1,false,[.int .i64]),(6,false,[.br tI]),(34,false,[.br tW]),(35,false,[.int .i64]),(36,false,[.int .i64])],[],[]⟩
def ye0:Shape:=⟨[(1,false,[.int .i64]),(6,false,[.br tI]),(34,false,[.br tW]),(35,false,[.int .i64]),(36,false,[.ci .i64 0])],[],[]⟩
def yeS:Shape:=⟨[(6,false,[.br tI])],[],[]⟩
def yiw:Shape:=⟨[],[],[]⟩
abbrev ynZ (v0:Int) (v1:List Int) (v2:List dW) (v3:Int) (v4:Int):(ybd).X:=(((v0,()),(v1,()),(v2,()),(v3,()),(v4,()),()),(),())
abbrev yIe (v0:Int) (v1:List Int) (v2:List dW) (v3:Int):(ye0).X:=(((v0,()),(v1,()),(v2,()),(v3,()),((),()),()),(),())
abbrev ywj (v0:List Int):(yeS).X:=(((v0,()),()),(),())
def yof (v0:Int) (v1:List Int) (v2:List dW) (v3:Int) (v4:Int):Option ((ybd).X ⊕ ((yeS).X ⊕ (yiw).X)) :=
  bif (ltb v4 v3) then
    bif (inb v4 v2.length) then
      bif ((nth v2 v4 (0,[])).1==v0) then
        some (.inl (((v0,()),((nth v2 v4 (0,[])).2,()),(v2,()),(v3,()),((IntKind.i64.wrap (v4+1)),()),()),(),()))
      else
        some (.inl (((v0,()),(v1,()),(v2,()),(v3,()),((IntKind.i64.wrap (v4+1)),()),()),(),()))
    else none
  else
    some (.inr (.inl (((v1,()),()),(),())))
def ybp (x:(ybd).X):=yof x.1.1.1 x.1.2.1.1 x.1.2.2.1.1 x.1.2.2.2.1.1 x.1.2.2.2.2.1.1
def yvU (x:(ye0).X):(ybd).X:=(((x.1.1.1,()),(x.1.2.1.1,()),(x.1.2.2.1.1,()),(x.1.2.2.2.1.1,()),(0,()),()),(),())
def ywZ:Code:=(zdI yiV 64 244).getD .skip
theorem yJa:zdI yiV 64 61=some (.block 0 (.loop ywZ)):=by kernel_rfl
theorem yKD (x:(ybd).X):zg7 ⟨yoo,49,yyd⟩ 0 ywZ 244 ybd yeS yiw x=ybp x:=by kernel_rfl
def yv7 (x:(ye0).X):Nat:=(fun (u0:Int) (u1:List Int) (u2:List dW) (u3:Int)=>18446744073709551616) x.1.1.1 x.1.2.1.1 x.1.2.2.1.1 x.1.2.2.2.1.1
def ypj (x:(ye0).X):Option ((yeS).X ⊕ (yiw).X):=zr ybp (yv7 x) (yvU x)
def ywo:Seg:=⟨ye0,yeS,yiw,ypj⟩
def yye:Nat→Option Seg:=fun q=>bif Nat.beq q 61 then some ywo else yyd q
theorem yJo:FrOk Tryz.prog ⟨yoo,49,yye⟩ yiV:=(yJn).loop (sg:=ywo) ybd yvU (by decide) yJa ybp yv7 (by decide) (fun _=>rfl) (fun x r _ h=>h) yKD
abbrev yfp:List Par:= [.rd tM,.rd tI]
abbrev yoz:List OT:= [⟨false,tL,(.ow .fz)⟩,⟨false,tB,.fz⟩]
def ykF (a0:dM) (a1:Int):Option (ResD yoz×MutD yfp) :=
  let r1:=ygo a0
  bif (!(!r1)) then
    bif (!a0.2.2.1) then
      let r2:=yda a0 a1
      bif (!(!r2)) then
        let r3:=yb4 a0.2.2.2 a1
        bif r3 then
          some (([],false,()),())
        else
          bif (inb a1 a0.1.length) then
            zjw (ypj (((a1,()),((nth a0.1 a1 []),()),(a0.2.1,()),((a0.2.1.length:Int),()),((),()),()),(),())) (fun y3 =>
              let r5:=ycF y3.1.1.1
              some ((r5,true,()),())) (fun y3 =>
              none)
          else none
      else
        some (([],false,()),())
    else
      some (([],false,()),())
  else
    some (([],false,()),())
theorem ySF (x:InD yfp):zjH ⟨yoo,49,yye⟩ Tryz.f156.results.toList yiV yfp yoz x=ykF x.1 x.2.1:=by kernel_rfl
theorem yNk:ConOk Tryz.prog 156 ⟨yfp,yoz,fun x=>ykF x.1 x.2.1⟩:=zkh (yJo) Tryz.func156 (by kernel_rfl) (by kernel_rfl) Tryz.ntmps156.symm (by decide) (fun x r h=>(ySF x).trans h)
def yjU (a0:dM) (a1:Int):List Int×Bool:=ygZ a0 a1
theorem yQy (a0:dM) (a1:Int) (hk:zi9 yfp (a0,a1,())):ykF a0 a1=(fun n=>some ((n.1,n.2,()),())) (yjU a0 a1):=by
  have hb1:a0.1.length * 24≤2 ^ 47:=hk.1.1.1
  have hb2:a0.2.1.length * 32≤2 ^ 47:=hk.1.2.1.1
  have h1: ∀ s,ypj (yIe a1 s a0.2.1 a0.2.1.length)=some (.inl (ywj (ygw a1 a0.2.1 s))):=fun s =>
    zkk (step:=ybp) a0.2.1 (0,[]) (fun i s=>ynZ a1 s a0.2.1 a0.2.1.length i) (fun s w=>bif w.1==a1 then w.2 else s) (fun _ _=>True) (fun s=> .inl (ywj s)) (fun i s hi _=>⟨by
      simp only [ybp,ynZ,yof,zjI (show (i:Int) < a0.2.1.length by omega),cond_true,wr (show -9223372036854775808≤(i:Int)+1 by omega) (by omega),Int.natCast_add,Int.natCast_one,Int.toNat_natCast,zkO hi,zjW]
      cases ((a0.2.1.getD i (0,[])).1==a1)<;>rfl,trivial⟩) (fun s _=>by simp only [ybp,ynZ,yof,zkm (Int.le_refl _),cond_false]) s trivial _ (by show _ < 18446744073709551616; omega)
  unfold ykF yjU ygZ yx7 yda
  rw [yat,yp9 (show a0.1.length≤1152921504606846976 by omega)]
  unfold ygo yb4 ycF
  simp only [h1,zkJ]
  cases ym a0
  · rfl
  cases a0.2.2.1
  · cases inb a1 a0.1.length
    · rfl
    · cases a0.2.2.2.any (· ==a1)<;>rfl
  · rfl
def yyP:Con:=⟨yfp,yoz,fun x=>(fun n=>some ((n.1,n.2,()),())) (yjU x.1 x.2.1)⟩
theorem yRw:ConOk Tryz.prog 156 yyP:=(yNk).mono (fun x r hk h=>(yQy x.1 x.2.1 hk).trans h)
end
section
def yFk:Code:=(Tryz.f117.body).getD .skip
def yFV:Env:=zki TT [(47,yBH),(108,yBF),(156,yyP)] []
theorem yLJ:FrOk Tryz.prog ⟨yFV,38,fun _=>none⟩ yFk:=zkp yc yd ⟨yUi,yUg,yRw,trivial⟩
def yOg:Nat→Option Seg:=fun _=>none
abbrev yeG:List Par:= [.rd tA,.rd tI,.rd tI]
abbrev ylr:List OT:= [⟨false,tI,.fz⟩,⟨false,tB,.fz⟩]
def ym3 (a0:dA) (a1:Int) (a2:Int):Option (ResD ylr×MutD yeG) :=
  bif (inb a1 a0.2.2.1.length) then
    let r1:=yq0 a2
    let r2:=yjU ((nth a0.2.2.1 a1 ([],[],false,[])).1,((nth a0.2.2.1 a1 ([],[],false,[])).2).1,(((nth a0.2.2.1 a1 ([],[],false,[])).2).2)) r1
    let r3:=ylB a0 a1 a2
    bif (!(!r3)) then
      bif (!(!r2.2)) then
        bif ((r2.1.length:Int) !=1) then
          some ((0,false,()),())
        else
          bif (inb 0 r2.1.length) then
            some (((nth r2.1 0 0),true,()),())
          else none
      else
        some ((0,false,()),())
    else
      some ((0,false,()),())
  else none
theorem yVy (x:InD yeG):zjH ⟨yFV,38,yOg⟩ Tryz.f117.results.toList yFk yeG ylr x=ym3 x.1 x.2.1 x.2.2.1:=by kernel_rfl
theorem yQ2:ConOk Tryz.prog 117 ⟨yeG,ylr,fun x=>ym3 x.1 x.2.1 x.2.2.1⟩:=zkh (yLJ) Tryz.func117 (by kernel_rfl) (by kernel_rfl) Tryz.ntmps117.symm (by decide) (fun x r h=>(yVy x).trans h)
def yeM (a0:dA) (a1 a2:Int):Int×Bool:=(ygx a0 a1 a2,yl a0 a1 a2)
def ywD (a0:dA) (a1 a2:Int):Bool:=inb a1 a0.2.2.1.length
theorem yTq (a0:dA) (a1 a2:Int) (hk:zi9 yeG (a0,a1,a2,())) (hq:ywD a0 a1 a2=true):ym3 a0 a1 a2=(fun n=>some ((n.1,n.2,()),())) (yeM a0 a1 a2):=by
  unfold ym3 yeM ygx ylB
  simp only [zkV,yTc,yjU]
  rw [show yl a0 a1 a2=(yby a0 a1 a2&&((yci a0 a1 a2).2&&((yci a0 a1 a2).1.length:Int)==1)) from rfl]
  rw [show ygZ (nth a0.2.2.1 a1 ([],[],false,[])) (dataAt a2)=yci a0 a1 a2 from rfl]
  rw [show inb a1 a0.2.2.1.length=true from hq]
  cases hl:yby a0 a1 a2
  · rfl
  · cases (yci a0 a1 a2).2
    · rfl
    · rw [bne]
      cases h1:(((yci a0 a1 a2).1.length:Int)==1)
      · rfl
      · rw [show inb 0 (yci a0 a1 a2).1.length=true from zjP.2 (by have:=beq_iff_eq.1 h1; omega)]; rfl
def ygX (a0:dA) (a1:Int) (a2:Int):Option (ResD ylr×MutD yeG):=bif ywD a0 a1 a2 then (fun n=>some ((n.1,n.2,()),())) (yeM a0 a1 a2) else none
theorem yva (a0:dA) (a1:Int) (a2:Int) (h:ywD a0 a1 a2=true):ygX a0 a1 a2=(fun n=>some ((n.1,n.2,()),())) (yeM a0 a1 a2):=by unfold ygX; rw [h]; rfl
def ymQ:Con:=⟨yeG,ylr,fun x=>ygX x.1 x.2.1 x.2.2.1⟩
theorem yu4:ConOk Tryz.prog 117 ymQ:=(yQ2).mono (fun x r hk h=>zkW h (fun hq=>yTq x.1 x.2.1 x.2.2.1 hk hq))
end
section
def ykY:Code:=(Tryz.f31.body).getD .skip
def yqi:Env:=zki TT [(45,yjM),(116,yb0),(117,ymQ)] []
theorem yLC:FrOk Tryz.prog ⟨yqi,41,fun _=>none⟩ ykY:=zkp yc yd ⟨yq5,yfd,yu4,trivial⟩
def yAL:Nat→Option Seg:=fun _=>none
def ybE:Shape:=⟨[(1,false,[.int .i64]),(2,false,[.ptr 0 0]),(5,false,[.int .i64]),(24,false,[.int .i64]),(25,false,[.int .i64])],[(0,[.int .i64,.int .i64,.int .i64,.br tM,.int .i64,.int .i64,.int .i64,.int .i64,.int .i64,.br tW,.int .i64,.bool,.bool])],[]⟩
def yf7:Shape:=⟨[(1,false,[.int .i64]),(2,false,[.ptr 0 0]),(5,false,[.ci .i64 0]),(24,false,[.int .i64]),(25,false,[.ci .i64 0])],[(0,[.int .i64,.int .i64,.int .i64,.br tM,.int .i64,.int .i64,.int .i64,.int .i64,.int .i64,.br tW,.int .i64,.bool,.bool])],[]⟩
def yfV:Shape:=⟨[(5,false,[.int .i64])],[],[]⟩
def yko:Shape:=⟨[],[],[]⟩
abbrev ypz (v0:Int) (v1:Int) (v2:Int) (v3:Int) (v4:dA):(ybE).X:=(((v0,()),((),()),(v1,()),(v2,()),(v3,()),()),((v4.1,v4.2.1.1,v4.2.1.2,v4.2.2.1,v4.2.2.2.1,v4.2.2.2.2.1,v4.2.2.2.2.2.1,v4.2.2.2.2.2.2.1,v4.2.2.2.2.2.2.2.1,v4.2.2.2.2.2.2.2.2.1,v4.2.2.2.2.2.2.2.2.2.1,v4.2.2.2.2.2.2.2.2.2.2.1,v4.2.2.2.2.2.2.2.2.2.2.2,()),()),())
abbrev yJX (v0:Int) (v1:Int) (v2:dA):(yf7).X:=(((v0,()),((),()),((),()),(v1,()),((),()),()),((v2.1,v2.2.1.1,v2.2.1.2,v2.2.2.1,v2.2.2.2.1,v2.2.2.2.2.1,v2.2.2.2.2.2.1,v2.2.2.2.2.2.2.1,v2.2.2.2.2.2.2.2.1,v2.2.2.2.2.2.2.2.2.1,v2.2.2.2.2.2.2.2.2.2.1,v2.2.2.2.2.2.2.2.2.2.2.1,v2.2.2.2.2.2.2.2.2.2.2.2,()),()),())
abbrev yJQ (v0:Int):(yfV).X:=(((v0,()),()),(),())
def ypM (v0:Int) (v1:Int) (v2:Int) (v3:Int) (v4:Int) (v5:Int) (v6:Int) (v7:List dM) (v8:Int) (v9:Int) (v10:Int) (v11:Int) (v12:Int) (v13:List dW) (v14:Int) (v15:Bool) (v16:Bool):Option ((ybE).X ⊕ ((yfV).X ⊕ (yko).X)) :=
  bif (ltb v3 v2) then
    bnd (ygX (v4,(v5,v6),v7,v8,v9,v10,v11,v12,v13,v14,v15,v16) v3 v0) fun r4 =>
    bif (!r4.1.2.1) then
      some (.inl (((v0,()),((),()),((IntKind.i64.wrap (v1+1)),()),(v2,()),((IntKind.i64.wrap (v3+1)),()),()),((v4,v5,v6,v7,v8,v9,v10,v11,v12,v13,v14,v15,v16,()),()),()))
    else
      some (.inl (((v0,()),((),()),(v1,()),(v2,()),((IntKind.i64.wrap (v3+1)),()),()),((v4,v5,v6,v7,v8,v9,v10,v11,v12,v13,v14,v15,v16,()),()),()))
  else
    some (.inr (.inl (((v1,()),()),(),())))
def yb8 (x:(ybE).X):=ypM x.1.1.1 x.1.2.2.1.1 x.1.2.2.2.1.1 x.1.2.2.2.2.1.1 x.2.1.1.1 x.2.1.1.2.1 x.2.1.1.2.2.1 x.2.1.1.2.2.2.1 x.2.1.1.2.2.2.2.1 x.2.1.1.2.2.2.2.2.1 x.2.1.1.2.2.2.2.2.2.1 x.2.1.1.2.2.2.2.2.2.2.1 x.2.1.1.2.2.2.2.2.2.2.2.1 x.2.1.1.2.2.2.2.2.2.2.2.2.1 x.2.1.1.2.2.2.2.2.2.2.2.2.2.1 x.2.1.1.2.2.2.2.2.2.2.2.2.2.2.1 x.2.1.1.2.2.2.2.2.2.2.2.2.2.2.2.1
def yxh (x:(yf7).X):(ybE).X:=(((x.1.1.1,()),((),()),(0,()),(x.1.2.2.2.1.1,()),(0,()),()),((x.2.1.1.1,x.2.1.1.2.1,x.2.1.1.2.2.1,x.2.1.1.2.2.2.1,x.2.1.1.2.2.2.2.1,x.2.1.1.2.2.2.2.2.1,x.2.1.1.2.2.2.2.2.2.1,x.2.1.1.2.2.2.2.2.2.2.1,x.2.1.1.2.2.2.2.2.2.2.2.1,x.2.1.1.2.2.2.2.2.2.2.2.2.1,x.2.1.1.2.2.2.2.2.2.2.2.2.2.1,x.2.1.1.2.2.2.2.2.2.2.2.2.2.2.1,x.2.1.1.2.2.2.2.2.2.2.2.2.2.2.2.1,()),()),())
def yyB:Code:=(zdI ykY 64 244).getD .skip
theorem yLd:zdI ykY 64 61=some (.block 0 (.loop yyB)):=by kernel_rfl
theorem yNR (x:(ybE).X):zg7 ⟨yqi,41,yAL⟩ 0 yyB 244 ybE yfV yko x=yb8 x:=by kernel_rfl
def yxt (x:(yf7).X):Nat:=(fun (u0:Int) (u1:Int) (u2:Int) (u3:Int) (u4:Int) (u5:List dM) (u6:Int) (u7:Int) (u8:Int) (u9:Int) (u10:Int) (u11:List dW) (u12:Int) (u13:Bool) (u14:Bool)=>18446744073709551616) x.1.1.1 x.1.2.2.2.1.1 x.2.1.1.1 x.2.1.1.2.1 x.2.1.1.2.2.1 x.2.1.1.2.2.2.1 x.2.1.1.2.2.2.2.1 x.2.1.1.2.2.2.2.2.1 x.2.1.1.2.2.2.2.2.2.1 x.2.1.1.2.2.2.2.2.2.2.1 x.2.1.1.2.2.2.2.2.2.2.2.1 x.2.1.1.2.2.2.2.2.2.2.2.2.1 x.2.1.1.2.2.2.2.2.2.2.2.2.2.1 x.2.1.1.2.2.2.2.2.2.2.2.2.2.2.1 x.2.1.1.2.2.2.2.2.2.2.2.2.2.2.2.1
def yre (x:(yf7).X):Option ((yfV).X ⊕ (yko).X):=zr yb8 (yxt x) (yxh x)
def yxK:Seg:=⟨yf7,yfV,yko,yre⟩
def yAM:Nat→Option Seg:=fun q=>bif Nat.beq q 61 then some yxK else yAL q
theorem yLD:FrOk Tryz.prog ⟨yqi,41,yAM⟩ ykY:=(yLC).loop (sg:=yxK) ybE yxh (by decide) yLd yb8 yxt (by decide) (fun _=>rfl) (fun x r _ h=>h) yNR
abbrev ygK:List Par:= [.rd tA,.rd tI]
abbrev yqw:List OT:= [⟨false,tI,.fz⟩]
def ym2 (a0:dA) (a1:Int):Option (ResD yqw×MutD ygK) :=
  let r1:=yav a0
  bif (!(!r1)) then
    let r2:=yP a0.2.1 a1
    bif (!r2) then
      some ((a0.2.1.1,()),())
    else
      zjw (yre (((a1,()),((),()),((),()),((a0.2.2.1.length:Int),()),((),()),()),((a0.1,a0.2.1.1,a0.2.1.2,a0.2.2.1,a0.2.2.2.1,a0.2.2.2.2.1,a0.2.2.2.2.2.1,a0.2.2.2.2.2.2.1,a0.2.2.2.2.2.2.2.1,a0.2.2.2.2.2.2.2.2.1,a0.2.2.2.2.2.2.2.2.2.1,a0.2.2.2.2.2.2.2.2.2.2.1,a0.2.2.2.2.2.2.2.2.2.2.2,()),()),())) (fun y4 =>
        some ((y4.1.1.1,()),())) (fun y4 =>
        none)
  else
    some ((a0.2.1.1,()),())
theorem yVs (x:InD ygK):zjH ⟨yqi,41,yAM⟩ Tryz.f31.results.toList ykY ygK yqw x=ym2 x.1 x.2.1:=by kernel_rfl
theorem yQW:ConOk Tryz.prog 31 ⟨ygK,yqw,fun x=>ym2 x.1 x.2.1⟩:=zkh (yLD) Tryz.func31 (by kernel_rfl) (by kernel_rfl) Tryz.ntmps31.symm (by decide) (fun x r h=>(yVs x).trans h)
def ylC (a0:dA) (a1:Int):Int:=yQe a0 a1
theorem yTk (a0:dA) (a1:Int) (hk:zi9 ygK (a0,a1,())):ym2 a0 a1=(fun n=>some ((n,()),())) (ylC a0 a1):=by
  unfold ym2 ylC yQe yav
  cases ha:yo a0
  · rfl
  have hg:=yg.1 (yam ha)
  have hl:=yvI ha
  have h1:yre (yJX a1 a0.2.2.1.length a0)=some (.inl (yJQ ((yaS (fun (i:Nat)=>yl a0 i a1) a0.2.1.1.toNat:Nat):Int))) :=
    zjs (step:=yb8) (fun i=>ypz a1 ((yaS (fun (i:Nat)=>yl a0 i a1) i:Nat):Int) a0.2.2.1.length i a0) a0.2.1.1.toNat _ (fun i hi=>by
      have:=yEL (fun (i:Nat)=>yl a0 i a1) i
      simp only [yb8,ypz,ypM,zjI (show (i:Int) < a0.2.2.1.length by omega),cond_true,wr (show -9223372036854775808≤(i:Int)+1 by omega) (by omega),Int.natCast_add,Int.natCast_one,Int.toNat_natCast,zkV,yva a0 i a1 (zkO (show i < a0.2.2.1.length by omega)),yeM,zky,ydP,wr (show -9223372036854775808≤((yaS (fun (i:Nat)=>yl a0 i a1) i:Nat):Int)+1 by omega) (by omega)]
      cases yl a0 i a1<;>rfl) (by simp only [yb8,ypz,ypM,zkm (show (a0.2.2.1.length:Int)≤(a0.2.1.1.toNat:Int) by omega),cond_false]) _ (by show _ < 18446744073709551616; omega)
  rw [h1]
  unfold yP
  simp only [yH5,yam ha,yat,ybC,wr (show -9223372036854775808≤a0.2.1.2 - 1 by omega) (by omega)]
  cases (leb 0 a1&&leb a1 (a0.2.1.2 - 1))<;>rfl
def yBI:Con:=⟨ygK,yqw,fun x=>(fun n=>some ((n,()),())) (ylC x.1 x.2.1)⟩
theorem yUj:ConOk Tryz.prog 31 yBI:=(yQW).mono (fun x r hk h=>(yTk x.1 x.2.1 hk).trans h)
end
section
def ynl:Code:=(Tryz.f214.body).getD .skip
def ysA:Env:=zki TT [] []
theorem yPx:FrOk Tryz.prog ⟨ysA,17,fun _=>none⟩ ynl:=zkp yc yd trivial
def yC9:Nat→Option Seg:=fun _=>none
def ycq:Shape:=⟨[(3,false,[.int .i64]),(6,false,[.br tI]),(7,false,[.int .i64]),(8,false,[.int .i64])],[],[]⟩
def yhz:Shape:=⟨[(3,false,[.ci .i64 0]),(6,false,[.br tI]),(7,false,[.int .i64]),(8,false,[.ci .i64 0])],[],[]⟩
def yhi:Shape:=⟨[(3,false,[.int .i64])],[],[]⟩
def ymH:Shape:=⟨[],[],[]⟩
abbrev yrG (v0:Int) (v1:List Int) (v2:Int) (v3:Int):(ycq).X:=(((v0,()),(v1,()),(v2,()),(v3,()),()),(),())
abbrev yMD (v0:List Int) (v1:Int):(yhz).X:=((((),()),(v0,()),(v1,()),((),()),()),(),())
abbrev yzG (v0:Int):(yhi).X:=(((v0,()),()),(),())
def yr2 (v0:Int) (v1:List Int) (v2:Int) (v3:Int):Option ((ycq).X ⊕ ((yhi).X ⊕ (ymH).X)) :=
  bif (ltb v3 v2) then
    bif (inb v3 v1.length) then
      some (.inl ((((IntKind.i64.wrap ((BitVec.ofInt IntKind.i64.bits v0 ^^^ BitVec.ofInt IntKind.i64.bits (nth v1 v3 0)).toNat:Int)),()),(v1,()),(v2,()),((IntKind.i64.wrap (v3+1)),()),()),(),()))
    else none
  else
    some (.inr (.inl (((v0,()),()),(),())))
def ycW (x:(ycq).X):=yr2 x.1.1.1 x.1.2.1.1 x.1.2.2.1.1 x.1.2.2.2.1.1
def yy8 (x:(yhz).X):(ycq).X:=(((0,()),(x.1.2.1.1,()),(x.1.2.2.1.1,()),(0,()),()),(),())
def yBs:Code:=(zdI ynl 64 116).getD .skip
theorem yOE:zdI ynl 64 29=some (.block 0 (.loop yBs)):=by kernel_rfl
theorem yRT (x:(ycq).X):zg7 ⟨ysA,17,yC9⟩ 0 yBs 116 ycq yhi ymH x=ycW x:=by kernel_rfl
def yzq (x:(yhz).X):Nat:=(fun (u0:List Int) (u1:Int)=>18446744073709551616) x.1.2.1.1 x.1.2.2.1.1
def ysP (x:(yhz).X):Option ((yhi).X ⊕ (ymH).X):=zr ycW (yzq x) (yy8 x)
def yAb:Seg:=⟨yhz,yhi,ymH,ysP⟩
def yDa:Nat→Option Seg:=fun q=>bif Nat.beq q 29 then some yAb else yC9 q
theorem yPy:FrOk Tryz.prog ⟨ysA,17,yDa⟩ ynl:=(yPx).loop (sg:=yAb) ycq yy8 (by decide) yOE ycW yzq (by decide) (fun _=>rfl) (fun x r _ h=>h) yRT
abbrev yi9:List Par:= [.rd tL]
abbrev ys8:List OT:= [⟨false,tI,.fz⟩]
def yo4 (a0:List Int):Option (ResD ys8×MutD yi9) :=
  zjw (ysP ((((),()),(a0,()),((a0.length:Int),()),((),()),()),(),())) (fun y0 =>
    some ((y0.1.1.1,()),())) (fun y0 =>
    none)
theorem yW3 (x:InD yi9):zjH ⟨ysA,17,yDa⟩ Tryz.f214.results.toList ynl yi9 ys8 x=yo4 x.1:=by kernel_rfl
theorem yTS:ConOk Tryz.prog 214 ⟨yi9,ys8,fun x=>yo4 x.1⟩:=zkh (yPy) Tryz.func214 (by kernel_rfl) (by kernel_rfl) Tryz.ntmps214.symm (by decide) (fun x r h=>(yW3 x).trans h)
def ygq (a0:List Int):Int:=xorOf a0
theorem yV8 (a0:List Int) (hk:zi9 yi9 (a0,())):yo4 a0=(fun n=>some ((n,()),())) (ygq a0):=by
  have hb:a0.length * 8≤2 ^ 47:=hk.1.1
  have h1:ysP (yMD a0 a0.length)=some (.inl (yzG (xorOf a0))) :=
    zkk (step:=ycW) a0 0 (fun i s=>yrG s a0 a0.length i) xw (fun _ _=>True) (fun s=> .inl (yzG s)) (fun i s hi _=>⟨by
      simp only [ycW,yrG,yr2,zjI (show (i:Int) < a0.length by omega),cond_true,wr (show -9223372036854775808≤(i:Int)+1 by omega) (by omega),Int.natCast_add,Int.natCast_one,Int.toNat_natCast,zkO hi,zjW]; rfl,trivial⟩) (fun s _=>by simp only [ycW,yrG,yr2,zkm (Int.le_refl _),cond_false]) 0 trivial _ (by show _ < 18446744073709551616; omega)
  unfold yo4 ygq
  rw [h1]; rfl
def yuV:Con:=⟨yi9,ys8,fun x=>(fun n=>some ((n,()),())) (ygq x.1)⟩
theorem yGj:ConOk Tryz.prog 214 yuV:=(yTS).mono (fun x r hk h=>(yV8 x.1 hk).trans h)
end
end
end Go.Tf
