/- Functions of the program, and what they come to. -/
import Derived.Test.YtgmadfpnljibhaaGreatBuiltBentF18
namespace Go.Tf
noncomputable section
open Go.Proofs
set_option synthInstance.maxHeartbeats 400000
set_option synthInstance.maxSize 10000
set_option linter.unusedVariables false
set_option linter.unusedSimpArgs false
set_option maxRecDepth 100000
section
def yAW:Code:=(Tryz.f18.body).getD .skip
def yBo:Env:=zki TT [(103,yol),(104,yqz),(109,yht)] []
theorem yIw:FrOk Tryz.prog ⟨yBo,44,fun _=>none⟩ yAW:=zkp yc yd ⟨yw6,yyX,yor,trivial⟩
def yJq:Nat→Option Seg:=fun _=>none
abbrev yec:List Par:= [.rd tA]
abbrev ylD:List OT:= [⟨false,tA,(.pr .fz (.pr (.pr .fz .fz) (.pr (.ow (.pr (.ow .fz) (.pr (.ow (.pr .fz .fz)) (.pr .fz (.ow .fz))))) (.pr .fz (.pr .fz (.pr .fz (.pr .fz (.pr .fz (.pr (.ow (.pr .fz .fz)) (.pr .fz (.pr .fz .fz)))))))))))⟩,⟨false,tI,.fz⟩]
def yjA (a0:dA):Option (ResD ylD×MutD yec) :=
  let r1:=yb4 a0
  let r2:=ye4 a0
  bif (r2 !=0) then
    some ((r1,r2,()),())
  else
    bif (!(a0.2.2.2.1==(-1))) then
      bif (inb a0.2.2.2.1 a0.2.2.1.length) then
        bif (!((((nth a0.2.2.1 a0.2.2.2.1 ([],[],false,[])).2).2).1)) then
          bif (leb a0.2.1.2 a0.2.2.2.2.1) then
            some ((r1,2,()),())
          else
            bif a0.2.2.2.2.2.2.2.2.2.2.2 then
              some ((r1,5,()),())
            else
              bnd (ycD r1) fun r3 =>
              some ((r3.2.1,r3.1.1,()),())
        else
          some ((r1,2,()),())
      else none
    else
      some ((r1,2,()),())
theorem yOr (x:InD yec):zjH ⟨yBo,44,yJq⟩ Tryz.f18.results.toList yAW yec ylD x=yjA x.1:=by kernel_rfl
theorem yK6:ConOk Tryz.prog 18 ⟨yec,ylD,fun x=>yjA x.1⟩:=zkh (yIw) Tryz.func18 (by kernel_rfl) (by kernel_rfl) Tryz.ntmps18.symm (by decide) (fun x r h=>(yOr x).trans h)
def ycm (a0:dA):dA×Int:=yN a0
theorem yZG {a:dA} (h:ym a=true) (h2:a.2.2.2.1≠ -1):inb a.2.2.2.1 a.2.1.1.toNat=true:=by
  have:=yOi h
  exact zjP.2 (by omega)
theorem yM0 (a0:dA) (hk:zi9 yec (a0,())):yjA a0=(fun n=>some ((n.1,n.2,()),())) (ycm a0):=by
  unfold yjA ycm yN
  simp only [yb4,ye4,yW]
  cases ha:ym a0
  · rfl
  cases hd:yg a0
  · rw [show a0.2.2.2.2.2.2.2.2.2.2.1=false from hd]
    cases hl:(a0.2.2.2.1== -1)
    · have hi:=ywY ha (beq_eq_false_iff_ne.1 hl)
      rw [hi,yot a0 (by unfold ycF; rw [ybI ha,hi,yZG ha (beq_eq_false_iff_ne.1 hl)]; rfl)]
      cases (nth a0.2.2.1 a0.2.2.2.1 ye).2.2.1<;>cases leb a0.2.1.2 a0.2.2.2.2.1<;>cases a0.2.2.2.2.2.2.2.2.2.2.2<;>rfl
    · rfl
  · rw [show a0.2.2.2.2.2.2.2.2.2.2.1=true from hd]; rfl
def ypv:Con:=⟨yec,ylD,fun x=>(fun n=>some ((n.1,n.2,()),())) (ycm x.1)⟩
theorem yAn:ConOk Tryz.prog 18 ypv:=(yK6).mono (fun x r hk h=>(yM0 x.1 hk).trans h)
end
section
def yHe:Code:=(Tryz.f47.body).getD .skip
def yHH:Env:=zki TT [(126,yJ)] []
theorem yOy:FrOk Tryz.prog ⟨yHH,34,fun _=>none⟩ yHe:=zkp yc yd ⟨yaa,trivial⟩
def yQ5:Nat→Option Seg:=fun _=>none
abbrev yhV:List Par:= [.rd tA,.rd tI,.rd tI]
abbrev ysb:List OT:= [⟨false,tB,.fz⟩]
def you (a0:dA) (a1:Int) (a2:Int):Option (ResD ysb×MutD yhV) :=
  let r1:=yh a1 0 (IntKind.i64.wrap ((a0.2.2.1.length:Int) - 1))
  bif r1 then
    bif (inb a1 a0.2.2.1.length) then
      bif (!((((nth a0.2.2.1 a1 ([],[],false,[])).2).2).1)) then
        bif (!(a0.2.2.2.1 !=a1)) then
          some (((ltb a2 a0.2.2.2.2.1),()),())
        else
          some ((true,()),())
      else
        some ((false,()),())
    else none
  else
    some ((false,()),())
theorem yXy (x:InD yhV):zjH ⟨yHH,34,yQ5⟩ Tryz.f47.results.toList yHe yhV ysb x=you x.1 x.2.1 x.2.2.1:=by kernel_rfl
theorem yTx:ConOk Tryz.prog 47 ⟨yhV,ysb,fun x=>you x.1 x.2.1 x.2.2.1⟩:=zkh (yOy) Tryz.func47 (by kernel_rfl) (by kernel_rfl) Tryz.ntmps47.symm (by decide) (fun x r h=>(yXy x).trans h)
def ymX (a0:dA) (a1 a2:Int):Bool:=ydk a0 a1 a2
theorem yVA (a0:dA) (a1 a2:Int) (hk:zi9 yhV (a0,a1,a2,())):you a0 a1 a2=(fun n=>some ((n,()),())) (ymX a0 a1 a2):=by
  have hb:a0.2.2.1.length * 80≤2 ^ 47:=hk.1.2.2.1.1
  unfold you ymX ydk ye
  rw [yaw,ypz (show a0.2.2.1.length≤1152921504606846976 by omega),bne_comm]
  cases inb a1 a0.2.2.1.length
  · rfl
  · cases (nth a0.2.2.1 a1 ([],[],false,[])).2.2.1<;>cases (a1 !=a0.2.2.2.1)<;>rfl
def yD9:Con:=⟨yhV,ysb,fun x=>(fun n=>some ((n,()),())) (ymX x.1 x.2.1 x.2.2.1)⟩
theorem yWA:ConOk Tryz.prog 47 yD9:=(yTx).mono (fun x r hk h=>(yVA x.1 x.2.1 x.2.2.1 hk).trans h)
end
section
def yHd:Code:=(Tryz.f108.body).getD .skip
def yHG:Env:=zki TT [(126,yJ)] []
theorem yOx:FrOk Tryz.prog ⟨yHG,9,fun _=>none⟩ yHd:=zkp yc yd ⟨yaa,trivial⟩
def yQ4:Nat→Option Seg:=fun _=>none
abbrev ymt:List Par:= [.rd tI]
abbrev ysa:List OT:= [⟨false,tI,.fz⟩]
def yvD (a0:Int):Option (ResD ysa×MutD ymt) :=
  let r1:=yh a0 0 1099511627776
  bif (!r1) then
    some (((-1),()),())
  else
    some (((IntKind.i64.wrap ((IntKind.i64.wrap (a0+2))+4)),()),())
theorem yXx (x:InD ymt):zjH ⟨yHG,9,yQ4⟩ Tryz.f108.results.toList yHd ymt ysa x=yvD x.1:=by kernel_rfl
theorem yTw:ConOk Tryz.prog 108 ⟨ymt,ysa,fun x=>yvD x.1⟩:=zkh (yOx) Tryz.func108 (by kernel_rfl) (by kernel_rfl) Tryz.ntmps108.symm (by decide) (fun x r h=>(yXx x).trans h)
def ymW (a0:Int):Int :=
  let r1:=yh a0 0 1099511627776
  bif (!r1) then
    (-1)
  else
    (IntKind.i64.wrap ((IntKind.i64.wrap (a0+2))+4))
def yu5:Con:=⟨ymt,ysa,fun x=>(fun n=>some ((n,()),())) (ymW x.1)⟩
theorem yVz (a0:Int):yvD a0=(fun n=>some ((n,()),())) (ymW a0):=zkS (p:=fun (n:Int)=>((n,()),())) (zkx (p:=fun (n:Int)=>((n,()),())) rfl rfl)
theorem yGo:ConOk Tryz.prog 108 yu5:=(yTw).mono (fun x r _ h=>(yVz x.1).trans h)
theorem yGh (s:Int):ymW s=ycA s:=yet s
end
section
def yeA:Code:=(Tryz.f275.body).getD .skip
def yik:Env:=zki TT [] []
theorem yGd:FrOk Tryz.prog ⟨yik,19,fun _=>none⟩ yeA:=zkp yc yd trivial
def yt2:Nat→Option Seg:=fun _=>none
def yak:Shape:=⟨[(0,false,[.br tI]),(1,false,[.int .i64]),(7,false,[.int .i64]),(8,false,[.int .i64])],[],[]⟩
def ycx:Shape:=⟨[(0,false,[.br tI]),(1,false,[.int .i64]),(7,false,[.int .i64]),(8,false,[.ci .i64 0])],[],[]⟩
def ycv:Shape:=⟨[],[],[]⟩
def ycz:Shape:=⟨[(4,false,[.int .i64])],[],[]⟩
abbrev yjC (v0:List Int) (v1:Int) (v2:Int) (v3:Int):(yak).X:=(((v0,()),(v1,()),(v2,()),(v3,()),()),(),())
abbrev yEV (v0:List Int) (v1:Int) (v2:Int):(ycx).X:=(((v0,()),(v1,()),(v2,()),((),()),()),(),())
abbrev yET  :(ycv).X:=((),(),())
abbrev yrX (v0:Int):(ycz).X:=(((v0,()),()),(),())
def yjG (v0:List Int) (v1:Int) (v2:Int) (v3:Int):Option ((yak).X ⊕ ((ycv).X ⊕ (ycz).X)) :=
  bif (ltb v3 v2) then
    bif (inb v3 v0.length) then
      bif (v1==(nth v0 v3 0)) then
        some (.inr (.inr (((v3,()),()),(),())))
      else
        some (.inl (((v0,()),(v1,()),(v2,()),((IntKind.i64.wrap (v3+1)),()),()),(),()))
    else none
  else
    some (.inr (.inl ((),(),())))
def yas (x:(yak).X):=yjG x.1.1.1 x.1.2.1.1 x.1.2.2.1.1 x.1.2.2.2.1.1
def yrR (x:(ycx).X):(yak).X:=(((x.1.1.1,()),(x.1.2.1.1,()),(x.1.2.2.1.1,()),(0,()),()),(),())
def ytT:Code:=(zdI yeA 64 52).getD .skip
theorem yFS:zdI yeA 64 13=some (.block 0 (.loop ytT)):=by kernel_rfl
theorem yGx (x:(yak).X):zg7 ⟨yik,19,yt2⟩ 0 ytT 52 yak ycv ycz x=yas x:=by kernel_rfl
def yrT (x:(ycx).X):Nat:=(fun (u0:List Int) (u1:Int) (u2:Int)=>18446744073709551616) x.1.1.1 x.1.2.1.1 x.1.2.2.1.1
def yks (x:(ycx).X):Option ((ycv).X ⊕ (ycz).X):=zr yas (yrT x) (yrR x)
def yrZ:Seg:=⟨ycx,ycv,ycz,yks⟩
def yt3:Nat→Option Seg:=fun q=>bif Nat.beq q 13 then some yrZ else yt2 q
theorem yGe:FrOk Tryz.prog ⟨yik,19,yt3⟩ yeA:=(yGd).loop (sg:=yrZ) yak yrR (by decide) yFS yas yrT (by decide) (fun _=>rfl) (fun x r _ h=>h) yGx
abbrev ycs:List Par:= [.rd tL,.rd tI]
abbrev yi0:List OT:= [⟨false,tI,.fz⟩]
def ygl (a0:List Int) (a1:Int):Option (ResD yi0×MutD ycs) :=
  zjw (yks (((a0,()),(a1,()),((a0.length:Int),()),((),()),()),(),())) (fun y0 =>
    some (((-1),()),())) (fun y0 =>
    some ((y0.1.1.1,()),()))
theorem yJ3 (x:InD ycs):zjH ⟨yik,19,yt3⟩ Tryz.f275.results.toList yeA ycs yi0 x=ygl x.1 x.2.1:=by kernel_rfl
theorem yG3:ConOk Tryz.prog 275 ⟨ycs,yi0,fun x=>ygl x.1 x.2.1⟩:=zkh (yGe) Tryz.func275 (by kernel_rfl) (by kernel_rfl) Tryz.ntmps275.symm (by decide) (fun x r h=>(yJ3 x).trans h)
def yVw (l:List Int) (x:Int):Int:=bif l.any (· ==x) then ((l.takeWhile (· !=x)).length:Int) else -1
def ye1 (a0:List Int) (a1:Int):Int:=yVw a0 a1
theorem y0D {A B α:Type} {step:A→Option (A ⊕ B)} (l:List α) (d:α) (f:Nat→A) (p:α→Bool) (b:Nat→B) (c:B)
    (h: ∀ i,i < l.length→step (f i)=some (bif p (l.getD i d) then .inr (b i) else .inl (f (i+1)))) (e:step (f l.length)=some (.inr c)) (fuel:Nat) (hf:l.length < fuel) :
    zr step fuel (f 0)=some (bif l.any p then b (l.takeWhile (fun x=> !p x)).length else c):=by
  have: ∀ (t q:List α) (fuel:Nat),q++t=l→t.length < fuel→zr step fuel (f q.length)=some (bif t.any p then b (q.length+(t.takeWhile (fun x=> !p x)).length) else c):=by
    intro t
    induction t with
    | nil =>
      intro q fuel hq hf
      obtain ⟨fuel,rfl⟩: ∃ m,fuel=m+1:=⟨fuel - 1,by omega⟩
      rw [List.append_nil]at hq
      subst hq
      simp only [zr,e,List.any_nil,cond_false]
    | cons x t ih =>
      intro q fuel hq hf
      obtain ⟨fuel,rfl⟩: ∃ m,fuel=m+1:=⟨fuel - 1,by omega⟩
      have hx:l.getD q.length d=x:=by
        subst hq
        rw [zcq (by simp)]; simp
      have hs:=h q.length (by rw [← hq]; simp)
      rw [hx]at hs
      cases hp:p x
      · rw [hp]at hs
        have:=ih (q++ [x]) fuel (by rw [← hq]; simp) (by simp at hf; omega)
        simp only [List.length_append,List.length_cons,List.length_nil]at this
        simp only [zr,hs,cond_false]
        simp only [List.any_cons,hp,Bool.false_or,List.takeWhile_cons,Bool.not_false,if_true,List.length_cons]
        rw [show q.length+((t.takeWhile (fun x=> !p x)).length+1)=q.length+(0+1)+(t.takeWhile (fun x=> !p x)).length by omega]
        exact this
      · rw [hp]at hs
        simp only [zr,hs,cond_true,List.any_cons,hp,Bool.true_or,List.takeWhile_cons,Bool.not_true,Bool.false_eq_true,if_false,List.length_nil,Nat.add_zero]
  have:=this l [] fuel rfl hf
  simpa using this
theorem yIQ (a0:List Int) (a1:Int) (hk:zi9 ycs (a0,a1,())):ygl a0 a1=(fun n=>some ((n,()),())) (ye1 a0 a1):=by
  have hb:a0.length * 8≤2 ^ 47:=hk.1.1
  have h1:yks (yEV a0 a1 a0.length)=some (bif a0.any (· ==a1) then .inr (yrX ((a0.takeWhile (fun x=> !(x==a1))).length:Int)) else .inl yET) :=
    y0D (step:=yas) a0 0 (fun i=>yjC a0 a1 a0.length i) (· ==a1) (fun i=> .inr (yrX (i:Int))) _ (fun i hi=>by
      simp only [yas,yjC,yjG,zjI (show (i:Int) < a0.length by omega),cond_true,wr (show -9223372036854775808≤(i:Int)+1 by omega) (by omega),Int.natCast_add,Int.natCast_one,Int.toNat_natCast,zkO hi,zjW]
      rw [show (a1==a0.getD i 0)=(a0.getD i 0==a1) by rw [Bool.eq_iff_iff,beq_iff_eq,beq_iff_eq]; exact eq_comm]
      cases (a0.getD i 0==a1)<;>rfl) (by simp only [yas,yjC,yjG,zkm (Int.le_refl _),cond_false]) _ (by show _ < 18446744073709551616; omega)
  unfold ygl ye1 yVw
  rw [h1]
  cases a0.any (· ==a1)<;>rfl
def yu9:Con:=⟨ycs,yi0,fun x=>(fun n=>some ((n,()),())) (ye1 x.1 x.2.1)⟩
theorem yIW:ConOk Tryz.prog 275 yu9:=(yG3).mono (fun x r hk h=>(yIQ x.1 x.2.1 hk).trans h)
end
section
def ytR:Code:=(Tryz.f236.body).getD .skip
def ytS:Env:=zki TT [(275,yu9)] []
theorem yB8:FrOk Tryz.prog ⟨ytS,9,fun _=>none⟩ ytR:=zkp yc yd ⟨yIW,trivial⟩
def yC3:Nat→Option Seg:=fun _=>none
abbrev yaX:List Par:= [.rd tL,.rd tI]
abbrev yfn:List OT:= [⟨false,tB,.fz⟩]
def ydW (a0:List Int) (a1:Int):Option (ResD yfn×MutD yaX) :=
  let r1:=ye1 a0 a1
  some (((leb 0 r1),()),())
theorem yGa (x:InD yaX):zjH ⟨ytS,9,yC3⟩ Tryz.f236.results.toList ytR yaX yfn x=ydW x.1 x.2.1:=by kernel_rfl
theorem yC7:ConOk Tryz.prog 236 ⟨yaX,yfn,fun x=>ydW x.1 x.2.1⟩:=zkh (yB8) Tryz.func236 (by kernel_rfl) (by kernel_rfl) Tryz.ntmps236.symm (by decide) (fun x r h=>(yGa x).trans h)
def ycB (a0:List Int) (a1:Int):Bool:=a0.any (· ==a1)
theorem yEX (a0:List Int) (a1:Int) (hk:zi9 yaX (a0,a1,())):ydW a0 a1=(fun n=>some ((n,()),())) (ycB a0 a1):=by
  unfold ydW ycB ye1 yVw
  cases a0.any (· ==a1)
  · rfl
  · simp only [cond_true]
    rw [zk0 (show (0:Int)≤((a0.takeWhile (· !=a1)).length:Int) by omega)]
def yq0:Con:=⟨yaX,yfn,fun x=>(fun n=>some ((n,()),())) (ycB x.1 x.2.1)⟩
theorem yEZ:ConOk Tryz.prog 236 yq0:=(yC7).mono (fun x r hk h=>(yEX x.1 x.2.1 hk).trans h)
end
section
def ykj:Code:=(Tryz.f156.body).getD .skip
def yp7:Env:=zki TT [(133,yk6),(200,ydu),(220,yoh),(236,yq0)] []
theorem yL0:FrOk Tryz.prog ⟨yp7,49,fun _=>none⟩ ykj:=zkp yc yd ⟨ysM,yhF,yw3,yEZ,trivial⟩
def yAY:Nat→Option Seg:=fun _=>none
def ybx:Shape:=⟨[(1,false,[.int .i64]),(6,false,[.br tI]),(34,false,[.br tW]),(35,false,[.int .i64]),(36,false,[.int .i64])],[],[]⟩
def yfV:Shape:=⟨[(1,false,[.int .i64]),(6,false,[.br tI]),(34,false,[.br tW]),(35,false,[.int .i64]),(36,false,[.ci .i64 0])],[],[]⟩
def yfK:Shape:=⟨[(6,false,[.br tI])],[],[]⟩
def yjO:Shape:=⟨[],[],[]⟩
abbrev ypB (v0:Int) (v1:List Int) (v2:List dW) (v3:Int) (v4:Int):(ybx).X:=(((v0,()),(v1,()),(v2,()),(v3,()),(v4,()),()),(),())
abbrev yKJ (v0:Int) (v1:List Int) (v2:List dW) (v3:Int):(yfV).X:=(((v0,()),(v1,()),(v2,()),(v3,()),((),()),()),(),())
abbrev yyp (v0:List Int):(yfK).X:=(((v0,()),()),(),())
def ypT (v0:Int) (v1:List Int) (v2:List dW) (v3:Int) (v4:Int):Option ((ybx).X ⊕ ((yfK).X ⊕ (yjO).X)) :=
  bif (ltb v4 v3) then
    bif (inb v4 v2.length) then
      bif ((nth v2 v4 (0,[])).1==v0) then
        some (.inl (((v0,()),((nth v2 v4 (0,[])).2,()),(v2,()),(v3,()),((IntKind.i64.wrap (v4+1)),()),()),(),()))
      else
        some (.inl (((v0,()),(v1,()),(v2,()),(v3,()),((IntKind.i64.wrap (v4+1)),()),()),(),()))
    else none
  else
    some (.inr (.inl (((v1,()),()),(),())))
def ybL (x:(ybx).X):=ypT x.1.1.1 x.1.2.1.1 x.1.2.2.1.1 x.1.2.2.2.1.1 x.1.2.2.2.2.1.1
def yxW (x:(yfV).X):(ybx).X:=(((x.1.1.1,()),(x.1.2.1.1,()),(x.1.2.2.1.1,()),(x.1.2.2.2.1.1,()),(0,()),()),(),())
def yzu:Code:=(zdI ykj 64 244).getD .skip
theorem yLL:zdI ykj 64 61=some (.block 0 (.loop yzu)):=by kernel_rfl
theorem yNs (x:(ybx).X):zg7 ⟨yp7,49,yAY⟩ 0 yzu 244 ybx yfK yjO x=ybL x:=by kernel_rfl
def yyb (x:(yfV).X):Nat:=(fun (u0:Int) (u1:List Int) (u2:List dW) (u3:Int)=>18446744073709551616) x.1.1.1 x.1.2.1.1 x.1.2.2.1.1 x.1.2.2.2.1.1
def yq1 (x:(yfV).X):Option ((yfK).X ⊕ (yjO).X):=zr ybL (yyb x) (yxW x)
def yyB:Seg:=⟨yfV,yfK,yjO,yq1⟩
def yAZ:Nat→Option Seg:=fun q=>bif Nat.beq q 61 then some yyB else yAY q
theorem yL1:FrOk Tryz.prog ⟨yp7,49,yAZ⟩ ykj:=(yL0).loop (sg:=yyB) ybx yxW (by decide) yLL ybL yyb (by decide) (fun _=>rfl) (fun x r _ h=>h) yNs
abbrev ygq:List Par:= [.rd tM,.rd tI]
abbrev yqg:List OT:= [⟨false,tL,(.ow .fz)⟩,⟨false,tB,.fz⟩]
def yl2 (a0:dM) (a1:Int):Option (ResD yqg×MutD ygq) :=
  let r1:=ybh a0
  bif (!(!r1)) then
    bif (!a0.2.2.1) then
      let r2:=ybj a0 a1
      bif (!(!r2)) then
        let r3:=ycB a0.2.2.2 a1
        bif r3 then
          some (([],false,()),())
        else
          bif (inb a1 a0.1.length) then
            zjw (yq1 (((a1,()),((nth a0.1 a1 []),()),(a0.2.1,()),((a0.2.1.length:Int),()),((),()),()),(),())) (fun y3 =>
              let r5:=yr y3.1.1.1
              some ((r5,true,()),())) (fun y3 =>
              none)
          else none
      else
        some (([],false,()),())
    else
      some (([],false,()),())
  else
    some (([],false,()),())
theorem yU3 (x:InD ygq):zjH ⟨yp7,49,yAZ⟩ Tryz.f156.results.toList ykj ygq yqg x=yl2 x.1 x.2.1:=by kernel_rfl
theorem yQd:ConOk Tryz.prog 156 ⟨ygq,yqg,fun x=>yl2 x.1 x.2.1⟩:=zkh (yL1) Tryz.func156 (by kernel_rfl) (by kernel_rfl) Tryz.ntmps156.symm (by decide) (fun x r h=>(yU3 x).trans h)
def ylb (a0:dM) (a1:Int):List Int×Bool:=ydy a0 a1
theorem yTb (a0:dM) (a1:Int) (hk:zi9 ygq (a0,a1,())):yl2 a0 a1=(fun n=>some ((n.1,n.2,()),())) (ylb a0 a1):=by
  have hb1:a0.1.length * 24≤2 ^ 47:=hk.1.1.1
  have hb2:a0.2.1.length * 32≤2 ^ 47:=hk.1.2.1.1
  have h1: ∀ s,yq1 (yKJ a1 s a0.2.1 a0.2.1.length)=some (.inl (yyp (yGl a1 a0.2.1 s))):=fun s =>
    zkk (step:=ybL) a0.2.1 (0,[]) (fun i s=>ypB a1 s a0.2.1 a0.2.1.length i) (fun s w=>bif w.1==a1 then w.2 else s) (fun _ _=>True) (fun s=> .inl (yyp s)) (fun i s hi _=>⟨by
      simp only [ybL,ypB,ypT,zjI (show (i:Int) < a0.2.1.length by omega),cond_true,wr (show -9223372036854775808≤(i:Int)+1 by omega) (by omega),Int.natCast_add,Int.natCast_one,Int.toNat_natCast,zkO hi,zjW]
      cases ((a0.2.1.getD i (0,[])).1==a1)<;>rfl,trivial⟩) (fun s _=>by simp only [ybL,ypB,ypT,zkm (Int.le_refl _),cond_false]) s trivial _ (by show _ < 18446744073709551616; omega)
  unfold yl2 ylb ydy yAO ybj
  rw [yaw,ypz (show a0.1.length≤1152921504606846976 by omega)]
  unfold ybh ycB yr
  simp only [h1,zkJ]
  cases yp a0
  · rfl
  cases a0.2.2.1
  · cases inb a1 a0.1.length
    · rfl
    · cases a0.2.2.2.any (· ==a1)<;>rfl
  · rfl
def yBG:Con:=⟨ygq,yqg,fun x=>(fun n=>some ((n.1,n.2,()),())) (ylb x.1 x.2.1)⟩
theorem yT7:ConOk Tryz.prog 156 yBG:=(yQd).mono (fun x r hk h=>(yTb x.1 x.2.1 hk).trans h)
end
end
end Go.Tf
