/- Functions of the program, and what they come to. -/
import Derived.Test.YtfpjmijaiekbgaaGreatExactBuildAllF5
namespace Go.Tf
noncomputable section
open Go.Proofs
set_option synthInstance.maxHeartbeats 400000
set_option synthInstance.maxSize 10000
set_option linter.unusedVariables false
set_option linter.unusedSimpArgs false
set_option maxRecDepth 100000
section
def yfq:Code:=(Tryz.f156.body).getD .skip
def yjS:Env:=zki TT [(21,yeW)] []
theorem yEM:FrOk Tryz.prog ⟨yjS,21,fun _=>none⟩ yfq:=zkp yb yc ⟨ykB,trivial⟩
def yu7:Nat→Option Seg:=fun _=>none
def ybb:Shape:=⟨[(0,false,[.br tL]),(1,false,[.int .i64]),(5,false,[.int .i64])],[],[]⟩
def yf4:Shape:=⟨[(0,false,[.br tL]),(1,false,[.int .i64]),(5,false,[.ci .i64 0])],[],[]⟩
def yf2:Shape:=⟨[(1,false,[.int .i64])],[],[]⟩
def yf6:Shape:=⟨[(4,false,[.int .i64])],[],[]⟩
def ykT (v0:List (List Int)) (v1:Int) (v2:Int):Option ((ybb).X ⊕ ((yf2).X ⊕ (yf6).X)) :=
  bif (ltb v2 (v0.length:Int)) then
    bif (inb v2 v0.length) then
      let r2:=yj (nth v0 v2 []) v1
      bif (ltb r2 0) then
        some (.inr (.inr ((((-1),()),()),(),())))
      else
        some (.inl (((v0,()),(r2,()),((IntKind.i64.wrap (v2+1)),()),()),(),()))
    else none
  else
    some (.inr (.inl (((v1,()),()),(),())))
def yan (x:(ybb).X):=ykT x.1.1.1 x.1.2.1.1 x.1.2.2.1.1
def ytb (x:(yf4).X):(ybb).X:=(((x.1.1.1,()),(x.1.2.1.1,()),(0,()),()),(),())
def ytE:Code:=(zdI yfq 64 52).getD .skip
theorem yEF:zdI yfq 64 13=some (.block 0 (.loop ytE)):=by kernel_rfl
theorem yE9 (x:(ybb).X):zg7 ⟨yjS,21,yu7⟩ 0 ytE 52 ybb yf2 yf6 x=yan x:=by kernel_rfl
def yte (x:(yf4).X):Nat:=(fun (u0:List (List Int)) (u1:Int)=>18446744073709551616) x.1.1.1 x.1.2.1.1
def ylA (x:(yf4).X):Option ((yf2).X ⊕ (yf6).X):=zr yan (yte x) (ytb x)
def ytA:Seg:=⟨yf4,yf2,yf6,ylA⟩
def yu8:Nat→Option Seg:=fun q=>bif Nat.beq q 13 then some ytA else yu7 q
theorem yEN:FrOk Tryz.prog ⟨yjS,21,yu8⟩ yfq:=(yEM).loop (sg:=ytA) ybb ytb (by decide) yEF yan yte (by decide) (fun _=>rfl) (fun x r _ h=>h) yE9
abbrev yc8:List Par:= [.rd tLL,.rd tI]
abbrev ykd:List OT:= [⟨false,tI,.fz⟩]
def yh5 (a0:List (List Int)) (a1:Int):Option (ResD ykd×MutD yc8) :=
  zjw (ylA (((a0,()),(a1,()),((),()),()),(),())) (fun y2 =>
    some ((y2.1.1.1,()),())) (fun y2 =>
    some ((y2.1.1.1,()),()))
theorem yKp (x:InD yc8):zjH ⟨yjS,21,yu8⟩ Tryz.f156.results.toList yfq yc8 ykd x=yh5 x.1 x.2.1:=by kernel_rfl
theorem yHg:ConOk Tryz.prog 156 ⟨yc8,ykd,fun x=>yh5 x.1 x.2.1⟩:=zkh (yEN) Tryz.func156 (by kernel_rfl) (by kernel_rfl) Tryz.ntmps156.symm (by decide) (fun x r h=>(yKp x).trans h)
def yux (x:List Int) (k:Int):Int:=yj x k
def ym (a0:List (List Int)) (a1:Int):Int:=(szG yux a0 a1).getD (-1)
theorem yI0 (a0:List (List Int)) (a1:Int) (hk:zi9 yc8 (a0,a1,())):yh5 a0 a1=(fun n=>some ((n,()),())) (ym a0 a1):=by
  have hb:a0.length * 24≤2 ^ 47:=hk.1.1
  have hl:ylA (((a0,()),(a1,()),((),()),()),(),())=some (match szG yux a0 a1 with | some r=> .inl (((r,()),()),(),()) | none=> .inr ((((-1),()),()),(),())) :=
    zkG (step:=yan) a0 ([]:List Int) (fun i k=>(((a0,()),(k,()),((i:Int),()),()),(),())) yux (fun r=> .inl (((r,()),()),(),())) (.inr ((((-1),()),()),(),())) (fun i s hi=>by
      simp only [yan,ykT,zjI (show (i:Int) < a0.length by omega),zkO hi,zjW,cond_true,wr (show -9223372036854775808≤(i:Int)+1 by omega) (by omega),Int.natCast_add,Int.natCast_one,yux]
      cases ltb (yj (a0.getD i ([]:List Int)) s) 0<;>rfl) (fun s=>by simp only [yan,ykT,zkm (Int.le_refl _),cond_false]) a1 _ (by show _ < 18446744073709551616; omega)
  unfold yh5 ym
  rw [hl]
  cases szG yux a0 a1<;>rfl
def yvu:Con:=⟨yc8,ykd,fun x=>(fun n=>some ((n,()),())) (ym x.1 x.2.1)⟩
theorem yJq:ConOk Tryz.prog 156 yvu:=(yHg).mono (fun x r hk h=>(yI0 x.1 x.2.1 hk).trans h)
end
section
def yi6:Code:=(Tryz.f157.body).getD .skip
def yov:Env:=zki TT [(21,yeW)] []
theorem yIm:FrOk Tryz.prog ⟨yov,31,fun _=>none⟩ yi6:=zkp yb yc ⟨ykB,trivial⟩
def yy0:Nat→Option Seg:=fun _=>none
def ycF:Shape:=⟨[(0,false,[.br tW]),(1,false,[.int .i64]),(5,false,[.int .i64])],[],[]⟩
def yip:Shape:=⟨[(0,false,[.br tW]),(1,false,[.int .i64]),(5,false,[.ci .i64 0])],[],[]⟩
def yii:Shape:=⟨[(1,false,[.int .i64])],[],[]⟩
def yiB:Shape:=⟨[(4,false,[.int .i64])],[],[]⟩
def yog (v0:List dW) (v1:Int) (v2:Int):Option ((ycF).X ⊕ ((yii).X ⊕ (yiB).X)) :=
  bif (ltb v2 (v0.length:Int)) then
    bif (inb v2 v0.length) then
      bif ((nth v0 v2 (0,[])).1 !=v1) then
        some (.inr (.inr ((((-1),()),()),(),())))
      else
        bif (inb v2 v0.length) then
          let r2:=yj ((nth v0 v2 (0,[])).2) (IntKind.i64.wrap (v1+1))
          bif (ltb r2 0) then
            some (.inr (.inr ((((-1),()),()),(),())))
          else
            some (.inl (((v0,()),(r2,()),((IntKind.i64.wrap (v2+1)),()),()),(),()))
        else none
    else none
  else
    some (.inr (.inl (((v1,()),()),(),())))
def ybl (x:(ycF).X):=yog x.1.1.1 x.1.2.1.1 x.1.2.2.1.1
def yvF (x:(yip).X):(ycF).X:=(((x.1.1.1,()),(x.1.2.1.1,()),(0,()),()),(),())
def yxi:Code:=(zdI yi6 64 52).getD .skip
theorem yHV:zdI yi6 64 13=some (.block 0 (.loop yxi)):=by kernel_rfl
theorem yJC (x:(ycF).X):zg7 ⟨yov,31,yy0⟩ 0 yxi 52 ycF yii yiB x=ybl x:=by kernel_rfl
def yvV (x:(yip).X):Nat:=(fun (u0:List dW) (u1:Int)=>18446744073709551616) x.1.1.1 x.1.2.1.1
def ypw (x:(yip).X):Option ((yii).X ⊕ (yiB).X):=zr ybl (yvV x) (yvF x)
def ywk:Seg:=⟨yip,yii,yiB,ypw⟩
def yy1:Nat→Option Seg:=fun q=>bif Nat.beq q 13 then some ywk else yy0 q
theorem yIn:FrOk Tryz.prog ⟨yov,31,yy1⟩ yi6:=(yIm).loop (sg:=ywk) ycF yvF (by decide) yHV ybl yvV (by decide) (fun _=>rfl) (fun x r _ h=>h) yJC
abbrev yff:List Par:= [.rd tWs,.rd tI]
abbrev yoM:List OT:= [⟨false,tI,.fz⟩]
def ykK (a0:List dW) (a1:Int):Option (ResD yoM×MutD yff) :=
  zjw (ypw (((a0,()),(a1,()),((),()),()),(),())) (fun y2 =>
    some ((y2.1.1.1,()),())) (fun y2 =>
    some ((y2.1.1.1,()),()))
theorem yQA (x:InD yff):zjH ⟨yov,31,yy1⟩ Tryz.f157.results.toList yi6 yff yoM x=ykK x.1 x.2.1:=by kernel_rfl
theorem yL8:ConOk Tryz.prog 157 ⟨yff,yoM,fun x=>ykK x.1 x.2.1⟩:=zkh (yIn) Tryz.func157 (by kernel_rfl) (by kernel_rfl) Tryz.ntmps157.symm (by decide) (fun x r h=>(yQA x).trans h)
def yDG (x:dW) (k:Int):Int:=bif x.1 !=k then -1 else yj x.2 (IntKind.i64.wrap (k+1))
def yR (a0:List (dW)) (a1:Int):Int:=(szG yDG a0 a1).getD (-1)
theorem yOK (a0:List (dW)) (a1:Int) (hk:zi9 yff (a0,a1,())):ykK a0 a1=(fun n=>some ((n,()),())) (yR a0 a1):=by
  have hb:a0.length * 32≤2 ^ 47:=hk.1.1
  have hl:ypw (((a0,()),(a1,()),((),()),()),(),())=some (match szG yDG a0 a1 with | some r=> .inl (((r,()),()),(),()) | none=> .inr ((((-1),()),()),(),())) :=
    zkG (step:=ybl) a0 ((0,[]):dW) (fun i k=>(((a0,()),(k,()),((i:Int),()),()),(),())) yDG (fun r=> .inl (((r,()),()),(),())) (.inr ((((-1),()),()),(),())) (fun i s hi=>by
      simp only [ybl,yog,zjI (show (i:Int) < a0.length by omega),zkO hi,zjW,cond_true,wr (show -9223372036854775808≤(i:Int)+1 by omega) (by omega),Int.natCast_add,Int.natCast_one,yDG]
      cases ((a0.getD i ((0,[]):dW)).1 !=s)
      · simp only [cond_false]
        cases ltb (yj (a0.getD i ((0,[]):dW)).2 (IntKind.i64.wrap (s+1))) 0<;>rfl
      · rfl) (fun s=>by simp only [ybl,yog,zkm (Int.le_refl _),cond_false]) a1 _ (by show _ < 18446744073709551616; omega)
  unfold ykK yR
  rw [hl]
  cases szG yDG a0 a1<;>rfl
def yzJ:Con:=⟨yff,yoM,fun x=>(fun n=>some ((n,()),())) (yR x.1 x.2.1)⟩
theorem yPx:ConOk Tryz.prog 157 yzJ:=(yL8).mono (fun x r hk h=>(yOK x.1 x.2.1 hk).trans h)
end
section
def ygJ:Code:=(Tryz.f80.body).getD .skip
def yl7:Env:=zki TT [(21,yeW),(156,yvu),(157,yzJ)] []
theorem yGD:FrOk Tryz.prog ⟨yl7,51,fun _=>none⟩ ygJ:=zkp yb yc ⟨ykB,yJq,yPx,trivial⟩
def ywY:Nat→Option Seg:=fun _=>none
def ybS:Shape:=⟨[(0,false,[.br tM]),(1,false,[.int .i64]),(5,false,[.int .i64])],[],[]⟩
def yhh:Shape:=⟨[(0,false,[.br tM]),(1,false,[.int .i64]),(5,false,[.ci .i64 0])],[],[]⟩
def yg2:Shape:=⟨[(1,false,[.int .i64])],[],[]⟩
def yhE:Shape:=⟨[(4,false,[.int .i64])],[],[]⟩
def ylT (v0:List dM) (v1:Int) (v2:Int):Option ((ybS).X ⊕ ((yg2).X ⊕ (yhE).X)) :=
  bif (ltb v2 (v0.length:Int)) then
    bif (inb v2 v0.length) then
      let r4:=ym ((nth v0 v2 ([],[],false,[])).1) v1
      bif (ltb r4 0) then
        some (.inr (.inr ((((-1),()),()),(),())))
      else
        bif (inb v2 v0.length) then
          let r5:=yR (((nth v0 v2 ([],[],false,[])).2).1) r4
          bif (ltb r5 0) then
            some (.inr (.inr ((((-1),()),()),(),())))
          else
            bif (inb v2 v0.length) then
              bif (!((((nth v0 v2 ([],[],false,[])).2).2).1==((r5.tmod 3)==0))) then
                some (.inr (.inr ((((-1),()),()),(),())))
              else
                bif (inb v2 v0.length) then
                  let r6:=yj ((((nth v0 v2 ([],[],false,[])).2).2).2) (IntKind.i64.wrap (r5+1))
                  bif (ltb r6 0) then
                    some (.inr (.inr ((((-1),()),()),(),())))
                  else
                    some (.inl (((v0,()),(r6,()),((IntKind.i64.wrap (v2+1)),()),()),(),()))
                else none
            else none
        else none
    else none
  else
    some (.inr (.inl (((v1,()),()),(),())))
def yaT (x:(ybS).X):=ylT x.1.1.1 x.1.2.1.1 x.1.2.2.1.1
def ytO (x:(yhh).X):(ybS).X:=(((x.1.1.1,()),(x.1.2.1.1,()),(0,()),()),(),())
def yvm:Code:=(zdI ygJ 64 52).getD .skip
theorem yF6:zdI ygJ 64 13=some (.block 0 (.loop yvm)):=by kernel_rfl
theorem yHt (x:(ybS).X):zg7 ⟨yl7,51,ywY⟩ 0 yvm 52 ybS yg2 yhE x=yaT x:=by kernel_rfl
def yt1 (x:(yhh).X):Nat:=(fun (u0:List dM) (u1:Int)=>18446744073709551616) x.1.1.1 x.1.2.1.1
def yno (x:(yhh).X):Option ((yg2).X ⊕ (yhE).X):=zr yaT (yt1 x) (ytO x)
def yui:Seg:=⟨yhh,yg2,yhE,yno⟩
def ywZ:Nat→Option Seg:=fun q=>bif Nat.beq q 13 then some yui else ywY q
theorem yGE:FrOk Tryz.prog ⟨yl7,51,ywZ⟩ ygJ:=(yGD).loop (sg:=yui) ybS ytO (by decide) yF6 yaT yt1 (by decide) (fun _=>rfl) (fun x r _ h=>h) yHt
abbrev yea:List Par:= [.rd tMs,.rd tI]
abbrev ymr:List OT:= [⟨false,tI,.fz⟩]
def yiT (a0:List dM) (a1:Int):Option (ResD ymr×MutD yea) :=
  zjw (yno (((a0,()),(a1,()),((),()),()),(),())) (fun y6 =>
    some ((y6.1.1.1,()),())) (fun y6 =>
    some ((y6.1.1.1,()),()))
theorem yNA (x:InD yea):zjH ⟨yl7,51,ywZ⟩ Tryz.f80.results.toList ygJ yea ymr x=yiT x.1 x.2.1:=by kernel_rfl
theorem yJe:ConOk Tryz.prog 80 ⟨yea,ymr,fun x=>yiT x.1 x.2.1⟩:=zkh (yGE) Tryz.func80 (by kernel_rfl) (by kernel_rfl) Tryz.ntmps80.symm (by decide) (fun x r h=>(yNA x).trans h)
def yv4 (x:dM) (k:Int):Int:=bif ltb (ym x.1 k) 0 then -1 else bif ltb (yR x.2.1 (ym x.1 k)) 0 then -1 else bif !(x.2.2.1==((yR x.2.1 (ym x.1 k)).tmod 3==0)) then -1 else yj x.2.2.2 (IntKind.i64.wrap (yR x.2.1 (ym x.1 k)+1))
def yba (a0:List (dM)) (a1:Int):Int:=(szG yv4 a0 a1).getD (-1)
theorem yLO (a0:List (dM)) (a1:Int) (hk:zi9 yea (a0,a1,())):yiT a0 a1=(fun n=>some ((n,()),())) (yba a0 a1):=by
  have hb:a0.length * 80≤2 ^ 47:=hk.1.1
  have hl:yno (((a0,()),(a1,()),((),()),()),(),())=some (match szG yv4 a0 a1 with | some r=> .inl (((r,()),()),(),()) | none=> .inr ((((-1),()),()),(),())) :=
    zkG (step:=yaT) a0 (([],[],false,[]):dM) (fun i k=>(((a0,()),(k,()),((i:Int),()),()),(),())) yv4 (fun r=> .inl (((r,()),()),(),())) (.inr ((((-1),()),()),(),())) (fun i s hi=>by
      simp only [yaT,ylT,zjI (show (i:Int) < a0.length by omega),zkO hi,zjW,cond_true,wr (show -9223372036854775808≤(i:Int)+1 by omega) (by omega),Int.natCast_add,Int.natCast_one,yv4]
      cases ltb (ym (a0.getD i (([],[],false,[]):dM)).1 s) 0
      · simp only [cond_false]
        cases ltb (yR (a0.getD i (([],[],false,[]):dM)).2.1 (ym (a0.getD i (([],[],false,[]):dM)).1 s)) 0
        · simp only [cond_false]
          cases ((a0.getD i (([],[],false,[]):dM)).2.2.1==((yR (a0.getD i (([],[],false,[]):dM)).2.1 (ym (a0.getD i (([],[],false,[]):dM)).1 s)).tmod 3==0))
          · rfl
          · simp only [Bool.not_true,cond_false]
            cases ltb (yj (a0.getD i (([],[],false,[]):dM)).2.2.2 (IntKind.i64.wrap (yR (a0.getD i (([],[],false,[]):dM)).2.1 (ym (a0.getD i (([],[],false,[]):dM)).1 s)+1))) 0<;>rfl
        · rfl
      · rfl) (fun s=>by simp only [yaT,ylT,zkm (Int.le_refl _),cond_false]) a1 _ (by show _ < 18446744073709551616; omega)
  unfold yiT yba
  rw [hl]
  cases szG yv4 a0 a1<;>rfl
def yxx:Con:=⟨yea,ymr,fun x=>(fun n=>some ((n,()),())) (yba x.1 x.2.1)⟩
theorem yMq:ConOk Tryz.prog 80 yxx:=(yJe).mono (fun x r hk h=>(yLO x.1 x.2.1 hk).trans h)
theorem yV4 (l:List dW) (k:Int) (h0:0≤k) (h:k+((l.map (fun x:dW=>1+x.2.length)).sum:Nat)≤9223372036854775807):(zaX yMR l k).1=k+((l.map (fun x:dW=>1+x.2.length)).sum:Nat)∧szG yDG (zaX yMR l k).2 k=some (k+((l.map (fun x:dW=>1+x.2.length)).sum:Nat)) :=
  ziN (m:=fun x:dW=>1+x.2.length) (fun x k h0 h=>by
    have hw:IntKind.i64.wrap (k+1)=k+1:=wr (by omega) (by omega)
    unfold yMR yDG
    simp only [hw,bne_self_eq_false,cond_false,yyC,yoZ x.2.length (k+1) (by omega) (by omega)]
    omega) l k h0 h
theorem yVv (l:List (List Int)) (k:Int) (h0:0≤k) (h:k+((l.map (fun x:List Int=>x.length)).sum:Nat)≤9223372036854775807):(zaX yAI l k).1=k+((l.map (fun x:List Int=>x.length)).sum:Nat)∧szG yux (zaX yAI l k).2 k=some (k+((l.map (fun x:List Int=>x.length)).sum:Nat)) :=
  ziN (m:=fun x:List Int=>x.length) (fun x k h0 h=>by
    unfold yAI yux yH
    simp only [yyC,yoZ x.length k (by omega) (by omega),and_self]) l k h0 h
theorem yV3 (x:dM) (k:Int) (h0:0≤k) (h:k+(ypG x:Nat)≤9223372036854775807):(yyG x k).1=k+(ypG x:Nat)∧yv4 (yyG x k).2 k=k+(ypG x:Nat):=by
  unfold ypG at h ⊢
  obtain ⟨a1,a2⟩:=yVv x.1 k h0 (by omega)
  obtain ⟨b1,b2⟩:=yV4 x.2.1 (k+((x.1.map (fun x:List Int=>x.length)).sum:Nat)) (by omega) (by omega)
  have hw: ∀ n:Int,0≤n→n+1≤9223372036854775807→IntKind.i64.wrap (n+1)=n+1:=fun n h1 h2=>wr (by omega) (by omega)
  unfold yyG yv4
  simp only [yJ,yaK,yH,ym,yR,a1,a2,b1,b2,Option.getD_some]
  rw [hw _ (by omega) (by omega),zkm (show 0≤k+((x.1.map (fun x:List Int=>x.length)).sum:Nat) by omega),cond_false,zkm (by omega),cond_false,beq_self_eq_true,Bool.not_true,cond_false,yyC,yoZ _ _ (by omega) (by omega)]
  omega
theorem ySl (l:List dM) (k:Int) (h0:0≤k) (h:k+(ymL l:Nat)≤9223372036854775807):(zaX yyG l k).1=k+(ymL l:Nat)∧szG yv4 (zaX yyG l k).2 k=some (k+(ymL l:Nat)) :=
  ziN (m:=ypG) (fun x k h0 h=>yV3 x k h0 h) l k h0 h
theorem yXe (l:List dM) (h:ymL l≤4611686018427387904):(yaj l 1).1=1+(ymL l:Nat)∧yba (yaj l 1).2 1=1+(ymL l:Nat):=by
  obtain ⟨h1,h2⟩:=ySl l 1 (by omega) (by omega)
  unfold yba yaj
  exact ⟨h1,by rw [h2]; rfl⟩
end
section
def ygH:Code:=(Tryz.f81.body).getD .skip
def yl5:Env:=zki TT [(21,yeW)] []
theorem yGz:FrOk Tryz.prog ⟨yl5,31,fun _=>none⟩ ygH:=zkp yb yc ⟨ykB,trivial⟩
def ywU:Nat→Option Seg:=fun _=>none
def ybQ:Shape:=⟨[(0,false,[.br tW]),(1,false,[.int .i64]),(5,false,[.int .i64])],[],[]⟩
def yhf:Shape:=⟨[(0,false,[.br tW]),(1,false,[.int .i64]),(5,false,[.ci .i64 0])],[],[]⟩
def yg0:Shape:=⟨[(1,false,[.int .i64])],[],[]⟩
def yhC:Shape:=⟨[(4,false,[.int .i64])],[],[]⟩
def ylR (v0:List dW) (v1:Int) (v2:Int):Option ((ybQ).X ⊕ ((yg0).X ⊕ (yhC).X)) :=
  bif (ltb v2 (v0.length:Int)) then
    bif (inb v2 v0.length) then
      bif ((nth v0 v2 (0,[])).1 !=v1) then
        some (.inr (.inr ((((-1),()),()),(),())))
      else
        bif (inb v2 v0.length) then
          let r2:=yj ((nth v0 v2 (0,[])).2) (IntKind.i64.wrap (v1+1))
          bif (ltb r2 0) then
            some (.inr (.inr ((((-1),()),()),(),())))
          else
            some (.inl (((v0,()),(r2,()),((IntKind.i64.wrap (v2+1)),()),()),(),()))
        else none
    else none
  else
    some (.inr (.inl (((v1,()),()),(),())))
def yaR (x:(ybQ).X):=ylR x.1.1.1 x.1.2.1.1 x.1.2.2.1.1
def ytM (x:(yhf).X):(ybQ).X:=(((x.1.1.1,()),(x.1.2.1.1,()),(0,()),()),(),())
def yvk:Code:=(zdI ygH 64 52).getD .skip
theorem yF4:zdI ygH 64 13=some (.block 0 (.loop yvk)):=by kernel_rfl
theorem yHr (x:(ybQ).X):zg7 ⟨yl5,31,ywU⟩ 0 yvk 52 ybQ yg0 yhC x=yaR x:=by kernel_rfl
def ytZ (x:(yhf).X):Nat:=(fun (u0:List dW) (u1:Int)=>18446744073709551616) x.1.1.1 x.1.2.1.1
def ynm (x:(yhf).X):Option ((yg0).X ⊕ (yhC).X):=zr yaR (ytZ x) (ytM x)
def yug:Seg:=⟨yhf,yg0,yhC,ynm⟩
def ywV:Nat→Option Seg:=fun q=>bif Nat.beq q 13 then some yug else ywU q
theorem yGA:FrOk Tryz.prog ⟨yl5,31,ywV⟩ ygH:=(yGz).loop (sg:=yug) ybQ ytM (by decide) yF4 yaR ytZ (by decide) (fun _=>rfl) (fun x r _ h=>h) yHr
abbrev yd8:List Par:= [.rd tWs,.rd tI]
abbrev ymp:List OT:= [⟨false,tI,.fz⟩]
def yiR (a0:List dW) (a1:Int):Option (ResD ymp×MutD yd8) :=
  zjw (ynm (((a0,()),(a1,()),((),()),()),(),())) (fun y2 =>
    some ((y2.1.1.1,()),())) (fun y2 =>
    some ((y2.1.1.1,()),()))
theorem yNy (x:InD yd8):zjH ⟨yl5,31,ywV⟩ Tryz.f81.results.toList ygH yd8 ymp x=yiR x.1 x.2.1:=by kernel_rfl
theorem yJc:ConOk Tryz.prog 81 ⟨yd8,ymp,fun x=>yiR x.1 x.2.1⟩:=zkh (yGA) Tryz.func81 (by kernel_rfl) (by kernel_rfl) Tryz.ntmps81.symm (by decide) (fun x r h=>(yNy x).trans h)
def yAk (x:dW) (k:Int):Int:=bif x.1 !=k then -1 else yj x.2 (IntKind.i64.wrap (k+1))
def yeo (a0:List (dW)) (a1:Int):Int:=(szG yAk a0 a1).getD (-1)
theorem yLM (a0:List (dW)) (a1:Int) (hk:zi9 yd8 (a0,a1,())):yiR a0 a1=(fun n=>some ((n,()),())) (yeo a0 a1):=by
  have hb:a0.length * 32≤2 ^ 47:=hk.1.1
  have hl:ynm (((a0,()),(a1,()),((),()),()),(),())=some (match szG yAk a0 a1 with | some r=> .inl (((r,()),()),(),()) | none=> .inr ((((-1),()),()),(),())) :=
    zkG (step:=yaR) a0 ((0,[]):dW) (fun i k=>(((a0,()),(k,()),((i:Int),()),()),(),())) yAk (fun r=> .inl (((r,()),()),(),())) (.inr ((((-1),()),()),(),())) (fun i s hi=>by
      simp only [yaR,ylR,zjI (show (i:Int) < a0.length by omega),zkO hi,zjW,cond_true,wr (show -9223372036854775808≤(i:Int)+1 by omega) (by omega),Int.natCast_add,Int.natCast_one,yAk]
      cases ((a0.getD i ((0,[]):dW)).1 !=s)
      · simp only [cond_false]
        cases ltb (yj (a0.getD i ((0,[]):dW)).2 (IntKind.i64.wrap (s+1))) 0<;>rfl
      · rfl) (fun s=>by simp only [yaR,ylR,zkm (Int.le_refl _),cond_false]) a1 _ (by show _ < 18446744073709551616; omega)
  unfold yiR yeo
  rw [hl]
  cases szG yAk a0 a1<;>rfl
def yxw:Con:=⟨yd8,ymp,fun x=>(fun n=>some ((n,()),())) (yeo x.1 x.2.1)⟩
theorem yMp:ConOk Tryz.prog 81 yxw:=(yJc).mono (fun x r hk h=>(yLM x.1 x.2.1 hk).trans h)
theorem yVE (l:List dW) (k:Int) (h0:0≤k) (h:k+(yHD l:Nat)≤9223372036854775807):(zaX yDU l k).1=k+(yHD l:Nat)∧szG yAk (zaX yDU l k).2 k=some (k+(yHD l:Nat)) :=
  ziN (m:=fun x:dW=>1+x.2.length) (fun x k h0 h=>by
    have hw:IntKind.i64.wrap (k+1)=k+1:=wr (by omega) (by omega)
    unfold yDU yAk
    simp only [hw,bne_self_eq_false,cond_false,yyC,yoZ x.2.length (k+1) (by omega) (by omega)]
    omega) l k h0 h
end
section
def yCm:Code:=(Tryz.f24.body).getD .skip
def yCM:Env:=zki TT [(80,yxx),(81,yxw)] []
theorem yIl:FrOk Tryz.prog ⟨yCM,18,fun _=>none⟩ yCm:=zkp yb yc ⟨yMq,yMp,trivial⟩
def yJ0:Nat→Option Seg:=fun _=>none
abbrev yjq:List Par:= [.rd tA,.rd tI]
abbrev yoL:List OT:= [⟨false,tI,.fz⟩]
def yrK (a0:dA) (a1:Int):Option (ResD yoL×MutD yjq) :=
  let r1:=yba a0.2.2.1 a1
  bif (ltb r1 0) then
    some (((-1),()),())
  else
    let r2:=yeo a0.2.2.2.2.2.2.2.2.1 r1
    bif (ltb r2 0) then
      some (((-1),()),())
    else
      some ((r2,()),())
theorem yQz (x:InD yjq):zjH ⟨yCM,18,yJ0⟩ Tryz.f24.results.toList yCm yjq yoL x=yrK x.1 x.2.1:=by kernel_rfl
theorem yL7:ConOk Tryz.prog 24 ⟨yjq,yoL,fun x=>yrK x.1 x.2.1⟩:=zkh (yIl) Tryz.func24 (by kernel_rfl) (by kernel_rfl) Tryz.ntmps24.symm (by decide) (fun x r h=>(yQz x).trans h)
def yb1 (a0:dA) (a1:Int):Int :=
  let r1:=yba a0.2.2.1 a1
  bif (ltb r1 0) then
    (-1)
  else
    let r2:=yeo a0.2.2.2.2.2.2.2.2.1 r1
    bif (ltb r2 0) then
      (-1)
    else
      r2
def yzI:Con:=⟨yjq,yoL,fun x=>(fun n=>some ((n,()),())) (yb1 x.1 x.2.1)⟩
theorem yOJ (a0:dA) (a1:Int):yrK a0 a1=(fun n=>some ((n,()),())) (yb1 a0 a1):=zkS (p:=fun (n:Int)=>((n,()),())) (zkx (p:=fun (n:Int)=>((n,()),())) rfl (zkx (p:=fun (n:Int)=>((n,()),())) rfl rfl))
theorem yPw:ConOk Tryz.prog 24 yzI:=(yL7).mono (fun x r _ h=>(yOJ x.1 x.2.1).trans h)
theorem yWE {x:dA} (h:ygd x≤4611686018427387904):(yE x 1).1=1+(ygd x:Nat)∧yb1 (yE x 1).2 1=1+(ygd x:Nat):=by
  unfold ygd at h ⊢
  obtain ⟨a1,a2⟩:=ySl x.2.2.1 1 (by omega) (by omega)
  obtain ⟨b1,b2⟩:=yVE x.2.2.2.2.2.2.2.2.1 (1+(ymL x.2.2.1:Nat)) (by omega) (by omega)
  unfold yE yb1
  simp only [yaj,yep,yba,yeo,a1,a2,b1,b2,Option.getD_some]
  rw [zkm (show (0:Int)≤1+(ymL x.2.2.1:Nat) by omega),cond_false,zkm (by omega),cond_false]
  omega
abbrev yQV (x:dA):dA:=(x.1,x.2.1,(yE x 1).2.2.2.1,x.2.2.2.1,x.2.2.2.2.1,x.2.2.2.2.2.1,x.2.2.2.2.2.2.1,x.2.2.2.2.2.2.2.1,(yE x 1).2.2.2.2.2.2.2.2.2.1,x.2.2.2.2.2.2.2.2.2)
theorem yVp {x:dA} (h:ygd x≤4611686018427387904):ltb (yE x 1).1 0=false∧ltb (yb1 (yQV x) 1) 0=false∧(yb1 (yQV x) 1 !=(yE x 1).1)=false:=by
  obtain ⟨h1,h2⟩:=yWE h
  rw [show yQV x=(yE x 1).2 from rfl,h1,h2]
  exact ⟨zkm (by omega),zkm (by omega),by simp⟩
end
section
def ycY:Code:=(Tryz.f147.body).getD .skip
def yge:Env:=zki TT [] [(21056,.fz),(21120,.fz),(37952,(.pr .fz .fz)),(38016,(.pr .fz .fz))]
theorem yK0:FrOk Tryz.prog ⟨yge,60,fun _=>none⟩ ycY:=zkp yb yc trivial
def yBg:Nat→Option Seg:=fun _=>none
def ybG:Shape:=⟨[(1,false,[.ptr 0 0]),(2,false,[.ptr 64 0]),(3,false,[.ptr 4544 0]),(4,false,[.int .i64])],[(0,[.br tL,.br tW,.bool,.br tI]),(64,[.nil,.nil,.bool,.nil]),(4544,[.at 800000001,.nil,.bool,.at 800000000])],[(800000001,tL,.fz),(800000000,tI,.fz)]⟩
def yfG:Shape:=⟨[(1,false,[.ptr 0 0]),(2,false,[.ptr 64 0]),(3,false,[.ptr 4544 0]),(4,false,[.ci .i64 0])],[(0,[.br tL,.br tW,.bool,.br tI]),(64,[.nil,.nil,.bool,.nil]),(4544,[.at 800000001,.nil,.bool,.at 800000000])],[(800000001,tL,.fz),(800000000,tI,.fz)]⟩
def yfy:Shape:=⟨[(1,false,[.ptr 0 0]),(2,false,[.ptr 64 0]),(3,false,[.ptr 4544 0])],[(0,[.br tL,.br tW,.bool,.br tI]),(64,[.nil,.nil,.bool,.nil]),(4544,[.at 800000000,.nil,.bool,.at 800000001])],[(800000000,tL,.fz),(800000001,tI,.fz)]⟩
def ykq:Shape:=⟨[],[],[]⟩
abbrev ypK (v0:Int) (v1:dM) (v2:dM) (v3:dM):(ybG).X:=((((),()),((),()),((),()),(v0,()),()),((v1.1,v1.2.1,v1.2.2.1,v1.2.2.2,()),((),(),v2.2.2.1,(),()),((),(),v3.2.2.1,(),()),()),(v3.1,v3.2.2.2,()))
abbrev yIO (v0:dM) (v1:dM) (v2:dM):(yfG).X:=((((),()),((),()),((),()),((),()),()),((v0.1,v0.2.1,v0.2.2.1,v0.2.2.2,()),((),(),v1.2.2.1,(),()),((),(),v2.2.2.1,(),()),()),(v2.1,v2.2.2.2,()))
abbrev yyc (v0:dM) (v1:dM) (v2:dM):(yfy).X:=((((),()),((),()),((),()),()),((v0.1,v0.2.1,v0.2.2.1,v0.2.2.2,()),((),(),v1.2.2.1,(),()),((),(),v2.2.2.1,(),()),()),(v2.1,v2.2.2.2,()))
def yp3 (v0:Int) (v1:List (List Int)) (v2:List dW) (v3:Bool) (v4:List Int) (v5:Bool) (v6:Bool) (v7:List (List Int)) (v8:List Int):Option ((ybG).X ⊕ ((yfy).X ⊕ (ykq).X)) :=
  bif (ltb v0 (v1.length:Int)) then
    bif (inb v0 v1.length) then
      bif (zj4 ([]:List Int).length (nth v1 v0 []).length 8) then
        bif (zj4 v7.length ([(([]:List Int)++(nth v1 v0 []))]:List (List Int)).length 24) then
          some (.inl ((((),()),((),()),((),()),((IntKind.i64.wrap (v0+1)),()),()),((v1,v2,v3,v4,()),((),(),v5,(),()),((),(),v6,(),()),()),((v7++([(([]:List Int)++(nth v1 v0 []))]:List (List Int))),v8,())))
        else none
      else none
    else none
  else
    some (.inr (.inl ((((),()),((),()),((),()),()),((v1,v2,v3,v4,()),((),(),v5,(),()),((),(),v6,(),()),()),(v7,v8,()))))
def ycg (x:(ybG).X):=yp3 x.1.2.2.2.1.1 x.2.1.1.1 x.2.1.1.2.1 x.2.1.1.2.2.1 x.2.1.1.2.2.2.1 x.2.1.2.1.2.2.1 x.2.1.2.2.1.2.2.1 x.2.2.1 x.2.2.2.1
def yxR (x:(yfG).X):(ybG).X:=((((),()),((),()),((),()),(0,()),()),((x.2.1.1.1,x.2.1.1.2.1,x.2.1.1.2.2.1,x.2.1.1.2.2.2.1,()),((),(),x.2.1.2.1.2.2.1,(),()),((),(),x.2.1.2.2.1.2.2.1,(),()),()),(x.2.2.1,x.2.2.2.1,()))
def yzx:Code:=(zdI ycY 64 116).getD .skip
theorem yKg:zdI ycY 64 29=some (.block 0 (.loop yzx)):=by kernel_rfl
theorem yML (x:(ybG).X):zg7 ⟨yge,60,yBg⟩ 0 yzx 116 ybG yfy ykq x=ycg x:=by kernel_rfl
def yx7 (x:(yfG).X):Nat:=(fun (u0:List (List Int)) (u1:List dW) (u2:Bool) (u3:List Int) (u4:Bool) (u5:Bool) (u6:List (List Int)) (u7:List Int)=>18446744073709551616) x.2.1.1.1 x.2.1.1.2.1 x.2.1.1.2.2.1 x.2.1.1.2.2.2.1 x.2.1.2.1.2.2.1 x.2.1.2.2.1.2.2.1 x.2.2.1 x.2.2.2.1
def yrn (x:(yfG).X):Option ((yfy).X ⊕ (ykq).X):=zr ycg (yx7 x) (yxR x)
def yyt:Seg:=⟨yfG,yfy,ykq,yrn⟩
def ysa:Nat→Option Seg:=fun q=>bif Nat.beq q 29 then some yyt else yBg q
theorem yK1:FrOk Tryz.prog ⟨yge,60,ysa⟩ ycY:=(yK0).loop (sg:=yyt) ybG yxR (by decide) yKg ycg yx7 (by decide) (fun _=>rfl) (fun x r _ h=>h) yML
def ybH:Shape:=⟨[(1,false,[.ptr 0 0]),(2,false,[.ptr 64 0]),(3,false,[.ptr 4544 0]),(5,false,[.int .i64])],[(0,[.br tL,.br tW,.bool,.br tI]),(64,[.nil,.nil,.bool,.nil]),(4544,[.at 800000000,.at 800000002,.bool,.at 800000001])],[(800000000,tL,.fz),(800000002,tW,(.pr .fz .fz)),(800000001,tI,.fz)]⟩
def yfH:Shape:=⟨[(1,false,[.ptr 0 0]),(2,false,[.ptr 64 0]),(3,false,[.ptr 4544 0]),(5,false,[.ci .i64 0])],[(0,[.br tL,.br tW,.bool,.br tI]),(64,[.nil,.nil,.bool,.nil]),(4544,[.at 800000000,.at 800000002,.bool,.at 800000001])],[(800000000,tL,.fz),(800000002,tW,(.pr .fz .fz)),(800000001,tI,.fz)]⟩
def yfz:Shape:=⟨[(2,false,[.ptr 64 0]),(3,false,[.ptr 4544 0])],[(64,[.nil,.nil,.bool,.nil]),(4544,[.at 800000000,.at 800000001,.bool,.at 800000002])],[(800000000,tL,.fz),(800000001,tW,(.pr .fz .fz)),(800000002,tI,.fz)]⟩
def ykr:Shape:=⟨[],[],[]⟩
abbrev ypL (v0:Int) (v1:dM) (v2:dM) (v3:dM):(ybH).X:=((((),()),((),()),((),()),(v0,()),()),((v1.1,v1.2.1,v1.2.2.1,v1.2.2.2,()),((),(),v2.2.2.1,(),()),((),(),v3.2.2.1,(),()),()),(v3.1,v3.2.1,v3.2.2.2,()))
abbrev yIP (v0:dM) (v1:dM) (v2:dM):(yfH).X:=((((),()),((),()),((),()),((),()),()),((v0.1,v0.2.1,v0.2.2.1,v0.2.2.2,()),((),(),v1.2.2.1,(),()),((),(),v2.2.2.1,(),()),()),(v2.1,v2.2.1,v2.2.2.2,()))
abbrev yyd (v0:dM) (v1:dM):(yfz).X:=((((),()),((),()),()),(((),(),v0.2.2.1,(),()),((),(),v1.2.2.1,(),()),()),(v1.1,v1.2.1,v1.2.2.2,()))
def yp4 (v0:Int) (v1:List (List Int)) (v2:List dW) (v3:Bool) (v4:List Int) (v5:Bool) (v6:Bool) (v7:List (List Int)) (v8:List dW) (v9:List Int):Option ((ybH).X ⊕ ((yfz).X ⊕ (ykr).X)) :=
  bif (ltb v0 (v2.length:Int)) then
    bif (inb v0 v2.length) then
      bif (inb v0 v2.length) then
        bif (zj4 ([]:List Int).length ((nth v2 v0 (0,[])).2).length 8) then
          bif (zj4 v8.length ([((nth v2 v0 (0,[])).1,(([]:List Int)++((nth v2 v0 (0,[])).2)))]:List dW).length 32) then
            some (.inl ((((),()),((),()),((),()),((IntKind.i64.wrap (v0+1)),()),()),((v1,v2,v3,v4,()),((),(),v5,(),()),((),(),v6,(),()),()),(v7,(v8++([((nth v2 v0 (0,[])).1,(([]:List Int)++((nth v2 v0 (0,[])).2)))]:List dW)),v9,())))
          else none
        else none
      else none
    else none
  else
    some (.inr (.inl ((((),()),((),()),()),(((),(),v5,(),()),((),(),v6,(),()),()),(v7,v8,v9,()))))
def ych (x:(ybH).X):=yp4 x.1.2.2.2.1.1 x.2.1.1.1 x.2.1.1.2.1 x.2.1.1.2.2.1 x.2.1.1.2.2.2.1 x.2.1.2.1.2.2.1 x.2.1.2.2.1.2.2.1 x.2.2.1 x.2.2.2.1 x.2.2.2.2.1
def yxS (x:(yfH).X):(ybH).X:=((((),()),((),()),((),()),(0,()),()),((x.2.1.1.1,x.2.1.1.2.1,x.2.1.1.2.2.1,x.2.1.1.2.2.2.1,()),((),(),x.2.1.2.1.2.2.1,(),()),((),(),x.2.1.2.2.1.2.2.1,(),()),()),(x.2.2.1,x.2.2.2.1,x.2.2.2.2.1,()))
def yzy:Code:=(zdI ycY 64 244).getD .skip
theorem yKh:zdI ycY 64 61=some (.block 2 (.loop yzy)):=by kernel_rfl
theorem yMM (x:(ybH).X):zg7 ⟨yge,60,ysa⟩ 2 yzy 244 ybH yfz ykr x=ych x:=by kernel_rfl
def yx8 (x:(yfH).X):Nat:=(fun (u0:List (List Int)) (u1:List dW) (u2:Bool) (u3:List Int) (u4:Bool) (u5:Bool) (u6:List (List Int)) (u7:List dW) (u8:List Int)=>18446744073709551616) x.2.1.1.1 x.2.1.1.2.1 x.2.1.1.2.2.1 x.2.1.1.2.2.2.1 x.2.1.2.1.2.2.1 x.2.1.2.2.1.2.2.1 x.2.2.1 x.2.2.2.1 x.2.2.2.2.1
def yro (x:(yfH).X):Option ((yfz).X ⊕ (ykr).X):=zr ych (yx8 x) (yxS x)
def yyu:Seg:=⟨yfH,yfz,ykr,yro⟩
def yBh:Nat→Option Seg:=fun q=>bif Nat.beq q 61 then some yyu else ysa q
theorem yK2:FrOk Tryz.prog ⟨yge,60,yBh⟩ ycY:=(yK1).loop (sg:=yyu) ybH yxS (by decide) yKh ych yx8 (by decide) (fun _=>rfl) (fun x r _ h=>h) yMM
abbrev ygs:List Par:= [.rd tM]
abbrev yq0:List OT:= [⟨false,tM,(.pr (.ow .fz) (.pr (.ow (.pr .fz .fz)) (.pr .fz (.ow .fz))))⟩]
def ym3 (a0:dM):Option (ResD yq0×MutD ygs) :=
  bif (zj4 ([]:List Int).length a0.2.2.2.length 8) then
    zjw (yrn ((((),()),((),()),((),()),((),()),()),((a0.1,a0.2.1,a0.2.2.1,a0.2.2.2,()),((),(),false,(),()),((),(),a0.2.2.1,(),()),()),([],(([]:List Int)++a0.2.2.2),()))) (fun y0 =>
      zjw (yro ((((),()),((),()),((),()),((),()),()),((y0.2.1.1.1,y0.2.1.1.2.1,y0.2.1.1.2.2.1,y0.2.1.1.2.2.2.1,()),((),(),y0.2.1.2.1.2.2.1,(),()),((),(),y0.2.1.2.2.1.2.2.1,(),()),()),(y0.2.2.1,[],y0.2.2.2.1,()))) (fun y1 =>
        some (((y1.2.2.1,y1.2.2.2.1,y1.2.1.2.1.2.2.1,y1.2.2.2.2.1),()),())) (fun y1 =>
        none)) (fun y0 =>
      none)
  else none
theorem ySZ (x:InD ygs):zjH ⟨yge,60,yBh⟩ Tryz.f147.results.toList ycY ygs yq0 x=ym3 x.1:=by kernel_rfl
theorem yPk:ConOk Tryz.prog 147 ⟨ygs,yq0,fun x=>ym3 x.1⟩:=zkh (yK2) Tryz.func147 (by kernel_rfl) (by kernel_rfl) Tryz.ntmps147.symm (by decide) (fun x r h=>(ySZ x).trans h)
def ybz (a0:dM):dM:=a0
theorem yRk (a0:dM) (hk:zi9 ygs (a0,())):ym3 a0=(fun n=>some ((n,()),())) (ybz a0):=by
  have hb1:a0.1.length * 24≤2 ^ 47:=hk.1.1.1
  have hb2:a0.2.1.length * 32≤2 ^ 47:=hk.1.2.1.1
  have hb3:a0.2.2.2.length * 8≤2 ^ 47:=hk.1.2.2.2.1
  have hs: ∀ i,i < a0.1.length→(a0.1.getD i []).length * 8≤2 ^ 47:=fun i hi=>by rw [zcq hi]; exact (hk.1.1.2 _ (List.getElem_mem hi)).1
  have hc: ∀ i,i < a0.2.1.length→(a0.2.1.getD i (0,[])).2.length * 8≤2 ^ 47:=fun i hi=>by rw [zcq hi]; exact (hk.1.2.1.2 _ (List.getElem_mem hi)).2.1
  have h1:yrn (yIO a0 yf ([],[],a0.2.2.1,a0.2.2.2))=some (.inl (yyc a0 yf (a0.1,[],a0.2.2.1,a0.2.2.2))):=by
    have:=zkk (step:=ycg) a0.1 [] (fun i s=>ypK i a0 yf (s,[],a0.2.2.1,a0.2.2.2)) (fun s x=>s++ [x]) (fun i s=>s.length=i) (fun s=> .inl (yyc a0 yf (s,[],a0.2.2.1,a0.2.2.2))) (fun i s hi hs2=>⟨by
      have:=hs i hi
      simp only [ycg,ypK,yp3,zjI (show (i:Int) < a0.1.length by omega),cond_true,wr (show -9223372036854775808≤(i:Int)+1 by omega) (by omega),Int.natCast_add,Int.natCast_one,Int.toNat_natCast,zkO hi,zjW,List.nil_append]
      rw [zkw.2 (show (([]:List Int).length+(a0.1.getD i []).length) * 8≤140737488355328 by rw [List.length_nil]; omega),zkw.2 (show (s.length+ [a0.1.getD i []].length) * 24≤140737488355328 by simp only [List.length_cons,List.length_nil]; omega)]; rfl,by simp [hs2]⟩) (fun s _=>by simp only [ycg,ypK,yp3,zkm (Int.le_refl _),cond_false]) [] rfl 18446744073709551616 (by omega)
    rw [yrv]at this
    exact this
  have h2:yro (yIP a0 yf (a0.1,[],a0.2.2.1,a0.2.2.2))=some (.inl (yyd yf a0)):=by
    have:=zkk (step:=ych) a0.2.1 (0,[]) (fun i s=>ypL i a0 yf (a0.1,s,a0.2.2.1,a0.2.2.2)) (fun s x=>s++ [x]) (fun i s=>s.length=i) (fun s=> .inl (yyd yf (a0.1,s,a0.2.2.1,a0.2.2.2))) (fun i s hi hs2=>⟨by
      have:=hc i hi
      simp only [ych,ypL,yp4,zjI (show (i:Int) < a0.2.1.length by omega),cond_true,wr (show -9223372036854775808≤(i:Int)+1 by omega) (by omega),Int.natCast_add,Int.natCast_one,Int.toNat_natCast,zkO hi,zjW,List.nil_append,zkV]
      rw [zkw.2 (show (([]:List Int).length+(a0.2.1.getD i (0,[])).2.length) * 8≤140737488355328 by rw [List.length_nil]; omega),zkw.2 (show (s.length+ [a0.2.1.getD i (0,[])].length) * 32≤140737488355328 by simp only [List.length_cons,List.length_nil]; omega)]; rfl,by simp [hs2]⟩) (fun s _=>by simp only [ych,ypL,yp4,zkm (Int.le_refl _),cond_false]) [] rfl 18446744073709551616 (by omega)
    rw [yrv]at this
    exact this
  unfold ym3 ybz
  rw [zkw.2 (show (([]:List Int).length+a0.2.2.2.length) * 8≤140737488355328 by rw [List.length_nil]; omega)]
  simp only [cond_true,List.nil_append,h1,zkJ,h2]
def ymI:Con:=⟨ygs,yq0,fun x=>(fun n=>some ((n,()),())) (ybz x.1)⟩
theorem yuA:ConOk Tryz.prog 147 ymI:=(yPk).mono (fun x r hk h=>(yRk x.1 hk).trans h)
end
end
end Go.Tf
