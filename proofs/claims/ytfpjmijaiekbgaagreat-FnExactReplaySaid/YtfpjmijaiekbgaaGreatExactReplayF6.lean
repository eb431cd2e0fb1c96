/- Functions of the program, and what they come to. -/
import Derived.Test.YtfpjmijaiekbgaaGreatExactReplayF5
namespace Go.Tf
noncomputable section
open Go.Proofs
set_option synthInstance.maxHeartbeats 400000
set_option synthInstance.maxSize 10000
set_option linter.unusedVariables false
set_option linter.unusedSimpArgs false
set_option maxRecDepth 100000
section
def yfu:Code:=(Tryz.f156.body).getD .skip
def ykl:Env:=zki TT [(21,ye3)] []
theorem yGv:FrOk Tryz.prog ⟨ykl,21,fun _=>none⟩ yfu:=zkp yb yc ⟨yk5,trivial⟩
def ywf:Nat→Option Seg:=fun _=>none
def ybd:Shape:=⟨[(0,false,[.br tL]),(1,false,[.int .i64]),(5,false,[.int .i64])],[],[]⟩
def yf7:Shape:=⟨[(0,false,[.br tL]),(1,false,[.int .i64]),(5,false,[.ci .i64 0])],[],[]⟩
def yf5:Shape:=⟨[(1,false,[.int .i64])],[],[]⟩
def yga:Shape:=⟨[(4,false,[.int .i64])],[],[]⟩
def ylo (v0:List (List Int)) (v1:Int) (v2:Int):Option ((ybd).X ⊕ ((yf5).X ⊕ (yga).X)) :=
  bif (ltb v2 (v0.length:Int)) then
    bif (inb v2 v0.length) then
      let r2:=yl (nth v0 v2 []) v1
      bif (ltb r2 0) then
        some (.inr (.inr ((((-1),()),()),(),())))
      else
        some (.inl (((v0,()),(r2,()),((IntKind.i64.wrap (v2+1)),()),()),(),()))
    else none
  else
    some (.inr (.inl (((v1,()),()),(),())))
def yam (x:(ybd).X):=ylo x.1.1.1 x.1.2.1.1 x.1.2.2.1.1
def yui (x:(yf7).X):(ybd).X:=(((x.1.1.1,()),(x.1.2.1.1,()),(0,()),()),(),())
def yuR:Code:=(zdI yfu 64 52).getD .skip
theorem yGm:zdI yfu 64 13=some (.block 0 (.loop yuR)):=by kernel_rfl
theorem yGO (x:(ybd).X):zg7 ⟨ykl,21,ywf⟩ 0 yuR 52 ybd yf5 yga x=yam x:=by kernel_rfl
def yum (x:(yf7).X):Nat:=(fun (u0:List (List Int)) (u1:Int)=>18446744073709551616) x.1.1.1 x.1.2.1.1
def ymd (x:(yf7).X):Option ((yf5).X ⊕ (yga).X):=zr yam (yum x) (yui x)
def yuL:Seg:=⟨yf7,yf5,yga,ymd⟩
def ywg:Nat→Option Seg:=fun q=>bif Nat.beq q 13 then some yuL else ywf q
theorem yGw:FrOk Tryz.prog ⟨ykl,21,ywg⟩ yfu:=(yGv).loop (sg:=yuL) ybd yui (by decide) yGm yam yum (by decide) (fun _=>rfl) (fun x r _ h=>h) yGO
abbrev ydk:List Par:= [.rd tLL,.rd tI]
abbrev ykH:List OT:= [⟨false,tI,.fz⟩]
def yik (a0:List (List Int)) (a1:Int):Option (ResD ykH×MutD ydk) :=
  zjw (ymd (((a0,()),(a1,()),((),()),()),(),())) (fun y2 =>
    some ((y2.1.1.1,()),())) (fun y2 =>
    some ((y2.1.1.1,()),()))
theorem yMe (x:InD ydk):zjH ⟨ykl,21,ywg⟩ Tryz.f156.results.toList yfu ydk ykH x=yik x.1 x.2.1:=by kernel_rfl
theorem yIV:ConOk Tryz.prog 156 ⟨ydk,ykH,fun x=>yik x.1 x.2.1⟩:=zkh (yGw) Tryz.func156 (by kernel_rfl) (by kernel_rfl) Tryz.ntmps156.symm (by decide) (fun x r h=>(yMe x).trans h)
def yvF (x:List Int) (k:Int):Int:=yl x k
def yn (a0:List (List Int)) (a1:Int):Int:=(szG yvF a0 a1).getD (-1)
theorem yKM (a0:List (List Int)) (a1:Int) (hk:zi9 ydk (a0,a1,())):yik a0 a1=(fun n=>some ((n,()),())) (yn a0 a1):=by
  have hb:a0.length * 24≤2 ^ 47:=hk.1.1
  have hl:ymd (((a0,()),(a1,()),((),()),()),(),())=some (match szG yvF a0 a1 with | some r=> .inl (((r,()),()),(),()) | none=> .inr ((((-1),()),()),(),())) :=
    zkG (step:=yam) a0 ([]:List Int) (fun i k=>(((a0,()),(k,()),((i:Int),()),()),(),())) yvF (fun r=> .inl (((r,()),()),(),())) (.inr ((((-1),()),()),(),())) (fun i s hi=>by
      simp only [yam,ylo,zjI (show (i:Int) < a0.length by omega),zkO hi,zjW,cond_true,wr (show -9223372036854775808≤(i:Int)+1 by omega) (by omega),Int.natCast_add,Int.natCast_one,yvF]
      cases ltb (yl (a0.getD i ([]:List Int)) s) 0<;>rfl) (fun s=>by simp only [yam,ylo,zkm (Int.le_refl _),cond_false]) a1 _ (by show _ < 18446744073709551616; omega)
  unfold yik yn
  rw [hl]
  cases szG yvF a0 a1<;>rfl
def ywz:Con:=⟨ydk,ykH,fun x=>(fun n=>some ((n,()),())) (yn x.1 x.2.1)⟩
theorem yLc:ConOk Tryz.prog 156 ywz:=(yIV).mono (fun x r hk h=>(yKM x.1 x.2.1 hk).trans h)
end
section
def yjo:Code:=(Tryz.f157.body).getD .skip
def yph:Env:=zki TT [(21,ye3)] []
theorem yKc:FrOk Tryz.prog ⟨yph,31,fun _=>none⟩ yjo:=zkp yb yc ⟨yk5,trivial⟩
def yAa:Nat→Option Seg:=fun _=>none
def ycM:Shape:=⟨[(0,false,[.br tW]),(1,false,[.int .i64]),(5,false,[.int .i64])],[],[]⟩
def yiA:Shape:=⟨[(0,false,[.br tW]),(1,false,[.int .i64]),(5,false,[.ci .i64 0])],[],[]⟩
def yit:Shape:=⟨[(1,false,[.int .i64])],[],[]⟩
def yiO:Shape:=⟨[(4,false,[.int .i64])],[],[]⟩
def yo1 (v0:List dW) (v1:Int) (v2:Int):Option ((ycM).X ⊕ ((yit).X ⊕ (yiO).X)) :=
  bif (ltb v2 (v0.length:Int)) then
    bif (inb v2 v0.length) then
      bif ((nth v0 v2 (0,[])).1 !=v1) then
        some (.inr (.inr ((((-1),()),()),(),())))
      else
        bif (inb v2 v0.length) then
          let r2:=yl ((nth v0 v2 (0,[])).2) (IntKind.i64.wrap (v1+1))
          bif (ltb r2 0) then
            some (.inr (.inr ((((-1),()),()),(),())))
          else
            some (.inl (((v0,()),(r2,()),((IntKind.i64.wrap (v2+1)),()),()),(),()))
        else none
    else none
  else
    some (.inr (.inl (((v1,()),()),(),())))
def ybn (x:(ycM).X):=yo1 x.1.1.1 x.1.2.1.1 x.1.2.2.1.1
def ywK (x:(yiA).X):(ycM).X:=(((x.1.1.1,()),(x.1.2.1.1,()),(0,()),()),(),())
def yyw:Code:=(zdI yjo 64 52).getD .skip
theorem yJF:zdI yjo 64 13=some (.block 0 (.loop yyw)):=by kernel_rfl
theorem yLp (x:(ycM).X):zg7 ⟨yph,31,yAa⟩ 0 yyw 52 ycM yit yiO x=ybn x:=by kernel_rfl
def yw3 (x:(yiA).X):Nat:=(fun (u0:List dW) (u1:Int)=>18446744073709551616) x.1.1.1 x.1.2.1.1
def yqk (x:(yiA).X):Option ((yit).X ⊕ (yiO).X):=zr ybn (yw3 x) (ywK x)
def yxt:Seg:=⟨yiA,yit,yiO,yqk⟩
def yAb:Nat→Option Seg:=fun q=>bif Nat.beq q 13 then some yxt else yAa q
theorem yKd:FrOk Tryz.prog ⟨yph,31,yAb⟩ yjo:=(yKc).loop (sg:=yxt) ycM ywK (by decide) yJF ybn yw3 (by decide) (fun _=>rfl) (fun x r _ h=>h) yLp
abbrev yfm:List Par:= [.rd tWs,.rd tI]
abbrev ypy:List OT:= [⟨false,tI,.fz⟩]
def ylf (a0:List dW) (a1:Int):Option (ResD ypy×MutD yfm) :=
  zjw (yqk (((a0,()),(a1,()),((),()),()),(),())) (fun y2 =>
    some ((y2.1.1.1,()),())) (fun y2 =>
    some ((y2.1.1.1,()),()))
theorem ySP (x:InD yfm):zjH ⟨yph,31,yAb⟩ Tryz.f157.results.toList yjo yfm ypy x=ylf x.1 x.2.1:=by kernel_rfl
theorem yN7:ConOk Tryz.prog 157 ⟨yfm,ypy,fun x=>ylf x.1 x.2.1⟩:=zkh (yKd) Tryz.func157 (by kernel_rfl) (by kernel_rfl) Tryz.ntmps157.symm (by decide) (fun x r h=>(ySP x).trans h)
def yFf (x:dW) (k:Int):Int:=bif x.1 !=k then -1 else yl x.2 (IntKind.i64.wrap (k+1))
def yM (a0:List (dW)) (a1:Int):Int:=(szG yFf a0 a1).getD (-1)
theorem yQS (a0:List (dW)) (a1:Int) (hk:zi9 yfm (a0,a1,())):ylf a0 a1=(fun n=>some ((n,()),())) (yM a0 a1):=by
  have hb:a0.length * 32≤2 ^ 47:=hk.1.1
  have hl:yqk (((a0,()),(a1,()),((),()),()),(),())=some (match szG yFf a0 a1 with | some r=> .inl (((r,()),()),(),()) | none=> .inr ((((-1),()),()),(),())) :=
    zkG (step:=ybn) a0 ((0,[]):dW) (fun i k=>(((a0,()),(k,()),((i:Int),()),()),(),())) yFf (fun r=> .inl (((r,()),()),(),())) (.inr ((((-1),()),()),(),())) (fun i s hi=>by
      simp only [ybn,yo1,zjI (show (i:Int) < a0.length by omega),zkO hi,zjW,cond_true,wr (show -9223372036854775808≤(i:Int)+1 by omega) (by omega),Int.natCast_add,Int.natCast_one,yFf]
      cases ((a0.getD i ((0,[]):dW)).1 !=s)
      · simp only [cond_false]
        cases ltb (yl (a0.getD i ((0,[]):dW)).2 (IntKind.i64.wrap (s+1))) 0<;>rfl
      · rfl) (fun s=>by simp only [ybn,yo1,zkm (Int.le_refl _),cond_false]) a1 _ (by show _ < 18446744073709551616; omega)
  unfold ylf yM
  rw [hl]
  cases szG yFf a0 a1<;>rfl
def yAS:Con:=⟨yfm,ypy,fun x=>(fun n=>some ((n,()),())) (yM x.1 x.2.1)⟩
theorem yRN:ConOk Tryz.prog 157 yAS:=(yN7).mono (fun x r hk h=>(yQS x.1 x.2.1 hk).trans h)
end
section
def ygS:Code:=(Tryz.f80.body).getD .skip
def ymL:Env:=zki TT [(21,ye3),(156,ywz),(157,yAS)] []
theorem yH7:FrOk Tryz.prog ⟨ymL,51,fun _=>none⟩ ygS:=zkp yb yc ⟨yk5,yLc,yRN,trivial⟩
def yx9:Nat→Option Seg:=fun _=>none
def ybT:Shape:=⟨[(0,false,[.br tM]),(1,false,[.int .i64]),(5,false,[.int .i64])],[],[]⟩
def yhs:Shape:=⟨[(0,false,[.br tM]),(1,false,[.int .i64]),(5,false,[.ci .i64 0])],[],[]⟩
def yha:Shape:=⟨[(1,false,[.int .i64])],[],[]⟩
def yhP:Shape:=⟨[(4,false,[.int .i64])],[],[]⟩
def ymy (v0:List dM) (v1:Int) (v2:Int):Option ((ybT).X ⊕ ((yha).X ⊕ (yhP).X)) :=
  bif (ltb v2 (v0.length:Int)) then
    bif (inb v2 v0.length) then
      let r4:=yn ((nth v0 v2 ([],[],false,[])).1) v1
      bif (ltb r4 0) then
        some (.inr (.inr ((((-1),()),()),(),())))
      else
        bif (inb v2 v0.length) then
          let r5:=yM (((nth v0 v2 ([],[],false,[])).2).1) r4
          bif (ltb r5 0) then
            some (.inr (.inr ((((-1),()),()),(),())))
          else
            bif (inb v2 v0.length) then
              bif (!((((nth v0 v2 ([],[],false,[])).2).2).1==((r5.tmod 3)==0))) then
                some (.inr (.inr ((((-1),()),()),(),())))
              else
                bif (inb v2 v0.length) then
                  let r6:=yl ((((nth v0 v2 ([],[],false,[])).2).2).2) (IntKind.i64.wrap (r5+1))
                  bif (ltb r6 0) then
                    some (.inr (.inr ((((-1),()),()),(),())))
                  else
                    some (.inl (((v0,()),(r6,()),((IntKind.i64.wrap (v2+1)),()),()),(),()))
                else none
            else none
        else none
    else none
  else
    some (.inr (.inl (((v1,()),()),(),())))
def yaP (x:(ybT).X):=ymy x.1.1.1 x.1.2.1.1 x.1.2.2.1.1
def yu3 (x:(yhs).X):(ybT).X:=(((x.1.1.1,()),(x.1.2.1.1,()),(0,()),()),(),())
def yws:Code:=(zdI ygS 64 52).getD .skip
theorem yHC:zdI ygS 64 13=some (.block 0 (.loop yws)):=by kernel_rfl
theorem yJa (x:(ybT).X):zg7 ⟨ymL,51,yx9⟩ 0 yws 52 ybT yha yhP x=yaP x:=by kernel_rfl
def yve (x:(yhs).X):Nat:=(fun (u0:List dM) (u1:Int)=>18446744073709551616) x.1.1.1 x.1.2.1.1
def yod (x:(yhs).X):Option ((yha).X ⊕ (yhP).X):=zr yaP (yve x) (yu3 x)
def yvr:Seg:=⟨yhs,yha,yhP,yod⟩
def yya:Nat→Option Seg:=fun q=>bif Nat.beq q 13 then some yvr else yx9 q
theorem yH8:FrOk Tryz.prog ⟨ymL,51,yya⟩ ygS:=(yH7).loop (sg:=yvr) ybT yu3 (by decide) yHC yaP yve (by decide) (fun _=>rfl) (fun x r _ h=>h) yJa
abbrev yea:List Par:= [.rd tMs,.rd tI]
abbrev ym6:List OT:= [⟨false,tI,.fz⟩]
def yi9 (a0:List dM) (a1:Int):Option (ResD ym6×MutD yea) :=
  zjw (yod (((a0,()),(a1,()),((),()),()),(),())) (fun y6 =>
    some ((y6.1.1.1,()),())) (fun y6 =>
    some ((y6.1.1.1,()),()))
theorem yPK (x:InD yea):zjH ⟨ymL,51,yya⟩ Tryz.f80.results.toList ygS yea ym6 x=yi9 x.1 x.2.1:=by kernel_rfl
theorem yK0:ConOk Tryz.prog 80 ⟨yea,ym6,fun x=>yi9 x.1 x.2.1⟩:=zkh (yH8) Tryz.func80 (by kernel_rfl) (by kernel_rfl) Tryz.ntmps80.symm (by decide) (fun x r h=>(yPK x).trans h)
def yxd (x:dM) (k:Int):Int:=bif ltb (yn x.1 k) 0 then -1 else bif ltb (yM x.2.1 (yn x.1 k)) 0 then -1 else bif !(x.2.2.1==((yM x.2.1 (yn x.1 k)).tmod 3==0)) then -1 else yl x.2.2.2 (IntKind.i64.wrap (yM x.2.1 (yn x.1 k)+1))
def ybb (a0:List (dM)) (a1:Int):Int:=(szG yxd a0 a1).getD (-1)
theorem yNM (a0:List (dM)) (a1:Int) (hk:zi9 yea (a0,a1,())):yi9 a0 a1=(fun n=>some ((n,()),())) (ybb a0 a1):=by
  have hb:a0.length * 80≤2 ^ 47:=hk.1.1
  have hl:yod (((a0,()),(a1,()),((),()),()),(),())=some (match szG yxd a0 a1 with | some r=> .inl (((r,()),()),(),()) | none=> .inr ((((-1),()),()),(),())) :=
    zkG (step:=yaP) a0 (([],[],false,[]):dM) (fun i k=>(((a0,()),(k,()),((i:Int),()),()),(),())) yxd (fun r=> .inl (((r,()),()),(),())) (.inr ((((-1),()),()),(),())) (fun i s hi=>by
      simp only [yaP,ymy,zjI (show (i:Int) < a0.length by omega),zkO hi,zjW,cond_true,wr (show -9223372036854775808≤(i:Int)+1 by omega) (by omega),Int.natCast_add,Int.natCast_one,yxd]
      cases ltb (yn (a0.getD i (([],[],false,[]):dM)).1 s) 0
      · simp only [cond_false]
        cases ltb (yM (a0.getD i (([],[],false,[]):dM)).2.1 (yn (a0.getD i (([],[],false,[]):dM)).1 s)) 0
        · simp only [cond_false]
          cases ((a0.getD i (([],[],false,[]):dM)).2.2.1==((yM (a0.getD i (([],[],false,[]):dM)).2.1 (yn (a0.getD i (([],[],false,[]):dM)).1 s)).tmod 3==0))
          · rfl
          · simp only [Bool.not_true,cond_false]
            cases ltb (yl (a0.getD i (([],[],false,[]):dM)).2.2.2 (IntKind.i64.wrap (yM (a0.getD i (([],[],false,[]):dM)).2.1 (yn (a0.getD i (([],[],false,[]):dM)).1 s)+1))) 0<;>rfl
        · rfl
      · rfl) (fun s=>by simp only [yaP,ymy,zkm (Int.le_refl _),cond_false]) a1 _ (by show _ < 18446744073709551616; omega)
  unfold yi9 ybb
  rw [hl]
  cases szG yxd a0 a1<;>rfl
def yyN:Con:=⟨yea,ym6,fun x=>(fun n=>some ((n,()),())) (ybb x.1 x.2.1)⟩
theorem yOp:ConOk Tryz.prog 80 yyN:=(yK0).mono (fun x r hk h=>(yNM x.1 x.2.1 hk).trans h)
theorem yYi (l:List dW) (k:Int) (h0:0≤k) (h:k+((l.map (fun x:dW=>1+x.2.length)).sum:Nat)≤9223372036854775807):(zaX yOT l k).1=k+((l.map (fun x:dW=>1+x.2.length)).sum:Nat)∧szG yFf (zaX yOT l k).2 k=some (k+((l.map (fun x:dW=>1+x.2.length)).sum:Nat)) :=
  ziN (m:=fun x:dW=>1+x.2.length) (fun x k h0 h=>by
    have hw:IntKind.i64.wrap (k+1)=k+1:=wr (by omega) (by omega)
    unfold yOT yFf
    simp only [hw,bne_self_eq_false,cond_false,yzM,ypN x.2.length (k+1) (by omega) (by omega)]
    omega) l k h0 h
theorem yXQ (l:List (List Int)) (k:Int) (h0:0≤k) (h:k+((l.map (fun x:List Int=>x.length)).sum:Nat)≤9223372036854775807):(zaX yB2 l k).1=k+((l.map (fun x:List Int=>x.length)).sum:Nat)∧szG yvF (zaX yB2 l k).2 k=some (k+((l.map (fun x:List Int=>x.length)).sum:Nat)) :=
  ziN (m:=fun x:List Int=>x.length) (fun x k h0 h=>by
    unfold yB2 yvF yG
    simp only [yzM,ypN x.length k (by omega) (by omega),and_self]) l k h0 h
theorem yYh (x:dM) (k:Int) (h0:0≤k) (h:k+(yqv x:Nat)≤9223372036854775807):(yzR x k).1=k+(yqv x:Nat)∧yxd (yzR x k).2 k=k+(yqv x:Nat):=by
  unfold yqv at h ⊢
  obtain ⟨a1,a2⟩:=yXQ x.1 k h0 (by omega)
  obtain ⟨b1,b2⟩:=yYi x.2.1 (k+((x.1.map (fun x:List Int=>x.length)).sum:Nat)) (by omega) (by omega)
  have hw: ∀ n:Int,0≤n→n+1≤9223372036854775807→IntKind.i64.wrap (n+1)=n+1:=fun n h1 h2=>wr (by omega) (by omega)
  unfold yzR yxd
  simp only [yI,yaI,yG,yn,yM,a1,a2,b1,b2,Option.getD_some]
  rw [hw _ (by omega) (by omega),zkm (show 0≤k+((x.1.map (fun x:List Int=>x.length)).sum:Nat) by omega),cond_false,zkm (by omega),cond_false,beq_self_eq_true,Bool.not_true,cond_false,yzM,ypN _ _ (by omega) (by omega)]
  omega
theorem yUM (l:List dM) (k:Int) (h0:0≤k) (h:k+(ynt l:Nat)≤9223372036854775807):(zaX yzR l k).1=k+(ynt l:Nat)∧szG yxd (zaX yzR l k).2 k=some (k+(ynt l:Nat)) :=
  ziN (m:=yqv) (fun x k h0 h=>yYh x k h0 h) l k h0 h
theorem yZt (l:List dM) (h:ynt l≤4611686018427387904):(yai l 1).1=1+(ynt l:Nat)∧ybb (yai l 1).2 1=1+(ynt l:Nat):=by
  obtain ⟨h1,h2⟩:=yUM l 1 (by omega) (by omega)
  unfold ybb yai
  exact ⟨h1,by rw [h2]; rfl⟩
end
section
def ygQ:Code:=(Tryz.f81.body).getD .skip
def ymJ:Env:=zki TT [(21,ye3)] []
theorem yH3:FrOk Tryz.prog ⟨ymJ,31,fun _=>none⟩ ygQ:=zkp yb yc ⟨yk5,trivial⟩
def yx5:Nat→Option Seg:=fun _=>none
def ybR:Shape:=⟨[(0,false,[.br tW]),(1,false,[.int .i64]),(5,false,[.int .i64])],[],[]⟩
def yhq:Shape:=⟨[(0,false,[.br tW]),(1,false,[.int .i64]),(5,false,[.ci .i64 0])],[],[]⟩
def yg8:Shape:=⟨[(1,false,[.int .i64])],[],[]⟩
def yhN:Shape:=⟨[(4,false,[.int .i64])],[],[]⟩
def ymw (v0:List dW) (v1:Int) (v2:Int):Option ((ybR).X ⊕ ((yg8).X ⊕ (yhN).X)) :=
  bif (ltb v2 (v0.length:Int)) then
    bif (inb v2 v0.length) then
      bif ((nth v0 v2 (0,[])).1 !=v1) then
        some (.inr (.inr ((((-1),()),()),(),())))
      else
        bif (inb v2 v0.length) then
          let r2:=yl ((nth v0 v2 (0,[])).2) (IntKind.i64.wrap (v1+1))
          bif (ltb r2 0) then
            some (.inr (.inr ((((-1),()),()),(),())))
          else
            some (.inl (((v0,()),(r2,()),((IntKind.i64.wrap (v2+1)),()),()),(),()))
        else none
    else none
  else
    some (.inr (.inl (((v1,()),()),(),())))
def yaN (x:(ybR).X):=ymw x.1.1.1 x.1.2.1.1 x.1.2.2.1.1
def yu1 (x:(yhq).X):(ybR).X:=(((x.1.1.1,()),(x.1.2.1.1,()),(0,()),()),(),())
def ywq:Code:=(zdI ygQ 64 52).getD .skip
theorem yHA:zdI ygQ 64 13=some (.block 0 (.loop ywq)):=by kernel_rfl
theorem yI8 (x:(ybR).X):zg7 ⟨ymJ,31,yx5⟩ 0 ywq 52 ybR yg8 yhN x=yaN x:=by kernel_rfl
def yvc (x:(yhq).X):Nat:=(fun (u0:List dW) (u1:Int)=>18446744073709551616) x.1.1.1 x.1.2.1.1
def yob (x:(yhq).X):Option ((yg8).X ⊕ (yhN).X):=zr yaN (yvc x) (yu1 x)
def yvp:Seg:=⟨yhq,yg8,yhN,yob⟩
def yx6:Nat→Option Seg:=fun q=>bif Nat.beq q 13 then some yvp else yx5 q
theorem yH4:FrOk Tryz.prog ⟨ymJ,31,yx6⟩ ygQ:=(yH3).loop (sg:=yvp) ybR yu1 (by decide) yHA yaN yvc (by decide) (fun _=>rfl) (fun x r _ h=>h) yI8
abbrev yd8:List Par:= [.rd tWs,.rd tI]
abbrev ym4:List OT:= [⟨false,tI,.fz⟩]
def yi7 (a0:List dW) (a1:Int):Option (ResD ym4×MutD yd8) :=
  zjw (yob (((a0,()),(a1,()),((),()),()),(),())) (fun y2 =>
    some ((y2.1.1.1,()),())) (fun y2 =>
    some ((y2.1.1.1,()),()))
theorem yPI (x:InD yd8):zjH ⟨ymJ,31,yx6⟩ Tryz.f81.results.toList ygQ yd8 ym4 x=yi7 x.1 x.2.1:=by kernel_rfl
theorem yKY:ConOk Tryz.prog 81 ⟨yd8,ym4,fun x=>yi7 x.1 x.2.1⟩:=zkh (yH4) Tryz.func81 (by kernel_rfl) (by kernel_rfl) Tryz.ntmps81.symm (by decide) (fun x r h=>(yPI x).trans h)
def yBz (x:dW) (k:Int):Int:=bif x.1 !=k then -1 else yl x.2 (IntKind.i64.wrap (k+1))
def yel (a0:List (dW)) (a1:Int):Int:=(szG yBz a0 a1).getD (-1)
theorem yNK (a0:List (dW)) (a1:Int) (hk:zi9 yd8 (a0,a1,())):yi7 a0 a1=(fun n=>some ((n,()),())) (yel a0 a1):=by
  have hb:a0.length * 32≤2 ^ 47:=hk.1.1
  have hl:yob (((a0,()),(a1,()),((),()),()),(),())=some (match szG yBz a0 a1 with | some r=> .inl (((r,()),()),(),()) | none=> .inr ((((-1),()),()),(),())) :=
    zkG (step:=yaN) a0 ((0,[]):dW) (fun i k=>(((a0,()),(k,()),((i:Int),()),()),(),())) yBz (fun r=> .inl (((r,()),()),(),())) (.inr ((((-1),()),()),(),())) (fun i s hi=>by
      simp only [yaN,ymw,zjI (show (i:Int) < a0.length by omega),zkO hi,zjW,cond_true,wr (show -9223372036854775808≤(i:Int)+1 by omega) (by omega),Int.natCast_add,Int.natCast_one,yBz]
      cases ((a0.getD i ((0,[]):dW)).1 !=s)
      · simp only [cond_false]
        cases ltb (yl (a0.getD i ((0,[]):dW)).2 (IntKind.i64.wrap (s+1))) 0<;>rfl
      · rfl) (fun s=>by simp only [yaN,ymw,zkm (Int.le_refl _),cond_false]) a1 _ (by show _ < 18446744073709551616; omega)
  unfold yi7 yel
  rw [hl]
  cases szG yBz a0 a1<;>rfl
def yyM:Con:=⟨yd8,ym4,fun x=>(fun n=>some ((n,()),())) (yel x.1 x.2.1)⟩
theorem yOo:ConOk Tryz.prog 81 yyM:=(yKY).mono (fun x r hk h=>(yNK x.1 x.2.1 hk).trans h)
theorem yXY (l:List dW) (k:Int) (h0:0≤k) (h:k+(yJl l:Nat)≤9223372036854775807):(zaX yFt l k).1=k+(yJl l:Nat)∧szG yBz (zaX yFt l k).2 k=some (k+(yJl l:Nat)) :=
  ziN (m:=fun x:dW=>1+x.2.length) (fun x k h0 h=>by
    have hw:IntKind.i64.wrap (k+1)=k+1:=wr (by omega) (by omega)
    unfold yFt yBz
    simp only [hw,bne_self_eq_false,cond_false,yzM,ypN x.2.length (k+1) (by omega) (by omega)]
    omega) l k h0 h
end
section
def yDY:Code:=(Tryz.f24.body).getD .skip
def yEp:Env:=zki TT [(80,yyN),(81,yyM)] []
theorem yKb:FrOk Tryz.prog ⟨yEp,18,fun _=>none⟩ yDY:=zkp yb yc ⟨yOp,yOo,trivial⟩
def yLQ:Nat→Option Seg:=fun _=>none
abbrev yjE:List Par:= [.rd tA,.rd tI]
abbrev ypx:List OT:= [⟨false,tI,.fz⟩]
def ysH (a0:dA) (a1:Int):Option (ResD ypx×MutD yjE) :=
  let r1:=ybb a0.2.2.1 a1
  bif (ltb r1 0) then
    some (((-1),()),())
  else
    let r2:=yel a0.2.2.2.2.2.2.2.2.1 r1
    bif (ltb r2 0) then
      some (((-1),()),())
    else
      some ((r2,()),())
theorem ySO (x:InD yjE):zjH ⟨yEp,18,yLQ⟩ Tryz.f24.results.toList yDY yjE ypx x=ysH x.1 x.2.1:=by kernel_rfl
theorem yN6:ConOk Tryz.prog 24 ⟨yjE,ypx,fun x=>ysH x.1 x.2.1⟩:=zkh (yKb) Tryz.func24 (by kernel_rfl) (by kernel_rfl) Tryz.ntmps24.symm (by decide) (fun x r h=>(ySO x).trans h)
def yb0 (a0:dA) (a1:Int):Int :=
  let r1:=ybb a0.2.2.1 a1
  bif (ltb r1 0) then
    (-1)
  else
    let r2:=yel a0.2.2.2.2.2.2.2.2.1 r1
    bif (ltb r2 0) then
      (-1)
    else
      r2
def yAR:Con:=⟨yjE,ypx,fun x=>(fun n=>some ((n,()),())) (yb0 x.1 x.2.1)⟩
theorem yQR (a0:dA) (a1:Int):ysH a0 a1=(fun n=>some ((n,()),())) (yb0 a0 a1):=zkS (p:=fun (n:Int)=>((n,()),())) (zkx (p:=fun (n:Int)=>((n,()),())) rfl (zkx (p:=fun (n:Int)=>((n,()),())) rfl rfl))
theorem yRM:ConOk Tryz.prog 24 yAR:=(yN6).mono (fun x r _ h=>(yQR x.1 x.2.1).trans h)
theorem yYT {x:dA} (h:yfU x≤4611686018427387904):(yD x 1).1=1+(yfU x:Nat)∧yb0 (yD x 1).2 1=1+(yfU x:Nat):=by
  unfold yfU at h ⊢
  obtain ⟨a1,a2⟩:=yUM x.2.2.1 1 (by omega) (by omega)
  obtain ⟨b1,b2⟩:=yXY x.2.2.2.2.2.2.2.2.1 (1+(ynt x.2.2.1:Nat)) (by omega) (by omega)
  unfold yD yb0
  simp only [yai,yem,ybb,yel,a1,a2,b1,b2,Option.getD_some]
  rw [zkm (show (0:Int)≤1+(ynt x.2.2.1:Nat) by omega),cond_false,zkm (by omega),cond_false]
  omega
abbrev yTa (x:dA):dA:=(x.1,x.2.1,(yD x 1).2.2.2.1,x.2.2.2.1,x.2.2.2.2.1,x.2.2.2.2.2.1,x.2.2.2.2.2.2.1,x.2.2.2.2.2.2.2.1,(yD x 1).2.2.2.2.2.2.2.2.2.1,x.2.2.2.2.2.2.2.2.2)
theorem yXL {x:dA} (h:yfU x≤4611686018427387904):ltb (yD x 1).1 0=false∧ltb (yb0 (yTa x) 1) 0=false∧(yb0 (yTa x) 1 !=(yD x 1).1)=false:=by
  obtain ⟨h1,h2⟩:=yYT h
  rw [show yTa x=(yD x 1).2 from rfl,h1,h2]
  exact ⟨zkm (by omega),zkm (by omega),by simp⟩
end
section
def yc7:Code:=(Tryz.f147.body).getD .skip
def ygh:Env:=zki TT [] [(21056,.fz),(21120,.fz),(37952,(.pr .fz .fz)),(38016,(.pr .fz .fz))]
theorem yMT:FrOk Tryz.prog ⟨ygh,60,fun _=>none⟩ yc7:=zkp yb yc trivial
def yCA:Nat→Option Seg:=fun _=>none
def ybI:Shape:=⟨[(1,false,[.ptr 0 0]),(2,false,[.ptr 64 0]),(3,false,[.ptr 4544 0]),(4,false,[.int .i64])],[(0,[.br tL,.br tW,.bool,.br tI]),(64,[.nil,.nil,.bool,.nil]),(4544,[.at 800000001,.nil,.bool,.at 800000000])],[(800000001,tL,.fz),(800000000,tI,.fz)]⟩
def yfI:Shape:=⟨[(1,false,[.ptr 0 0]),(2,false,[.ptr 64 0]),(3,false,[.ptr 4544 0]),(4,false,[.ci .i64 0])],[(0,[.br tL,.br tW,.bool,.br tI]),(64,[.nil,.nil,.bool,.nil]),(4544,[.at 800000001,.nil,.bool,.at 800000000])],[(800000001,tL,.fz),(800000000,tI,.fz)]⟩
def yfB:Shape:=⟨[(1,false,[.ptr 0 0]),(2,false,[.ptr 64 0]),(3,false,[.ptr 4544 0])],[(0,[.br tL,.br tW,.bool,.br tI]),(64,[.nil,.nil,.bool,.nil]),(4544,[.at 800000000,.nil,.bool,.at 800000001])],[(800000000,tL,.fz),(800000001,tI,.fz)]⟩
def ykS:Shape:=⟨[],[],[]⟩
abbrev yqy (v0:Int) (v1:dM) (v2:dM) (v3:dM):(ybI).X:=((((),()),((),()),((),()),(v0,()),()),((v1.1,v1.2.1,v1.2.2.1,v1.2.2.2,()),((),(),v2.2.2.1,(),()),((),(),v3.2.2.1,(),()),()),(v3.1,v3.2.2.2,()))
abbrev yKB (v0:dM) (v1:dM) (v2:dM):(yfI).X:=((((),()),((),()),((),()),((),()),()),((v0.1,v0.2.1,v0.2.2.1,v0.2.2.2,()),((),(),v1.2.2.1,(),()),((),(),v2.2.2.1,(),()),()),(v2.1,v2.2.2.2,()))
abbrev yzq (v0:dM) (v1:dM) (v2:dM):(yfB).X:=((((),()),((),()),((),()),()),((v0.1,v0.2.1,v0.2.2.1,v0.2.2.2,()),((),(),v1.2.2.1,(),()),((),(),v2.2.2.1,(),()),()),(v2.1,v2.2.2.2,()))
def yqV (v0:Int) (v1:List (List Int)) (v2:List dW) (v3:Bool) (v4:List Int) (v5:Bool) (v6:Bool) (v7:List (List Int)) (v8:List Int):Option ((ybI).X ⊕ ((yfB).X ⊕ (ykS).X)) :=
  bif (ltb v0 (v1.length:Int)) then
    bif (inb v0 v1.length) then
      bif (zj4 ([]:List Int).length (nth v1 v0 []).length 8) then
        bif (zj4 v7.length ([(([]:List Int)++(nth v1 v0 []))]:List (List Int)).length 24) then
          some (.inl ((((),()),((),()),((),()),((IntKind.i64.wrap (v0+1)),()),()),((v1,v2,v3,v4,()),((),(),v5,(),()),((),(),v6,(),()),()),((v7++([(([]:List Int)++(nth v1 v0 []))]:List (List Int))),v8,())))
        else none
      else none
    else none
  else
    some (.inr (.inl ((((),()),((),()),((),()),()),((v1,v2,v3,v4,()),((),(),v5,(),()),((),(),v6,(),()),()),(v7,v8,()))))
def ycd (x:(ybI).X):=yqV x.1.2.2.2.1.1 x.2.1.1.1 x.2.1.1.2.1 x.2.1.1.2.2.1 x.2.1.1.2.2.2.1 x.2.1.2.1.2.2.1 x.2.1.2.2.1.2.2.1 x.2.2.1 x.2.2.2.1
def yy6 (x:(yfI).X):(ybI).X:=((((),()),((),()),((),()),(0,()),()),((x.2.1.1.1,x.2.1.1.2.1,x.2.1.1.2.2.1,x.2.1.1.2.2.2.1,()),((),(),x.2.1.2.1.2.2.1,(),()),((),(),x.2.1.2.2.1.2.2.1,(),()),()),(x.2.2.1,x.2.2.2.1,()))
def yAE:Code:=(zdI yc7 64 116).getD .skip
theorem yL4:zdI yc7 64 29=some (.block 0 (.loop yAE)):=by kernel_rfl
theorem yOM (x:(ybI).X):zg7 ⟨ygh,60,yCA⟩ 0 yAE 116 ybI yfB ykS x=ycd x:=by kernel_rfl
def yzl (x:(yfI).X):Nat:=(fun (u0:List (List Int)) (u1:List dW) (u2:Bool) (u3:List Int) (u4:Bool) (u5:Bool) (u6:List (List Int)) (u7:List Int)=>18446744073709551616) x.2.1.1.1 x.2.1.1.2.1 x.2.1.1.2.2.1 x.2.1.1.2.2.2.1 x.2.1.2.1.2.2.1 x.2.1.2.2.1.2.2.1 x.2.2.1 x.2.2.2.1
def ysi (x:(yfI).X):Option ((yfB).X ⊕ (ykS).X):=zr ycd (yzl x) (yy6 x)
def yzD:Seg:=⟨yfI,yfB,ykS,ysi⟩
def ytf:Nat→Option Seg:=fun q=>bif Nat.beq q 29 then some yzD else yCA q
theorem yMU:FrOk Tryz.prog ⟨ygh,60,ytf⟩ yc7:=(yMT).loop (sg:=yzD) ybI yy6 (by decide) yL4 ycd yzl (by decide) (fun _=>rfl) (fun x r _ h=>h) yOM
def ybJ:Shape:=⟨[(1,false,[.ptr 0 0]),(2,false,[.ptr 64 0]),(3,false,[.ptr 4544 0]),(5,false,[.int .i64])],[(0,[.br tL,.br tW,.bool,.br tI]),(64,[.nil,.nil,.bool,.nil]),(4544,[.at 800000000,.at 800000002,.bool,.at 800000001])],[(800000000,tL,.fz),(800000002,tW,(.pr .fz .fz)),(800000001,tI,.fz)]⟩
def yfJ:Shape:=⟨[(1,false,[.ptr 0 0]),(2,false,[.ptr 64 0]),(3,false,[.ptr 4544 0]),(5,false,[.ci .i64 0])],[(0,[.br tL,.br tW,.bool,.br tI]),(64,[.nil,.nil,.bool,.nil]),(4544,[.at 800000000,.at 800000002,.bool,.at 800000001])],[(800000000,tL,.fz),(800000002,tW,(.pr .fz .fz)),(800000001,tI,.fz)]⟩
def yfC:Shape:=⟨[(2,false,[.ptr 64 0]),(3,false,[.ptr 4544 0])],[(64,[.nil,.nil,.bool,.nil]),(4544,[.at 800000000,.at 800000001,.bool,.at 800000002])],[(800000000,tL,.fz),(800000001,tW,(.pr .fz .fz)),(800000002,tI,.fz)]⟩
def ykT:Shape:=⟨[],[],[]⟩
abbrev yqz (v0:Int) (v1:dM) (v2:dM) (v3:dM):(ybJ).X:=((((),()),((),()),((),()),(v0,()),()),((v1.1,v1.2.1,v1.2.2.1,v1.2.2.2,()),((),(),v2.2.2.1,(),()),((),(),v3.2.2.1,(),()),()),(v3.1,v3.2.1,v3.2.2.2,()))
abbrev yKC (v0:dM) (v1:dM) (v2:dM):(yfJ).X:=((((),()),((),()),((),()),((),()),()),((v0.1,v0.2.1,v0.2.2.1,v0.2.2.2,()),((),(),v1.2.2.1,(),()),((),(),v2.2.2.1,(),()),()),(v2.1,v2.2.1,v2.2.2.2,()))
abbrev yzr (v0:dM) (v1:dM):(yfC).X:=((((),()),((),()),()),(((),(),v0.2.2.1,(),()),((),(),v1.2.2.1,(),()),()),(v1.1,v1.2.1,v1.2.2.2,()))
def yqW (v0:Int) (v1:List (List Int)) (v2:List dW) (v3:Bool) (v4:List Int) (v5:Bool) (v6:Bool) (v7:List (List Int)) (v8:List dW) (v9:List Int):Option ((ybJ).X ⊕ ((yfC).X ⊕ (ykT).X)) :=
  bif (ltb v0 (v2.length:Int)) then
    bif (inb v0 v2.length) then
      bif (inb v0 v2.length) then
        bif (zj4 ([]:List Int).length ((nth v2 v0 (0,[])).2).length 8) then
          bif (zj4 v8.length ([((nth v2 v0 (0,[])).1,(([]:List Int)++((nth v2 v0 (0,[])).2)))]:List dW).length 32) then
            some (.inl ((((),()),((),()),((),()),((IntKind.i64.wrap (v0+1)),()),()),((v1,v2,v3,v4,()),((),(),v5,(),()),((),(),v6,(),()),()),(v7,(v8++([((nth v2 v0 (0,[])).1,(([]:List Int)++((nth v2 v0 (0,[])).2)))]:List dW)),v9,())))
          else none
        else none
      else none
    else none
  else
    some (.inr (.inl ((((),()),((),()),()),(((),(),v5,(),()),((),(),v6,(),()),()),(v7,v8,v9,()))))
def yce (x:(ybJ).X):=yqW x.1.2.2.2.1.1 x.2.1.1.1 x.2.1.1.2.1 x.2.1.1.2.2.1 x.2.1.1.2.2.2.1 x.2.1.2.1.2.2.1 x.2.1.2.2.1.2.2.1 x.2.2.1 x.2.2.2.1 x.2.2.2.2.1
def yy7 (x:(yfJ).X):(ybJ).X:=((((),()),((),()),((),()),(0,()),()),((x.2.1.1.1,x.2.1.1.2.1,x.2.1.1.2.2.1,x.2.1.1.2.2.2.1,()),((),(),x.2.1.2.1.2.2.1,(),()),((),(),x.2.1.2.2.1.2.2.1,(),()),()),(x.2.2.1,x.2.2.2.1,x.2.2.2.2.1,()))
def yAF:Code:=(zdI yc7 64 244).getD .skip
theorem yL5:zdI yc7 64 61=some (.block 2 (.loop yAF)):=by kernel_rfl
theorem yON (x:(ybJ).X):zg7 ⟨ygh,60,ytf⟩ 2 yAF 244 ybJ yfC ykT x=yce x:=by kernel_rfl
def yzm (x:(yfJ).X):Nat:=(fun (u0:List (List Int)) (u1:List dW) (u2:Bool) (u3:List Int) (u4:Bool) (u5:Bool) (u6:List (List Int)) (u7:List dW) (u8:List Int)=>18446744073709551616) x.2.1.1.1 x.2.1.1.2.1 x.2.1.1.2.2.1 x.2.1.1.2.2.2.1 x.2.1.2.1.2.2.1 x.2.1.2.2.1.2.2.1 x.2.2.1 x.2.2.2.1 x.2.2.2.2.1
def ysj (x:(yfJ).X):Option ((yfC).X ⊕ (ykT).X):=zr yce (yzm x) (yy7 x)
def yzE:Seg:=⟨yfJ,yfC,ykT,ysj⟩
def yCB:Nat→Option Seg:=fun q=>bif Nat.beq q 61 then some yzE else ytf q
theorem yMV:FrOk Tryz.prog ⟨ygh,60,yCB⟩ yc7:=(yMU).loop (sg:=yzE) ybJ yy7 (by decide) yL5 yce yzm (by decide) (fun _=>rfl) (fun x r _ h=>h) yON
abbrev ygA:List Par:= [.rd tM]
abbrev yrU:List OT:= [⟨false,tM,(.pr (.ow .fz) (.pr (.ow (.pr .fz .fz)) (.pr .fz (.ow .fz))))⟩]
def ynP (a0:dM):Option (ResD yrU×MutD ygA) :=
  bif (zj4 ([]:List Int).length a0.2.2.2.length 8) then
    zjw (ysi ((((),()),((),()),((),()),((),()),()),((a0.1,a0.2.1,a0.2.2.1,a0.2.2.2,()),((),(),false,(),()),((),(),a0.2.2.1,(),()),()),([],(([]:List Int)++a0.2.2.2),()))) (fun y0 =>
      zjw (ysj ((((),()),((),()),((),()),((),()),()),((y0.2.1.1.1,y0.2.1.1.2.1,y0.2.1.1.2.2.1,y0.2.1.1.2.2.2.1,()),((),(),y0.2.1.2.1.2.2.1,(),()),((),(),y0.2.1.2.2.1.2.2.1,(),()),()),(y0.2.2.1,[],y0.2.2.2.1,()))) (fun y1 =>
        some (((y1.2.2.1,y1.2.2.2.1,y1.2.1.2.1.2.2.1,y1.2.2.2.2.1),()),())) (fun y1 =>
        none)) (fun y0 =>
      none)
  else none
theorem yVu (x:InD ygA):zjH ⟨ygh,60,yCB⟩ Tryz.f147.results.toList yc7 ygA yrU x=ynP x.1:=by kernel_rfl
theorem yRw:ConOk Tryz.prog 147 ⟨ygA,yrU,fun x=>ynP x.1⟩:=zkh (yMV) Tryz.func147 (by kernel_rfl) (by kernel_rfl) Tryz.ntmps147.symm (by decide) (fun x r h=>(yVu x).trans h)
def ybC (a0:dM):dM:=a0
theorem yTE (a0:dM) (hk:zi9 ygA (a0,())):ynP a0=(fun n=>some ((n,()),())) (ybC a0):=by
  have hb1:a0.1.length * 24≤2 ^ 47:=hk.1.1.1
  have hb2:a0.2.1.length * 32≤2 ^ 47:=hk.1.2.1.1
  have hb3:a0.2.2.2.length * 8≤2 ^ 47:=hk.1.2.2.2.1
  have hs: ∀ i,i < a0.1.length→(a0.1.getD i []).length * 8≤2 ^ 47:=fun i hi=>by rw [zcq hi]; exact (hk.1.1.2 _ (List.getElem_mem hi)).1
  have hc: ∀ i,i < a0.2.1.length→(a0.2.1.getD i (0,[])).2.length * 8≤2 ^ 47:=fun i hi=>by rw [zcq hi]; exact (hk.1.2.1.2 _ (List.getElem_mem hi)).2.1
  have h1:ysi (yKB a0 yh ([],[],a0.2.2.1,a0.2.2.2))=some (.inl (yzq a0 yh (a0.1,[],a0.2.2.1,a0.2.2.2))):=by
    have:=zkk (step:=ycd) a0.1 [] (fun i s=>yqy i a0 yh (s,[],a0.2.2.1,a0.2.2.2)) (fun s x=>s++ [x]) (fun i s=>s.length=i) (fun s=> .inl (yzq a0 yh (s,[],a0.2.2.1,a0.2.2.2))) (fun i s hi hs2=>⟨by
      have:=hs i hi
      simp only [ycd,yqy,yqV,zjI (show (i:Int) < a0.1.length by omega),cond_true,wr (show -9223372036854775808≤(i:Int)+1 by omega) (by omega),Int.natCast_add,Int.natCast_one,Int.toNat_natCast,zkO hi,zjW,List.nil_append]
      rw [zkw.2 (show (([]:List Int).length+(a0.1.getD i []).length) * 8≤140737488355328 by rw [List.length_nil]; omega),zkw.2 (show (s.length+ [a0.1.getD i []].length) * 24≤140737488355328 by simp only [List.length_cons,List.length_nil]; omega)]; rfl,by simp [hs2]⟩) (fun s _=>by simp only [ycd,yqy,yqV,zkm (Int.le_refl _),cond_false]) [] rfl 18446744073709551616 (by omega)
    rw [ysp]at this
    exact this
  have h2:ysj (yKC a0 yh (a0.1,[],a0.2.2.1,a0.2.2.2))=some (.inl (yzr yh a0)):=by
    have:=zkk (step:=yce) a0.2.1 (0,[]) (fun i s=>yqz i a0 yh (a0.1,s,a0.2.2.1,a0.2.2.2)) (fun s x=>s++ [x]) (fun i s=>s.length=i) (fun s=> .inl (yzr yh (a0.1,s,a0.2.2.1,a0.2.2.2))) (fun i s hi hs2=>⟨by
      have:=hc i hi
      simp only [yce,yqz,yqW,zjI (show (i:Int) < a0.2.1.length by omega),cond_true,wr (show -9223372036854775808≤(i:Int)+1 by omega) (by omega),Int.natCast_add,Int.natCast_one,Int.toNat_natCast,zkO hi,zjW,List.nil_append,zkV]
      rw [zkw.2 (show (([]:List Int).length+(a0.2.1.getD i (0,[])).2.length) * 8≤140737488355328 by rw [List.length_nil]; omega),zkw.2 (show (s.length+ [a0.2.1.getD i (0,[])].length) * 32≤140737488355328 by simp only [List.length_cons,List.length_nil]; omega)]; rfl,by simp [hs2]⟩) (fun s _=>by simp only [yce,yqz,yqW,zkm (Int.le_refl _),cond_false]) [] rfl 18446744073709551616 (by omega)
    rw [ysp]at this
    exact this
  unfold ynP ybC
  rw [zkw.2 (show (([]:List Int).length+a0.2.2.2.length) * 8≤140737488355328 by rw [List.length_nil]; omega)]
  simp only [cond_true,List.nil_append,h1,zkJ,h2]
def ynq:Con:=⟨ygA,yrU,fun x=>(fun n=>some ((n,()),())) (ybC x.1)⟩
theorem yvH:ConOk Tryz.prog 147 ynq:=(yRw).mono (fun x r hk h=>(yTE x.1 hk).trans h)
end
end
end Go.Tf
