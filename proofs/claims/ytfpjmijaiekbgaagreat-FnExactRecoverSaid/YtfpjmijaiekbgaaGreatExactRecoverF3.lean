/- Functions of the program, and what they come to. -/
import Derived.Test.YtfpjmijaiekbgaaGreatExactRecoverF2
namespace Go.Tf
noncomputable section
open Go.Proofs
set_option synthInstance.maxHeartbeats 400000
set_option synthInstance.maxSize 10000
set_option linter.unusedVariables false
set_option linter.unusedSimpArgs false
set_option maxRecDepth 100000
section
def ykP:Code:=(Tryz.f157.body).getD .skip
def yrc:Env:=zki TT [(21,yfZ)] []
theorem yOa:FrOk Tryz.prog ⟨yrc,31,fun _=>none⟩ ykP:=zkp yb yc ⟨ymF,trivial⟩
def yC6:Nat→Option Seg:=fun _=>none
def yc9:Shape:=⟨[(0,false,[.br tW]),(1,false,[.int .i64]),(5,false,[.int .i64])],[],[]⟩
def yjV:Shape:=⟨[(0,false,[.br tW]),(1,false,[.int .i64]),(5,false,[.ci .i64 0])],[],[]⟩
def yjO:Shape:=⟨[(1,false,[.int .i64])],[],[]⟩
def yj9:Shape:=⟨[(4,false,[.int .i64])],[],[]⟩
def yqV (v0:List dW) (v1:Int) (v2:Int):Option ((yc9).X ⊕ ((yjO).X ⊕ (yj9).X)) :=
  bif (ltb v2 (v0.length:Int)) then
    bif (inb v2 v0.length) then
      bif ((nth v0 v2 (0,[])).1 !=v1) then
        some (.inr (.inr ((((-1),()),()),(),())))
      else
        bif (inb v2 v0.length) then
          let r2:=yl ((nth v0 v2 (0,[])).2) (IntKind.i64.wrap (v1+1))
          bif (ltb r2 0) then
            some (.inr (.inr ((((-1),()),()),(),())))
          else
            some (.inl (((v0,()),(r2,()),((IntKind.i64.wrap (v2+1)),()),()),(),()))
        else none
    else none
  else
    some (.inr (.inl (((v1,()),()),(),())))
def ybK (x:(yc9).X):=yqV x.1.1.1 x.1.2.1.1 x.1.2.2.1.1
def yzz (x:(yjV).X):(yc9).X:=(((x.1.1.1,()),(x.1.2.1.1,()),(0,()),()),(),())
def yBp:Code:=(zdI ykP 64 52).getD .skip
theorem yNA:zdI ykP 64 13=some (.block 0 (.loop yBp)):=by kernel_rfl
theorem yPC (x:(yc9).X):zg7 ⟨yrc,31,yC6⟩ 0 yBp 52 yc9 yjO yj9 x=ybK x:=by kernel_rfl
def yzS (x:(yjV).X):Nat:=(fun (u0:List dW) (u1:Int)=>18446744073709551616) x.1.1.1 x.1.2.1.1
def ysj (x:(yjV).X):Option ((yjO).X ⊕ (yj9).X):=zr ybK (yzS x) (yzz x)
def yAi:Seg:=⟨yjV,yjO,yj9,ysj⟩
def yC7:Nat→Option Seg:=fun q=>bif Nat.beq q 13 then some yAi else yC6 q
theorem yOb:FrOk Tryz.prog ⟨yrc,31,yC7⟩ ykP:=(yOa).loop (sg:=yAi) yc9 yzz (by decide) yNA ybK yzS (by decide) (fun _=>rfl) (fun x r _ h=>h) yPC
abbrev ygh:List Par:= [.rd tWs,.rd tI]
abbrev yrw:List OT:= [⟨false,tI,.fz⟩]
def ymR (a0:List dW) (a1:Int):Option (ResD yrw×MutD ygh) :=
  zjw (ysj (((a0,()),(a1,()),((),()),()),(),())) (fun y2 =>
    some ((y2.1.1.1,()),())) (fun y2 =>
    some ((y2.1.1.1,()),()))
theorem yXn (x:InD ygh):zjH ⟨yrc,31,yC7⟩ Tryz.f157.results.toList ykP ygh yrw x=ymR x.1 x.2.1:=by kernel_rfl
theorem ySv:ConOk Tryz.prog 157 ⟨ygh,yrw,fun x=>ymR x.1 x.2.1⟩:=zkh (yOb) Tryz.func157 (by kernel_rfl) (by kernel_rfl) Tryz.ntmps157.symm (by decide) (fun x r h=>(yXn x).trans h)
def yIy (x:dW) (k:Int):Int:=bif x.1 !=k then -1 else yl x.2 (IntKind.i64.wrap (k+1))
def yU (a0:List (dW)) (a1:Int):Int:=(szG yIy a0 a1).getD (-1)
theorem yVq (a0:List (dW)) (a1:Int) (hk:zi9 ygh (a0,a1,())):ymR a0 a1=(fun n=>some ((n,()),())) (yU a0 a1):=by
  have hb:a0.length * 32≤2 ^ 47:=hk.1.1
  have hl:ysj (((a0,()),(a1,()),((),()),()),(),())=some (match szG yIy a0 a1 with | some r=> .inl (((r,()),()),(),()) | none=> .inr ((((-1),()),()),(),())) :=
    zkG (step:=ybK) a0 ((0,[]):dW) (fun i k=>(((a0,()),(k,()),((i:Int),()),()),(),())) yIy (fun r=> .inl (((r,()),()),(),())) (.inr ((((-1),()),()),(),())) (fun i s hi=>by
      simp only [ybK,yqV,zjI (show (i:Int) < a0.length by omega),zkO hi,zjW,cond_true,wr (show -9223372036854775808≤(i:Int)+1 by omega) (by omega),Int.natCast_add,Int.natCast_one,yIy]
      cases ((a0.getD i ((0,[]):dW)).1 !=s)
      · simp only [cond_false]
        cases ltb (yl (a0.getD i ((0,[]):dW)).2 (IntKind.i64.wrap (s+1))) 0<;>rfl
      · rfl) (fun s=>by simp only [ybK,yqV,zkm (Int.le_refl _),cond_false]) a1 _ (by show _ < 18446744073709551616; omega)
  unfold ymR yU
  rw [hl]
  cases szG yIy a0 a1<;>rfl
def yDR:Con:=⟨ygh,yrw,fun x=>(fun n=>some ((n,()),())) (yU x.1 x.2.1)⟩
theorem yWn:ConOk Tryz.prog 157 yDR:=(ySv).mono (fun x r hk h=>(yVq x.1 x.2.1 hk).trans h)
end
section
def yh3:Code:=(Tryz.f80.body).getD .skip
def yoI:Env:=zki TT [(21,yfZ),(156,yzn),(157,yDR)] []
theorem yLS:FrOk Tryz.prog ⟨yoI,51,fun _=>none⟩ yh3:=zkp yb yc ⟨ymF,yPo,yWn,trivial⟩
def yA0:Nat→Option Seg:=fun _=>none
def ycg:Shape:=⟨[(0,false,[.br tM]),(1,false,[.int .i64]),(5,false,[.int .i64])],[],[]⟩
def yiG:Shape:=⟨[(0,false,[.br tM]),(1,false,[.int .i64]),(5,false,[.ci .i64 0])],[],[]⟩
def yio:Shape:=⟨[(1,false,[.int .i64])],[],[]⟩
def yi5:Shape:=⟨[(4,false,[.int .i64])],[],[]⟩
def you (v0:List dM) (v1:Int) (v2:Int):Option ((ycg).X ⊕ ((yio).X ⊕ (yi5).X)) :=
  bif (ltb v2 (v0.length:Int)) then
    bif (inb v2 v0.length) then
      let r4:=yq ((nth v0 v2 ([],[],false,[])).1) v1
      bif (ltb r4 0) then
        some (.inr (.inr ((((-1),()),()),(),())))
      else
        bif (inb v2 v0.length) then
          let r5:=yU (((nth v0 v2 ([],[],false,[])).2).1) r4
          bif (ltb r5 0) then
            some (.inr (.inr ((((-1),()),()),(),())))
          else
            bif (inb v2 v0.length) then
              bif (!((((nth v0 v2 ([],[],false,[])).2).2).1==((r5.tmod 3)==0))) then
                some (.inr (.inr ((((-1),()),()),(),())))
              else
                bif (inb v2 v0.length) then
                  let r6:=yl ((((nth v0 v2 ([],[],false,[])).2).2).2) (IntKind.i64.wrap (r5+1))
                  bif (ltb r6 0) then
                    some (.inr (.inr ((((-1),()),()),(),())))
                  else
                    some (.inl (((v0,()),(r6,()),((IntKind.i64.wrap (v2+1)),()),()),(),()))
                else none
            else none
        else none
    else none
  else
    some (.inr (.inl (((v1,()),()),(),())))
def ybb (x:(ycg).X):=you x.1.1.1 x.1.2.1.1 x.1.2.2.1.1
def yxw (x:(yiG).X):(ycg).X:=(((x.1.1.1,()),(x.1.2.1.1,()),(0,()),()),(),())
def yze:Code:=(zdI yh3 64 52).getD .skip
theorem yLh:zdI yh3 64 13=some (.block 0 (.loop yze)):=by kernel_rfl
theorem yM2 (x:(ycg).X):zg7 ⟨yoI,51,yA0⟩ 0 yze 52 ycg yio yi5 x=ybb x:=by kernel_rfl
def yxK (x:(yiG).X):Nat:=(fun (u0:List dM) (u1:Int)=>18446744073709551616) x.1.1.1 x.1.2.1.1
def yqe (x:(yiG).X):Option ((yio).X ⊕ (yi5).X):=zr ybb (yxK x) (yxw x)
def yx3:Seg:=⟨yiG,yio,yi5,yqe⟩
def yA1:Nat→Option Seg:=fun q=>bif Nat.beq q 13 then some yx3 else yA0 q
theorem yLT:FrOk Tryz.prog ⟨yoI,51,yA1⟩ yh3:=(yLS).loop (sg:=yx3) ycg yxw (by decide) yLh ybb yxK (by decide) (fun _=>rfl) (fun x r _ h=>h) yM2
abbrev ye0:List Par:= [.rd tMs,.rd tI]
abbrev yo7:List OT:= [⟨false,tI,.fz⟩]
def ykx (a0:List dM) (a1:Int):Option (ResD yo7×MutD ye0) :=
  zjw (yqe (((a0,()),(a1,()),((),()),()),(),())) (fun y6 =>
    some ((y6.1.1.1,()),())) (fun y6 =>
    some ((y6.1.1.1,()),()))
theorem yUe (x:InD ye0):zjH ⟨yoI,51,yA1⟩ Tryz.f80.results.toList yh3 ye0 yo7 x=ykx x.1 x.2.1:=by kernel_rfl
theorem yO9:ConOk Tryz.prog 80 ⟨ye0,yo7,fun x=>ykx x.1 x.2.1⟩:=zkh (yLT) Tryz.func80 (by kernel_rfl) (by kernel_rfl) Tryz.ntmps80.symm (by decide) (fun x r h=>(yUe x).trans h)
def yz2 (x:dM) (k:Int):Int:=bif ltb (yq x.1 k) 0 then -1 else bif ltb (yU x.2.1 (yq x.1 k)) 0 then -1 else bif !(x.2.2.1==((yU x.2.1 (yq x.1 k)).tmod 3==0)) then -1 else yl x.2.2.2 (IntKind.i64.wrap (yU x.2.1 (yq x.1 k)+1))
def yby (a0:List (dM)) (a1:Int):Int:=(szG yz2 a0 a1).getD (-1)
theorem yR6 (a0:List (dM)) (a1:Int) (hk:zi9 ye0 (a0,a1,())):ykx a0 a1=(fun n=>some ((n,()),())) (yby a0 a1):=by
  have hb:a0.length * 80≤2 ^ 47:=hk.1.1
  have hl:yqe (((a0,()),(a1,()),((),()),()),(),())=some (match szG yz2 a0 a1 with | some r=> .inl (((r,()),()),(),()) | none=> .inr ((((-1),()),()),(),())) :=
    zkG (step:=ybb) a0 (([],[],false,[]):dM) (fun i k=>(((a0,()),(k,()),((i:Int),()),()),(),())) yz2 (fun r=> .inl (((r,()),()),(),())) (.inr ((((-1),()),()),(),())) (fun i s hi=>by
      simp only [ybb,you,zjI (show (i:Int) < a0.length by omega),zkO hi,zjW,cond_true,wr (show -9223372036854775808≤(i:Int)+1 by omega) (by omega),Int.natCast_add,Int.natCast_one,yz2]
      cases ltb (yq (a0.getD i (([],[],false,[]):dM)).1 s) 0
      · simp only [cond_false]
        cases ltb (yU (a0.getD i (([],[],false,[]):dM)).2.1 (yq (a0.getD i (([],[],false,[]):dM)).1 s)) 0
        · simp only [cond_false]
          cases ((a0.getD i (([],[],false,[]):dM)).2.2.1==((yU (a0.getD i (([],[],false,[]):dM)).2.1 (yq (a0.getD i (([],[],false,[]):dM)).1 s)).tmod 3==0))
          · rfl
          · simp only [Bool.not_true,cond_false]
            cases ltb (yl (a0.getD i (([],[],false,[]):dM)).2.2.2 (IntKind.i64.wrap (yU (a0.getD i (([],[],false,[]):dM)).2.1 (yq (a0.getD i (([],[],false,[]):dM)).1 s)+1))) 0<;>rfl
        · rfl
      · rfl) (fun s=>by simp only [ybb,you,zkm (Int.le_refl _),cond_false]) a1 _ (by show _ < 18446744073709551616; omega)
  unfold ykx yby
  rw [hl]
  cases szG yz2 a0 a1<;>rfl
def yBI:Con:=⟨ye0,yo7,fun x=>(fun n=>some ((n,()),())) (yby x.1 x.2.1)⟩
theorem ySS:ConOk Tryz.prog 80 yBI:=(yO9).mono (fun x r hk h=>(yR6 x.1 x.2.1 hk).trans h)
theorem y2z (l:List dW) (k:Int) (h0:0≤k) (h:k+((l.map (fun x:dW=>1+x.2.length)).sum:Nat)≤9223372036854775807):(zaX yTl l k).1=k+((l.map (fun x:dW=>1+x.2.length)).sum:Nat)∧szG yIy (zaX yTl l k).2 k=some (k+((l.map (fun x:dW=>1+x.2.length)).sum:Nat)) :=
  ziN (m:=fun x:dW=>1+x.2.length) (fun x k h0 h=>by
    have hw:IntKind.i64.wrap (k+1)=k+1:=wr (by omega) (by omega)
    unfold yTl yIy
    simp only [hw,bne_self_eq_false,cond_false,yCF,ymv x.2.length (k+1) (by omega) (by omega)]
    omega) l k h0 h
theorem y19 (l:List (List Int)) (k:Int) (h0:0≤k) (h:k+((l.map (fun x:List Int=>x.length)).sum:Nat)≤9223372036854775807):(zaX yE4 l k).1=k+((l.map (fun x:List Int=>x.length)).sum:Nat)∧szG yym (zaX yE4 l k).2 k=some (k+((l.map (fun x:List Int=>x.length)).sum:Nat)) :=
  ziN (m:=fun x:List Int=>x.length) (fun x k h0 h=>by
    unfold yE4 yym yv
    simp only [yCF,ymv x.length k (by omega) (by omega),and_self]) l k h0 h
theorem y2y (x:dM) (k:Int) (h0:0≤k) (h:k+(ysw x:Nat)≤9223372036854775807):(yCK x k).1=k+(ysw x:Nat)∧yz2 (yCK x k).2 k=k+(ysw x:Nat):=by
  unfold ysw at h ⊢
  obtain ⟨a1,a2⟩:=y19 x.1 k h0 (by omega)
  obtain ⟨b1,b2⟩:=y2z x.2.1 (k+((x.1.map (fun x:List Int=>x.length)).sum:Nat)) (by omega) (by omega)
  have hw: ∀ n:Int,0≤n→n+1≤9223372036854775807→IntKind.i64.wrap (n+1)=n+1:=fun n h1 h2=>wr (by omega) (by omega)
  unfold yCK yz2
  simp only [yP,ya1,yv,yq,yU,a1,a2,b1,b2,Option.getD_some]
  rw [hw _ (by omega) (by omega),zkm (show 0≤k+((x.1.map (fun x:List Int=>x.length)).sum:Nat) by omega),cond_false,zkm (by omega),cond_false,beq_self_eq_true,Bool.not_true,cond_false,yCF,ymv _ _ (by omega) (by omega)]
  omega
theorem yZk (l:List dM) (k:Int) (h0:0≤k) (h:k+(ykh l:Nat)≤9223372036854775807):(zaX yCK l k).1=k+(ykh l:Nat)∧szG yz2 (zaX yCK l k).2 k=some (k+(ykh l:Nat)) :=
  ziN (m:=ysw) (fun x k h0 h=>y2y x k h0 h) l k h0 h
theorem y2X (l:List dM) (h:ykh l≤4611686018427387904):(yZ l 1).1=1+(ykh l:Nat)∧yby (yZ l 1).2 1=1+(ykh l:Nat):=by
  obtain ⟨h1,h2⟩:=yZk l 1 (by omega) (by omega)
  unfold yby yZ
  exact ⟨h1,by rw [h2]; rfl⟩
end
section
def yh1:Code:=(Tryz.f81.body).getD .skip
def yoG:Env:=zki TT [(21,yfZ)] []
theorem yLO:FrOk Tryz.prog ⟨yoG,31,fun _=>none⟩ yh1:=zkp yb yc ⟨ymF,trivial⟩
def yAW:Nat→Option Seg:=fun _=>none
def yce:Shape:=⟨[(0,false,[.br tW]),(1,false,[.int .i64]),(5,false,[.int .i64])],[],[]⟩
def yiE:Shape:=⟨[(0,false,[.br tW]),(1,false,[.int .i64]),(5,false,[.ci .i64 0])],[],[]⟩
def yim:Shape:=⟨[(1,false,[.int .i64])],[],[]⟩
def yi3:Shape:=⟨[(4,false,[.int .i64])],[],[]⟩
def yos (v0:List dW) (v1:Int) (v2:Int):Option ((yce).X ⊕ ((yim).X ⊕ (yi3).X)) :=
  bif (ltb v2 (v0.length:Int)) then
    bif (inb v2 v0.length) then
      bif ((nth v0 v2 (0,[])).1 !=v1) then
        some (.inr (.inr ((((-1),()),()),(),())))
      else
        bif (inb v2 v0.length) then
          let r2:=yl ((nth v0 v2 (0,[])).2) (IntKind.i64.wrap (v1+1))
          bif (ltb r2 0) then
            some (.inr (.inr ((((-1),()),()),(),())))
          else
            some (.inl (((v0,()),(r2,()),((IntKind.i64.wrap (v2+1)),()),()),(),()))
        else none
    else none
  else
    some (.inr (.inl (((v1,()),()),(),())))
def ya9 (x:(yce).X):=yos x.1.1.1 x.1.2.1.1 x.1.2.2.1.1
def yxu (x:(yiE).X):(yce).X:=(((x.1.1.1,()),(x.1.2.1.1,()),(0,()),()),(),())
def yzc:Code:=(zdI yh1 64 52).getD .skip
theorem yLf:zdI yh1 64 13=some (.block 0 (.loop yzc)):=by kernel_rfl
theorem yM0 (x:(yce).X):zg7 ⟨yoG,31,yAW⟩ 0 yzc 52 yce yim yi3 x=ya9 x:=by kernel_rfl
def yxI (x:(yiE).X):Nat:=(fun (u0:List dW) (u1:Int)=>18446744073709551616) x.1.1.1 x.1.2.1.1
def yqc (x:(yiE).X):Option ((yim).X ⊕ (yi3).X):=zr ya9 (yxI x) (yxu x)
def yx1:Seg:=⟨yiE,yim,yi3,yqc⟩
def yAX:Nat→Option Seg:=fun q=>bif Nat.beq q 13 then some yx1 else yAW q
theorem yLP:FrOk Tryz.prog ⟨yoG,31,yAX⟩ yh1:=(yLO).loop (sg:=yx1) yce yxu (by decide) yLf ya9 yxI (by decide) (fun _=>rfl) (fun x r _ h=>h) yM0
abbrev yeY:List Par:= [.rd tWs,.rd tI]
abbrev yo5:List OT:= [⟨false,tI,.fz⟩]
def ykv (a0:List dW) (a1:Int):Option (ResD yo5×MutD yeY) :=
  zjw (yqc (((a0,()),(a1,()),((),()),()),(),())) (fun y2 =>
    some ((y2.1.1.1,()),())) (fun y2 =>
    some ((y2.1.1.1,()),()))
theorem yUc (x:InD yeY):zjH ⟨yoG,31,yAX⟩ Tryz.f81.results.toList yh1 yeY yo5 x=ykv x.1 x.2.1:=by kernel_rfl
theorem yO7:ConOk Tryz.prog 81 ⟨yeY,yo5,fun x=>ykv x.1 x.2.1⟩:=zkh (yLP) Tryz.func81 (by kernel_rfl) (by kernel_rfl) Tryz.ntmps81.symm (by decide) (fun x r h=>(yUc x).trans h)
def yEz (x:dW) (k:Int):Int:=bif x.1 !=k then -1 else yl x.2 (IntKind.i64.wrap (k+1))
def yfi (a0:List (dW)) (a1:Int):Int:=(szG yEz a0 a1).getD (-1)
theorem yR4 (a0:List (dW)) (a1:Int) (hk:zi9 yeY (a0,a1,())):ykv a0 a1=(fun n=>some ((n,()),())) (yfi a0 a1):=by
  have hb:a0.length * 32≤2 ^ 47:=hk.1.1
  have hl:yqc (((a0,()),(a1,()),((),()),()),(),())=some (match szG yEz a0 a1 with | some r=> .inl (((r,()),()),(),()) | none=> .inr ((((-1),()),()),(),())) :=
    zkG (step:=ya9) a0 ((0,[]):dW) (fun i k=>(((a0,()),(k,()),((i:Int),()),()),(),())) yEz (fun r=> .inl (((r,()),()),(),())) (.inr ((((-1),()),()),(),())) (fun i s hi=>by
      simp only [ya9,yos,zjI (show (i:Int) < a0.length by omega),zkO hi,zjW,cond_true,wr (show -9223372036854775808≤(i:Int)+1 by omega) (by omega),Int.natCast_add,Int.natCast_one,yEz]
      cases ((a0.getD i ((0,[]):dW)).1 !=s)
      · simp only [cond_false]
        cases ltb (yl (a0.getD i ((0,[]):dW)).2 (IntKind.i64.wrap (s+1))) 0<;>rfl
      · rfl) (fun s=>by simp only [ya9,yos,zkm (Int.le_refl _),cond_false]) a1 _ (by show _ < 18446744073709551616; omega)
  unfold ykv yfi
  rw [hl]
  cases szG yEz a0 a1<;>rfl
def yBH:Con:=⟨yeY,yo5,fun x=>(fun n=>some ((n,()),())) (yfi x.1 x.2.1)⟩
theorem ySR:ConOk Tryz.prog 81 yBH:=(yO7).mono (fun x r hk h=>(yR4 x.1 x.2.1 hk).trans h)
theorem y2h (l:List dW) (k:Int) (h0:0≤k) (h:k+(yU8 l:Nat)≤9223372036854775807):(zaX yIS l k).1=k+(yU8 l:Nat)∧szG yEz (zaX yIS l k).2 k=some (k+(yU8 l:Nat)) :=
  ziN (m:=fun x:dW=>1+x.2.length) (fun x k h0 h=>by
    have hw:IntKind.i64.wrap (k+1)=k+1:=wr (by omega) (by omega)
    unfold yIS yEz
    simp only [hw,bne_self_eq_false,cond_false,yCF,ymv x.2.length (k+1) (by omega) (by omega)]
    omega) l k h0 h
end
section
def yHh:Code:=(Tryz.f24.body).getD .skip
def yHL:Env:=zki TT [(80,yBI),(81,yBH)] []
theorem yN9:FrOk Tryz.prog ⟨yHL,18,fun _=>none⟩ yHh:=zkp yb yc ⟨ySS,ySR,trivial⟩
def yP5:Nat→Option Seg:=fun _=>none
abbrev yk6:List Par:= [.rd tA,.rd tI]
abbrev yrv:List OT:= [⟨false,tI,.fz⟩]
def yuP (a0:dA) (a1:Int):Option (ResD yrv×MutD yk6) :=
  let r1:=yby a0.2.2.1 a1
  bif (ltb r1 0) then
    some (((-1),()),())
  else
    let r2:=yfi a0.2.2.2.2.2.2.2.2.1 r1
    bif (ltb r2 0) then
      some (((-1),()),())
    else
      some ((r2,()),())
theorem yXm (x:InD yk6):zjH ⟨yHL,18,yP5⟩ Tryz.f24.results.toList yHh yk6 yrv x=yuP x.1 x.2.1:=by kernel_rfl
theorem ySu:ConOk Tryz.prog 24 ⟨yk6,yrv,fun x=>yuP x.1 x.2.1⟩:=zkh (yN9) Tryz.func24 (by kernel_rfl) (by kernel_rfl) Tryz.ntmps24.symm (by decide) (fun x r h=>(yXm x).trans h)
def ycp (a0:dA) (a1:Int):Int :=
  let r1:=yby a0.2.2.1 a1
  bif (ltb r1 0) then
    (-1)
  else
    let r2:=yfi a0.2.2.2.2.2.2.2.2.1 r1
    bif (ltb r2 0) then
      (-1)
    else
      r2
def yDQ:Con:=⟨yk6,yrv,fun x=>(fun n=>some ((n,()),())) (ycp x.1 x.2.1)⟩
theorem yVp (a0:dA) (a1:Int):yuP a0 a1=(fun n=>some ((n,()),())) (ycp a0 a1):=zkS (p:=fun (n:Int)=>((n,()),())) (zkx (p:=fun (n:Int)=>((n,()),())) rfl (zkx (p:=fun (n:Int)=>((n,()),())) rfl rfl))
theorem yWm:ConOk Tryz.prog 24 yDQ:=(ySu).mono (fun x r _ h=>(yVp x.1 x.2.1).trans h)
theorem y22 {x:dA} (h:yn7 x≤4611686018427387904):(yV x 1).1=1+(yn7 x:Nat)∧ycp (yV x 1).2 1=1+(yn7 x:Nat):=by
  unfold yn7 at h ⊢
  obtain ⟨a1,a2⟩:=yZk x.2.2.1 1 (by omega) (by omega)
  obtain ⟨b1,b2⟩:=y2h x.2.2.2.2.2.2.2.2.1 (1+(ykh x.2.2.1:Nat)) (by omega) (by omega)
  unfold yV ycp
  simp only [yZ,yfj,yby,yfi,a1,a2,b1,b2,Option.getD_some]
  rw [zkm (show (0:Int)≤1+(ykh x.2.2.1:Nat) by omega),cond_false,zkm (by omega),cond_false]
  omega
abbrev yXP (x:dA):dA:=(x.1,x.2.1,(yV x 1).2.2.2.1,x.2.2.2.1,x.2.2.2.2.1,x.2.2.2.2.2.1,x.2.2.2.2.2.2.1,x.2.2.2.2.2.2.2.1,(yV x 1).2.2.2.2.2.2.2.2.2.1,x.2.2.2.2.2.2.2.2.2)
theorem y2W {x:dA} (h:yn7 x≤4611686018427387904):ltb (yV x 1).1 0=false∧ltb (ycp (yXP x) 1) 0=false∧(ycp (yXP x) 1 !=(yV x 1).1)=false:=by
  obtain ⟨h1,h2⟩:=y22 h
  rw [show yXP x=(yV x 1).2 from rfl,h1,h2]
  exact ⟨zkm (by omega),zkm (by omega),by simp⟩
end
section
def yI5:Code:=(Tryz.f185.body).getD .skip
def yJu:Env:=zki TT [] []
theorem yQU:FrOk Tryz.prog ⟨yJu,12,fun _=>none⟩ yI5:=zkp yb yc trivial
def yTy:Nat→Option Seg:=fun _=>none
abbrev ynu:List Par:= [.rd tL,.rd tI]
abbrev ytM:List OT:= [⟨false,tI,.fz⟩]
def ywW (a0:List Int) (a1:Int):Option (ResD ytM×MutD ynu) :=
  bif (ltb (IntKind.i64.wrap (a1 - (a0.length:Int))) 0) then
    some (((-1),()),())
  else
    some (((IntKind.i64.wrap (a1 - (a0.length:Int))),()),())
theorem yZP (x:InD ynu):zjH ⟨yJu,12,yTy⟩ Tryz.f185.results.toList yI5 ynu ytM x=ywW x.1 x.2.1:=by kernel_rfl
theorem yVU:ConOk Tryz.prog 185 ⟨ynu,ytM,fun x=>ywW x.1 x.2.1⟩:=zkh (yQU) Tryz.func185 (by kernel_rfl) (by kernel_rfl) Tryz.ntmps185.symm (by decide) (fun x r h=>(yZP x).trans h)
def yo (a0:List Int) (a1:Int):Int :=
  bif (ltb (IntKind.i64.wrap (a1 - (a0.length:Int))) 0) then
    (-1)
  else
    (IntKind.i64.wrap (a1 - (a0.length:Int)))
def yps:Con:=⟨ynu,ytM,fun x=>(fun n=>some ((n,()),())) (yo x.1 x.2.1)⟩
theorem yX6 (a0:List Int) (a1:Int):ywW a0 a1=(fun n=>some ((n,()),())) (yo a0 a1):=zkS (p:=fun (n:Int)=>((n,()),())) (zkx (p:=fun (n:Int)=>((n,()),())) rfl rfl)
theorem yyo:ConOk Tryz.prog 185 yps:=(yVU).mono (fun x r _ h=>(yX6 x.1 x.2.1).trans h)
theorem yNc {a:List Int} {k:Int} (hk:0≤k) (hk2:k≤1048576) (ha:a.length≤17592186044416) (h: ¬ yo a k < 0):(a.length:Int)≤k∧yo a k=k - a.length:=by
  unfold yo at h ⊢
  rw [wr (by omega) (by omega)] at h ⊢
  by_cases h1:k - (a.length:Int) < 0
  · rw [zjI h1]at h; exact absurd (show (-1:Int) < 0 by omega) h
  · rw [zkm (Int.not_lt.1 h1)]; exact ⟨by omega,rfl⟩
end
section
def ykR:Code:=(Tryz.f183.body).getD .skip
def yre:Env:=zki TT [(185,yps)] []
theorem yOf:FrOk Tryz.prog ⟨yre,27,fun _=>none⟩ ykR:=zkp yb yc ⟨yyo,trivial⟩
def yDa:Nat→Option Seg:=fun _=>none
def ydb:Shape:=⟨[(0,false,[.br tL]),(1,false,[.int .i64]),(5,false,[.int .i64])],[],[]⟩
def yjX:Shape:=⟨[(0,false,[.br tL]),(1,false,[.int .i64]),(5,false,[.ci .i64 0])],[],[]⟩
def yjQ:Shape:=⟨[(1,false,[.int .i64])],[],[]⟩
def ykb:Shape:=⟨[(4,false,[.int .i64])],[],[]⟩
def yqX (v0:List (List Int)) (v1:Int) (v2:Int):Option ((ydb).X ⊕ ((yjQ).X ⊕ (ykb).X)) :=
  bif (ltb v2 (v0.length:Int)) then
    bif (inb v2 v0.length) then
      let r2:=yo (nth v0 v2 []) v1
      bif (ltb r2 0) then
        some (.inr (.inr ((((-1),()),()),(),())))
      else
        some (.inl (((v0,()),(r2,()),((IntKind.i64.wrap (v2+1)),()),()),(),()))
    else none
  else
    some (.inr (.inl (((v1,()),()),(),())))
def ybM (x:(ydb).X):=yqX x.1.1.1 x.1.2.1.1 x.1.2.2.1.1
def yzB (x:(yjX).X):(ydb).X:=(((x.1.1.1,()),(x.1.2.1.1,()),(0,()),()),(),())
def yBr:Code:=(zdI ykR 64 244).getD .skip
theorem yNC:zdI ykR 64 61=some (.block 0 (.loop yBr)):=by kernel_rfl
theorem yPE (x:(ydb).X):zg7 ⟨yre,27,yDa⟩ 0 yBr 244 ydb yjQ ykb x=ybM x:=by kernel_rfl
def yzU (x:(yjX).X):Nat:=(fun (u0:List (List Int)) (u1:Int)=>18446744073709551616) x.1.1.1 x.1.2.1.1
def ysl (x:(yjX).X):Option ((yjQ).X ⊕ (ykb).X):=zr ybM (yzU x) (yzB x)
def yAk:Seg:=⟨yjX,yjQ,ykb,ysl⟩
def yDb:Nat→Option Seg:=fun q=>bif Nat.beq q 61 then some yAk else yDa q
theorem yOg:FrOk Tryz.prog ⟨yre,27,yDb⟩ ykR:=(yOf).loop (sg:=yAk) ydb yzB (by decide) yNC ybM yzU (by decide) (fun _=>rfl) (fun x r _ h=>h) yPE
abbrev ygj:List Par:= [.rd tLL,.rd tI]
abbrev yrz:List OT:= [⟨false,tI,.fz⟩]
def ymT (a0:List (List Int)) (a1:Int):Option (ResD yrz×MutD ygj) :=
  bif (ltb (IntKind.i64.wrap (a1 - (a0.length:Int))) 0) then
    some (((-1),()),())
  else
    zjw (ysl (((a0,()),((IntKind.i64.wrap (a1 - (a0.length:Int))),()),((),()),()),(),())) (fun y2 =>
      some ((y2.1.1.1,()),())) (fun y2 =>
      some ((y2.1.1.1,()),()))
theorem yXq (x:InD ygj):zjH ⟨yre,27,yDb⟩ Tryz.f183.results.toList ykR ygj yrz x=ymT x.1 x.2.1:=by kernel_rfl
theorem ySy:ConOk Tryz.prog 183 ⟨ygj,yrz,fun x=>ymT x.1 x.2.1⟩:=zkh (yOg) Tryz.func183 (by kernel_rfl) (by kernel_rfl) Tryz.ntmps183.symm (by decide) (fun x r h=>(yXq x).trans h)
def yW (a0:List (List Int)) (a1:Int):Int:=bif ltb (IntKind.i64.wrap (a1 - (a0.length:Int))) 0 then (-1) else (szG yo a0 (IntKind.i64.wrap (a1 - (a0.length:Int)))).getD (-1)
theorem yVt (a0:List (List Int)) (a1:Int) (hk:zi9 ygj (a0,a1,())):ymT a0 a1=(fun n=>some ((n,()),())) (yW a0 a1):=by
  have hb:a0.length * 24≤2 ^ 47:=hk.1.1
  have hl: ∀ k:Int,ysl (((a0,()),(k,()),((),()),()),(),())=some (match szG yo a0 k with | some r=> .inl (((r,()),()),(),()) | none=> .inr ((((-1),()),()),(),())):=fun k =>
    zkG (step:=ybM) a0 ([]:List Int) (fun i k=>(((a0,()),(k,()),((i:Int),()),()),(),())) yo (fun r=> .inl (((r,()),()),(),())) (.inr ((((-1),()),()),(),())) (fun i s hi=>by
      simp only [ybM,yqX,zkO hi,zjW,Int.toNat_natCast,zjI (show (i:Int) < a0.length by omega),cond_true,wr (show -9223372036854775808≤(i:Int)+1 by omega) (by omega),Int.natCast_add,Int.natCast_one,zkV]
      cases ltb (yo (a0.getD i []) s) 0<;>rfl) (fun s=>by simp only [ybM,yqX,zkm (Int.le_refl _),cond_false]) k _ (by show _ < 18446744073709551616; omega)
  unfold ymT yW
  rw [hl]
  cases ltb (IntKind.i64.wrap (a1 - (a0.length:Int))) 0
  · cases szG yo a0 (IntKind.i64.wrap (a1 - (a0.length:Int)))<;>rfl
  · rfl
def yDU:Con:=⟨ygj,yrz,fun x=>(fun n=>some ((n,()),())) (yW x.1 x.2.1)⟩
theorem yWq:ConOk Tryz.prog 183 yDU:=(ySy).mono (fun x r hk h=>(yVt x.1 x.2.1 hk).trans h)
end
end
end Go.Tf
