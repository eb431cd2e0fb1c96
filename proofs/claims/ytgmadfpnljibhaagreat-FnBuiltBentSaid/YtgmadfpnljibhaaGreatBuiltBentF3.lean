/- Functions of the program, and what they come to. -/
import Derived.Test.YtgmadfpnljibhaaGreatBuiltBentF2
namespace Go.Tf
noncomputable section
open Go.Proofs
set_option synthInstance.maxHeartbeats 400000
set_option synthInstance.maxSize 10000
set_option linter.unusedVariables false
set_option linter.unusedSimpArgs false
set_option maxRecDepth 100000
section
def yDf:Code:=(Tryz.f264.body).getD .skip
def yDM:Env:=zki TT [(135,yq),(152,yfp),(224,ygz),(269,ywS),(287,yxU)] [(16832,(.pr .fz .fz))]
theorem yKy:FrOk Tryz.prog ⟨yDM,55,fun _=>none⟩ yDf:=zkp yc yd ⟨yz,yln,ym8,yIb,yNq,trivial⟩
def yLG:Nat→Option Seg:=fun _=>none
abbrev yfl:List Par:= [.rd tM,.rd tI,.rd tL]
abbrev yn5:List OT:= [⟨false,tM,(.pr (.ow .fz) (.pr (.ow (.pr .fz .fz)) (.pr .fz (.ow .fz))))⟩,⟨false,tB,.fz⟩]
def ykf (a0:dM) (a1:Int) (a2:List Int):Option (ResD yn5×MutD yfl) :=
  let r1:=yS a0
  let r2:=yam a0
  bif (!(!r2)) then
    bif (!a0.2.2.1) then
      let r3:=ya a1 0 (IntKind.i64.wrap ((a0.1.length:Int) - 1))
      bif (!(!r3)) then
        let r4:=yhz a2
        bif (!(!r4)) then
          bif (leb 60 (a0.2.1.length:Int)) then
            some ((r1,false,()),())
          else
            bif (zj4 ([]:List Int).length a2.length 8) then
              bif (zj4 r1.2.1.length ([(a1,(([]:List Int)++a2))]:List dW).length 32) then
                let r5:=yhD a0.2.2.2 a1
                some (((r1.1,(r1.2.1++([(a1,(([]:List Int)++a2))]:List dW)),r1.2.2.1,r5),true,()),())
              else none
            else none
        else
          some ((r1,false,()),())
      else
        some ((r1,false,()),())
    else
      some ((r1,false,()),())
  else
    some ((r1,false,()),())
theorem yR7 (x:InD yfl):zjH ⟨yDM,55,yLG⟩ Tryz.f264.results.toList yDf yfl yn5 x=ykf x.1 x.2.1 x.2.2.1:=by kernel_rfl
theorem yNi:ConOk Tryz.prog 264 ⟨yfl,yn5,fun x=>ykf x.1 x.2.1 x.2.2.1⟩:=zkh (yKy) Tryz.func264 (by kernel_rfl) (by kernel_rfl) Tryz.ntmps264.symm (by decide) (fun x r h=>(yR7 x).trans h)
def ydn (a0:dM) (a1:Int) (a2:List Int):dM×Bool:=yfH a0 a1 a2
theorem yP8 (a0:dM) (a1:Int) (a2:List Int) (hk:zi9 yfl (a0,a1,a2,())):ykf a0 a1 a2=(fun n=>some ((n.1,n.2,()),())) (ydn a0 a1 a2):=by
  have hb1:a0.1.length * 24≤2 ^ 47:=hk.1.1.1
  have hb2:a2.length * 8≤2 ^ 47:=hk.2.2.1.1
  unfold ykf ydn yfH ywN
  simp only [yS,yam,ypz (show a0.1.length≤1152921504606846976 by omega),yE0,yhD,List.nil_append]
  cases yp a0
  · rfl
  cases a0.2.2.1
  · cases inb a1 a0.1.length
    · rfl
    cases yaf a2
    · rfl
    by_cases h:(a0.2.1.length:Int) < 60
    · rw [zjI h,zkZ h,zkw.2 (show (([]:List Int).length+a2.length) * 8≤140737488355328 by rw [List.length_nil]; omega),zkw.2 (show (a0.2.1.length+ [(a1,a2)].length) * 32≤140737488355328 by simp only [List.length_cons,List.length_nil]; omega)]; rfl
    · rw [zkm (by omega),zk0 (by omega)]; rfl
  · rfl
def yrk:Con:=⟨yfl,yn5,fun x=>(fun n=>some ((n.1,n.2,()),())) (ydn x.1 x.2.1 x.2.2.1)⟩
theorem yCE:ConOk Tryz.prog 264 yrk:=(yNi).mono (fun x r hk h=>(yP8 x.1 x.2.1 x.2.2.1 hk).trans h)
end
section
def yJj:Code:=(Tryz.f207.body).getD .skip
def yJI:Env:=zki TT [(263,yyP),(264,yrk)] []
theorem ySR:FrOk Tryz.prog ⟨yJI,43,fun _=>none⟩ yJj:=zkp yc yd ⟨yLd,yCE,trivial⟩
def yUY:Nat→Option Seg:=fun _=>none
abbrev ygU:List Par:= [.pt tA (.pr .fz (.pr (.pr .fz .fz) (.pr (.ow (.pr (.ow .fz) (.pr (.ow (.pr .fz .fz)) (.pr .fz (.ow .fz))))) (.pr .fz (.pr .fz (.pr .fz (.pr .fz (.pr .fz (.pr (.ow (.pr .fz .fz)) (.pr .fz (.pr .fz .fz))))))))))),.rd tI,.rd tI,.rd tL]
abbrev ypl:List OT:= []
def yqV (a0:dA) (a1:Int) (a2:Int) (a3:List Int):Option (ResD ypl×MutD ygU) :=
  bif (inb a1 a0.2.2.1.length) then
    bif (!((((nth a0.2.2.1 a1 ([],[],false,[])).2).2).1)) then
      let r1:=yrY a0
      bif (!r1.1) then
        some ((),(r1.2,()))
      else
        bif (inb a1 r1.2.2.2.1.length) then
          let r2:=ydn ((nth r1.2.2.2.1 a1 ([],[],false,[])).1,((nth r1.2.2.2.1 a1 ([],[],false,[])).2).1,(((nth r1.2.2.2.1 a1 ([],[],false,[])).2).2)) a2 a3
          bif (inb a1 r1.2.2.2.1.length) then
            some ((),((r1.2.1,r1.2.2.1,(r1.2.2.2.1.set (a1).toNat r2.1),r1.2.2.2.2),()))
          else none
        else none
    else
      some ((),(a0,()))
  else none
theorem yZt (x:InD ygU):zjH ⟨yJI,43,yUY⟩ Tryz.f207.results.toList yJj ygU ypl x=yqV x.1 x.2.1 x.2.2.1 x.2.2.2.1:=by kernel_rfl
theorem yWu:ConOk Tryz.prog 207 ⟨ygU,ypl,fun x=>yqV x.1 x.2.1 x.2.2.1 x.2.2.2.1⟩:=zkh (ySR) Tryz.func207 (by kernel_rfl) (by kernel_rfl) Tryz.ntmps207.symm (by decide) (fun x r h=>(yZt x).trans h)
def ypP (a0:dA) (a1 a2:Int) (a3:List Int):dA:=ydT a0 a1 a2 a3
def yCH (a0:dA) (a1 a2:Int) (a3:List Int):Bool:=inb a1 a0.2.2.1.length
theorem yYu (a0:dA) (a1 a2:Int) (a3:List Int) (hk:zi9 ygU (a0,a1,a2,a3,())) (hq:yCH a0 a1 a2 a3=true):yqV a0 a1 a2 a3=(fun n=>some ((),(n,()))) (ypP a0 a1 a2 a3):=by
  have hq:inb a1 a0.2.2.1.length=true:=hq
  unfold yqV ypP ydT ync
  simp only [yUE,yaI,hq,zkV,ydn]
  cases (nth a0.2.2.1 a1 ye).2.2.1<;>cases (opA a0).1<;>rfl
def ye5 (a0:dA) (a1:Int) (a2:Int) (a3:List Int):Option (ResD ypl×MutD ygU):=bif yCH a0 a1 a2 a3 then (fun n=>some ((),(n,()))) (ypP a0 a1 a2 a3) else none
theorem yna (a0:dA) (a1:Int) (a2:Int) (a3:List Int) (h:yCH a0 a1 a2 a3=true):ye5 a0 a1 a2 a3=(fun n=>some ((),(n,()))) (ypP a0 a1 a2 a3):=by unfold ye5; rw [h]; rfl
def yk8:Con:=⟨ygU,ypl,fun x=>ye5 x.1 x.2.1 x.2.2.1 x.2.2.2.1⟩
theorem ysO:ConOk Tryz.prog 207 yk8:=(yWu).mono (fun x r hk h=>zkW h (fun hq=>yYu x.1 x.2.1 x.2.2.1 x.2.2.2.1 hk hq))
end
section
def yii:Code:=(Tryz.f286.body).getD .skip
def ynN:Env:=zki TT [(152,yfp),(224,ygz)] [(32768,(.pr .fz .fz))]
theorem yKr:FrOk Tryz.prog ⟨ynN,40,fun _=>none⟩ yii:=zkp yc yd ⟨yln,ym8,trivial⟩
def yzo:Nat→Option Seg:=fun _=>none
def ybd:Shape:=⟨[(2,false,[.ptr 64 0]),(3,false,[.ptr 4224 0]),(4,false,[.int .i64])],[(64,[.nil,.nil,.bool,.nil]),(4224,[.at 800000000,.at 800000001,.bool,.at 800000002])],[(800000000,tL,.fz),(800000001,tW,(.pr .fz .fz)),(800000002,tI,.fz)]⟩
def yeU:Shape:=⟨[(2,false,[.ptr 64 0]),(3,false,[.ptr 4224 0]),(4,false,[.ci .i64 0])],[(64,[.nil,.nil,.bool,.nil]),(4224,[.at 800000000,.at 800000001,.bool,.at 800000002])],[(800000000,tL,.fz),(800000001,tW,(.pr .fz .fz)),(800000002,tI,.fz)]⟩
def yeL:Shape:=⟨[(2,false,[.ptr 64 0]),(3,false,[.ptr 4224 0])],[(64,[.nil,.nil,.bool,.nil]),(4224,[.at 800000000,.at 800000001,.bool,.at 800000002])],[(800000000,tL,.fz),(800000001,tW,(.pr .fz .fz)),(800000002,tI,.fz)]⟩
def yjd:Shape:=⟨[],[],[]⟩
abbrev ynp (v0:Int) (v1:dM) (v2:dM):(ybd).X:=((((),()),((),()),(v0,()),()),(((),(),v1.2.2.1,(),()),((),(),v2.2.2.1,(),()),()),(v2.1,v2.2.1,v2.2.2.2,()))
abbrev yIL (v0:dM) (v1:dM):(yeU).X:=((((),()),((),()),((),()),()),(((),(),v0.2.2.1,(),()),((),(),v1.2.2.1,(),()),()),(v1.1,v1.2.1,v1.2.2.2,()))
abbrev ywv (v0:dM) (v1:dM):(yeL).X:=((((),()),((),()),()),(((),(),v0.2.2.1,(),()),((),(),v1.2.2.1,(),()),()),(v1.1,v1.2.1,v1.2.2.2,()))
def ynC (v0:Int) (v1:Bool) (v2:Bool) (v3:List (List Int)) (v4:List dW) (v5:List Int):Option ((ybd).X ⊕ ((yeL).X ⊕ (yjd).X)) :=
  bif (ltb v0 (v4.length:Int)) then
    bif (inb v0 v4.length) then
      bif (inb v0 v4.length) then
        bif (inb ((nth v4 v0 (0,[])).1) v3.length) then
          let r4:=(v3.set ((nth v4 v0 (0,[])).1).toNat ((nth v4 v0 (0,[])).2))
          some (.inl ((((),()),((),()),((IntKind.i64.wrap (v0+1)),()),()),(((),(),v1,(),()),((),(),v2,(),()),()),(r4,v4,v5,())))
        else none
      else none
    else none
  else
    some (.inr (.inl ((((),()),((),()),()),(((),(),v1,(),()),((),(),v2,(),()),()),(v3,v4,v5,()))))
def ybu (x:(ybd).X):=ynC x.1.2.2.1.1 x.2.1.1.2.2.1 x.2.1.2.1.2.2.1 x.2.2.1 x.2.2.2.1 x.2.2.2.2.1
def ywg (x:(yeU).X):(ybd).X:=((((),()),((),()),(0,()),()),(((),(),x.2.1.1.2.2.1,(),()),((),(),x.2.1.2.1.2.2.1,(),()),()),(x.2.2.1,x.2.2.2.1,x.2.2.2.2.1,()))
def yxO:Code:=(zdI yii 64 244).getD .skip
theorem yJT:zdI yii 64 61=some (.block 0 (.loop yxO)):=by kernel_rfl
theorem yLo (x:(ybd).X):zg7 ⟨ynN,40,yzo⟩ 0 yxO 244 ybd yeL yjd x=ybu x:=by kernel_rfl
def ywq (x:(yeU).X):Nat:=(fun (u0:Bool) (u1:Bool) (u2:List (List Int)) (u3:List dW) (u4:List Int)=>18446744073709551616) x.2.1.1.2.2.1 x.2.1.2.1.2.2.1 x.2.2.1 x.2.2.2.1 x.2.2.2.2.1
def yo5 (x:(yeU).X):Option ((yeL).X ⊕ (yjd).X):=zr ybu (ywq x) (ywg x)
def ywF:Seg:=⟨yeU,yeL,yjd,yo5⟩
def yzp:Nat→Option Seg:=fun q=>bif Nat.beq q 61 then some ywF else yzo q
theorem yKs:FrOk Tryz.prog ⟨ynN,40,yzp⟩ yii:=(yKr).loop (sg:=ywF) ybd ywg (by decide) yJT ybu ywq (by decide) (fun _=>rfl) (fun x r _ h=>h) yLo
abbrev yfh:List Par:= [.rd tM]
abbrev yn0:List OT:= [⟨false,tM,(.pr (.ow .fz) (.pr (.ow (.pr .fz .fz)) (.pr .fz (.ow .fz))))⟩]
def ykb (a0:dM):Option (ResD yn0×MutD yfh) :=
  let r1:=yS a0
  let r2:=yam a0
  bif (!(!r2)) then
    bif a0.2.2.1 then
      some ((r1,()),())
    else
      zjw (yo5 ((((),()),((),()),((),()),()),(((),(),false,(),()),((),(),r1.2.2.1,(),()),()),(r1.1,r1.2.1,r1.2.2.2,()))) (fun y4 =>
        some (((y4.2.2.1,([]:List dW),y4.2.1.2.1.2.2.1,y4.2.2.2.2.1),()),())) (fun y4 =>
        none)
  else
    some ((r1,()),())
theorem yR2 (x:InD yfh):zjH ⟨ynN,40,yzp⟩ Tryz.f286.results.toList yii yfh yn0 x=ykb x.1:=by kernel_rfl
theorem yNd:ConOk Tryz.prog 286 ⟨yfh,yn0,fun x=>ykb x.1⟩:=zkh (yKs) Tryz.func286 (by kernel_rfl) (by kernel_rfl) Tryz.ntmps286.symm (by decide) (fun x r h=>(yR2 x).trans h)
def ydl (a0:dM):dM:=yeo a0
theorem yP3 (a0:dM) (hk:zi9 yfh (a0,())):ykb a0=(fun n=>some ((n,()),())) (ydl a0):=by
  have hb2:a0.2.1.length * 32≤2 ^ 47:=hk.1.2.1.1
  unfold ykb ydl yeo
  simp only [yS,yam]
  cases hm:yp a0
  · rfl
  have h1:yo5 (yIL ye a0)=some (.inl (ywv ye (yep (fun _=>true) a0.2.1 a0.1,a0.2))) :=
    zks (step:=ybu) a0.2.1.length (fun i s=>ynp i ye (s,a0.2)) (yf9 (fun _=>true) a0.2.1) (fun i s=>s.length=a0.1.length) (fun s=> .inl (ywv ye (s,a0.2))) (fun i s hi hs=>by
      have hw:=(yZI hm hi).1
      refine ⟨?_,yGO.trans hs⟩
      simp only [ybu,ynp,ynC,zjI (show (i:Int) < a0.2.1.length by omega),cond_true,wr (show -9223372036854775808≤(i:Int)+1 by omega) (by omega),Int.natCast_add,Int.natCast_one,Int.toNat_natCast,zkO hi,hs,hw,yf9]) (fun s hs=>by simp only [ybu,ynp,ynC,zkm (Int.le_refl _),cond_false]) a0.1 rfl _ (by show _ < 18446744073709551616; omega)
  rw [h1]
  cases hf:a0.2.2.1
  · exact congrArg (fun z=>some (((yep (fun _=>true) a0.2.1 a0.1,([]:List dW),z,a0.2.2.2),()),())) hf
  · rfl
def yrg:Con:=⟨yfh,yn0,fun x=>(fun n=>some ((n,()),())) (ydl x.1)⟩
theorem yCA:ConOk Tryz.prog 286 yrg:=(yNd).mono (fun x r hk h=>(yP3 x.1 hk).trans h)
end
section
def ymr:Code:=(Tryz.f261.body).getD .skip
def yr8:Env:=zki TT [(263,yyP),(286,yrg)] []
theorem yPk:FrOk Tryz.prog ⟨yr8,39,fun _=>none⟩ ymr:=zkp yc yd ⟨yLd,yCA,trivial⟩
def yDE:Nat→Option Seg:=fun _=>none
def yde:Shape:=⟨[(0,false,[.ptr 1000000000 0]),(2,false,[.int .i64])],[(1000000000,[.int .i64,.int .i64,.int .i64,.at 800000000,.int .i64,.int .i64,.int .i64,.int .i64,.int .i64,.at 800000001,.int .i64,.bool,.bool])],[(800000000,tM,(.pr (.ow .fz) (.pr (.ow (.pr .fz .fz)) (.pr .fz (.ow .fz))))),(800000001,tW,(.pr .fz .fz))]⟩
def yiU:Shape:=⟨[(0,false,[.ptr 1000000000 0]),(2,false,[.ci .i64 0])],[(1000000000,[.int .i64,.int .i64,.int .i64,.at 800000000,.int .i64,.int .i64,.int .i64,.int .i64,.int .i64,.at 800000001,.int .i64,.bool,.bool])],[(800000000,tM,(.pr (.ow .fz) (.pr (.ow (.pr .fz .fz)) (.pr .fz (.ow .fz))))),(800000001,tW,(.pr .fz .fz))]⟩
def yiF:Shape:=⟨[],[(1000000000,[.int .i64,.int .i64,.int .i64,.at 800000000,.int .i64,.int .i64,.int .i64,.int .i64,.int .i64,.at 800000001,.int .i64,.bool,.bool])],[(800000000,tM,(.pr (.ow .fz) (.pr (.ow (.pr .fz .fz)) (.pr .fz (.ow .fz))))),(800000001,tW,(.pr .fz .fz))]⟩
def yoe:Shape:=⟨[],[],[]⟩
abbrev ytq (v0:Int) (v1:dA):(yde).X:=((((),()),(v0,()),()),((v1.1,v1.2.1.1,v1.2.1.2,(),v1.2.2.2.1,v1.2.2.2.2.1,v1.2.2.2.2.2.1,v1.2.2.2.2.2.2.1,v1.2.2.2.2.2.2.2.1,(),v1.2.2.2.2.2.2.2.2.2.1,v1.2.2.2.2.2.2.2.2.2.2.1,v1.2.2.2.2.2.2.2.2.2.2.2,()),()),(v1.2.2.1,v1.2.2.2.2.2.2.2.2.1,()))
abbrev yPI (v0:dA):(yiU).X:=((((),()),((),()),()),((v0.1,v0.2.1.1,v0.2.1.2,(),v0.2.2.2.1,v0.2.2.2.2.1,v0.2.2.2.2.2.1,v0.2.2.2.2.2.2.1,v0.2.2.2.2.2.2.2.1,(),v0.2.2.2.2.2.2.2.2.2.1,v0.2.2.2.2.2.2.2.2.2.2.1,v0.2.2.2.2.2.2.2.2.2.2.2,()),()),(v0.2.2.1,v0.2.2.2.2.2.2.2.2.1,()))
abbrev yCu (v0:dA):(yiF).X:=((),((v0.1,v0.2.1.1,v0.2.1.2,(),v0.2.2.2.1,v0.2.2.2.2.1,v0.2.2.2.2.2.1,v0.2.2.2.2.2.2.1,v0.2.2.2.2.2.2.2.1,(),v0.2.2.2.2.2.2.2.2.2.1,v0.2.2.2.2.2.2.2.2.2.2.1,v0.2.2.2.2.2.2.2.2.2.2.2,()),()),(v0.2.2.1,v0.2.2.2.2.2.2.2.2.1,()))
def ytP (v0:Int) (v1:Int) (v2:Int) (v3:Int) (v4:Int) (v5:Int) (v6:Int) (v7:Int) (v8:Int) (v9:Int) (v10:Bool) (v11:Bool) (v12:List dM) (v13:List dW):Option ((yde).X ⊕ ((yiF).X ⊕ (yoe).X)) :=
  bif (ltb v0 (v12.length:Int)) then
    bif (inb v0 v12.length) then
      bif (!((((nth v12 v0 ([],[],false,[])).2).2).1)) then
        let r3:=yrY (v1,(v2,v3),v12,v4,v5,v6,v7,v8,v13,v9,v10,v11)
        bif r3.1 then
          bif (inb v0 r3.2.2.2.1.length) then
            let r4:=ydl ((nth r3.2.2.2.1 v0 ([],[],false,[])).1,((nth r3.2.2.2.1 v0 ([],[],false,[])).2).1,(((nth r3.2.2.2.1 v0 ([],[],false,[])).2).2))
            bif (inb v0 r3.2.2.2.1.length) then
              some (.inl ((((),()),((IntKind.i64.wrap (v0+1)),()),()),((r3.2.1,r3.2.2.1.1,r3.2.2.1.2,(),r3.2.2.2.2.1,r3.2.2.2.2.2.1,r3.2.2.2.2.2.2.1,r3.2.2.2.2.2.2.2.1,r3.2.2.2.2.2.2.2.2.1,(),r3.2.2.2.2.2.2.2.2.2.2.1,r3.2.2.2.2.2.2.2.2.2.2.2.1,r3.2.2.2.2.2.2.2.2.2.2.2.2,()),()),((r3.2.2.2.1.set (v0).toNat r4),r3.2.2.2.2.2.2.2.2.2.1,())))
            else none
          else none
        else
          some (.inl ((((),()),((IntKind.i64.wrap (v0+1)),()),()),((r3.2.1,r3.2.2.1.1,r3.2.2.1.2,(),r3.2.2.2.2.1,r3.2.2.2.2.2.1,r3.2.2.2.2.2.2.1,r3.2.2.2.2.2.2.2.1,r3.2.2.2.2.2.2.2.2.1,(),r3.2.2.2.2.2.2.2.2.2.2.1,r3.2.2.2.2.2.2.2.2.2.2.2.1,r3.2.2.2.2.2.2.2.2.2.2.2.2,()),()),(r3.2.2.2.1,r3.2.2.2.2.2.2.2.2.2.1,())))
      else
        some (.inl ((((),()),((IntKind.i64.wrap (v0+1)),()),()),((v1,v2,v3,(),v4,v5,v6,v7,v8,(),v9,v10,v11,()),()),(v12,v13,())))
    else none
  else
    some (.inr (.inl ((),((v1,v2,v3,(),v4,v5,v6,v7,v8,(),v9,v10,v11,()),()),(v12,v13,()))))
def ydL (x:(yde).X):=ytP x.1.2.1.1 x.2.1.1.1 x.2.1.1.2.1 x.2.1.1.2.2.1 x.2.1.1.2.2.2.2.1 x.2.1.1.2.2.2.2.2.1 x.2.1.1.2.2.2.2.2.2.1 x.2.1.1.2.2.2.2.2.2.2.1 x.2.1.1.2.2.2.2.2.2.2.2.1 x.2.1.1.2.2.2.2.2.2.2.2.2.2.1 x.2.1.1.2.2.2.2.2.2.2.2.2.2.2.1 x.2.1.1.2.2.2.2.2.2.2.2.2.2.2.2.1 x.2.2.1 x.2.2.2.1
def yB6 (x:(yiU).X):(yde).X:=((((),()),(0,()),()),((x.2.1.1.1,x.2.1.1.2.1,x.2.1.1.2.2.1,(),x.2.1.1.2.2.2.2.1,x.2.1.1.2.2.2.2.2.1,x.2.1.1.2.2.2.2.2.2.1,x.2.1.1.2.2.2.2.2.2.2.1,x.2.1.1.2.2.2.2.2.2.2.2.1,(),x.2.1.1.2.2.2.2.2.2.2.2.2.2.1,x.2.1.1.2.2.2.2.2.2.2.2.2.2.2.1,x.2.1.1.2.2.2.2.2.2.2.2.2.2.2.2.1,()),()),(x.2.2.1,x.2.2.2.1,()))
def yD7:Code:=(zdI ymr 64 12).getD .skip
theorem yRI:zdI ymr 64 3=some (.block 0 (.loop yD7)):=by kernel_rfl
theorem yUz (x:(yde).X):zg7 ⟨yr8,39,yDE⟩ 0 yD7 12 yde yiF yoe x=ydL x:=by kernel_rfl
def yCm (x:(yiU).X):Nat:=(fun (u0:Int) (u1:Int) (u2:Int) (u3:Int) (u4:Int) (u5:Int) (u6:Int) (u7:Int) (u8:Int) (u9:Bool) (u10:Bool) (u11:List dM) (u12:List dW)=>18446744073709551616) x.2.1.1.1 x.2.1.1.2.1 x.2.1.1.2.2.1 x.2.1.1.2.2.2.2.1 x.2.1.1.2.2.2.2.2.1 x.2.1.1.2.2.2.2.2.2.1 x.2.1.1.2.2.2.2.2.2.2.1 x.2.1.1.2.2.2.2.2.2.2.2.1 x.2.1.1.2.2.2.2.2.2.2.2.2.2.1 x.2.1.1.2.2.2.2.2.2.2.2.2.2.2.1 x.2.1.1.2.2.2.2.2.2.2.2.2.2.2.2.1 x.2.2.1 x.2.2.2.1
def yuy (x:(yiU).X):Option ((yiF).X ⊕ (yoe).X):=zr ydL (yCm x) (yB6 x)
def yCY:Seg:=⟨yiU,yiF,yoe,yuy⟩
def yDF:Nat→Option Seg:=fun q=>bif Nat.beq q 3 then some yCY else yDE q
theorem yPl:FrOk Tryz.prog ⟨yr8,39,yDF⟩ ymr:=(yPk).loop (sg:=yCY) yde yB6 (by decide) yRI ydL yCm (by decide) (fun _=>rfl) (fun x r _ h=>h) yUz
abbrev yh6:List Par:= [.pt tA (.pr .fz (.pr (.pr .fz .fz) (.pr (.ow (.pr (.ow .fz) (.pr (.ow (.pr .fz .fz)) (.pr .fz (.ow .fz))))) (.pr .fz (.pr .fz (.pr .fz (.pr .fz (.pr .fz (.pr (.ow (.pr .fz .fz)) (.pr .fz (.pr .fz .fz)))))))))))]
abbrev ysF:List OT:= []
def yoJ (a0:dA):Option (ResD ysF×MutD yh6) :=
  zjw (yuy ((((),()),((),()),()),((a0.1,a0.2.1.1,a0.2.1.2,(),a0.2.2.2.1,a0.2.2.2.2.1,a0.2.2.2.2.2.1,a0.2.2.2.2.2.2.1,a0.2.2.2.2.2.2.2.1,(),a0.2.2.2.2.2.2.2.2.2.1,a0.2.2.2.2.2.2.2.2.2.2.1,a0.2.2.2.2.2.2.2.2.2.2.2,()),()),(a0.2.2.1,a0.2.2.2.2.2.2.2.2.1,()))) (fun y4 =>
    some ((),((y4.2.1.1.1,(y4.2.1.1.2.1,y4.2.1.1.2.2.1),y4.2.2.1,y4.2.1.1.2.2.2.2.1,y4.2.1.1.2.2.2.2.2.1,y4.2.1.1.2.2.2.2.2.2.1,y4.2.1.1.2.2.2.2.2.2.2.1,y4.2.1.1.2.2.2.2.2.2.2.2.1,y4.2.2.2.1,y4.2.1.1.2.2.2.2.2.2.2.2.2.2.1,y4.2.1.1.2.2.2.2.2.2.2.2.2.2.2.1,y4.2.1.1.2.2.2.2.2.2.2.2.2.2.2.2.1),()))) (fun y4 =>
    none)
theorem yX7 (x:InD yh6):zjH ⟨yr8,39,yDF⟩ Tryz.f261.results.toList ymr yh6 ysF x=yoJ x.1:=by kernel_rfl
theorem yT6:ConOk Tryz.prog 261 ⟨yh6,ysF,fun x=>yoJ x.1⟩:=zkh (yPl) Tryz.func261 (by kernel_rfl) (by kernel_rfl) Tryz.ntmps261.symm (by decide) (fun x r h=>(yX7 x).trans h)
def ydR (a0:dA):dA:=yC a0
theorem yV2 (a0:dA) (hk:zi9 yh6 (a0,())):yoJ a0=(fun n=>some ((),(n,()))) (ydR a0):=by
  have hb:a0.2.2.1.length * 80≤2 ^ 47:=hk.1.2.2.1.1
  have h1:yuy (yPI a0)=some (.inl (yCu (yC a0))) :=
    zks (step:=ydL) a0.2.2.1.length (fun i s=>ytq i s) yF (fun _ s=>s.2.2.1.length=a0.2.2.1.length) (fun s=> .inl (yCu s)) (fun i s hi hs=>⟨by
      simp only [ydL,ytq,ytP,hs,zjI (show (i:Int) < a0.2.2.1.length by omega),cond_true,wr (show -9223372036854775808≤(i:Int)+1 by omega) (by omega),Int.natCast_add,Int.natCast_one,Int.toNat_natCast,zkO hi,zkV,yUE,yaI,ydl,yF,ync]
      cases (nth s.2.2.1 i ye).2.2.1<;>cases (opA s).1<;>simp only [cond_true,cond_false,Bool.not_true,Bool.not_false,yaI,Int.toNat_natCast],(ynf s i).trans hs⟩) (fun s hs=>by simp only [ydL,ytq,ytP,hs,zkm (Int.le_refl _),cond_false]) a0 rfl _ (by show _ < 18446744073709551616; omega)
  unfold yoJ ydR
  rw [h1]; rfl
def yon:Con:=⟨yh6,ysF,fun x=>(fun n=>some ((),(n,()))) (ydR x.1)⟩
theorem yw8:ConOk Tryz.prog 261 yon:=(yT6).mono (fun x r hk h=>(yV2 x.1 hk).trans h)
end
section
def ymq:Code:=(Tryz.f203.body).getD .skip
def yr7:Env:=zki TT [(140,yri),(207,yk8),(261,yon)] []
theorem yPi:FrOk Tryz.prog ⟨yr7,63,fun _=>none⟩ ymq:=zkp yc yd ⟨yCC,ysO,yw8,trivial⟩
def yDC:Nat→Option Seg:=fun _=>none
def ycj:Shape:=⟨[(0,false,[.ptr 1000000000 0]),(2,false,[.int .i64])],[(1000000000,[.int .i64,.int .i64,.int .i64,.at 800000000,.int .i64,.int .i64,.int .i64,.int .i64,.int .i64,.at 800000001,.int .i64,.bool,.bool])],[(800000000,tM,(.pr (.ow .fz) (.pr (.ow (.pr .fz .fz)) (.pr .fz (.ow .fz))))),(800000001,tW,(.pr .fz .fz))]⟩
def yhl:Shape:=⟨[(0,false,[.ptr 1000000000 0]),(2,false,[.ci .i64 0])],[(1000000000,[.int .i64,.int .i64,.int .i64,.at 800000000,.int .i64,.int .i64,.int .i64,.int .i64,.int .i64,.at 800000001,.int .i64,.bool,.bool])],[(800000000,tM,(.pr (.ow .fz) (.pr (.ow (.pr .fz .fz)) (.pr .fz (.ow .fz))))),(800000001,tW,(.pr .fz .fz))]⟩
def yg9:Shape:=⟨[(0,false,[.ptr 1000000000 0])],[(1000000000,[.int .i64,.int .i64,.int .i64,.at 800000000,.int .i64,.int .i64,.int .i64,.int .i64,.int .i64,.at 800000001,.int .i64,.bool,.bool])],[(800000000,tM,(.pr (.ow .fz) (.pr (.ow (.pr .fz .fz)) (.pr .fz (.ow .fz))))),(800000001,tW,(.pr .fz .fz))]⟩
def ylO:Shape:=⟨[],[],[]⟩
abbrev yru (v0:Int) (v1:dA):(ycj).X:=((((),()),(v0,()),()),((v1.1,v1.2.1.1,v1.2.1.2,(),v1.2.2.2.1,v1.2.2.2.2.1,v1.2.2.2.2.2.1,v1.2.2.2.2.2.2.1,v1.2.2.2.2.2.2.2.1,(),v1.2.2.2.2.2.2.2.2.2.1,v1.2.2.2.2.2.2.2.2.2.2.1,v1.2.2.2.2.2.2.2.2.2.2.2,()),()),(v1.2.2.1,v1.2.2.2.2.2.2.2.2.1,()))
abbrev yMS (v0:dA):(yhl).X:=((((),()),((),()),()),((v0.1,v0.2.1.1,v0.2.1.2,(),v0.2.2.2.1,v0.2.2.2.2.1,v0.2.2.2.2.2.1,v0.2.2.2.2.2.2.1,v0.2.2.2.2.2.2.2.1,(),v0.2.2.2.2.2.2.2.2.2.1,v0.2.2.2.2.2.2.2.2.2.2.1,v0.2.2.2.2.2.2.2.2.2.2.2,()),()),(v0.2.2.1,v0.2.2.2.2.2.2.2.2.1,()))
abbrev yAi (v0:dA):(yg9).X:=((((),()),()),((v0.1,v0.2.1.1,v0.2.1.2,(),v0.2.2.2.1,v0.2.2.2.2.1,v0.2.2.2.2.2.1,v0.2.2.2.2.2.2.1,v0.2.2.2.2.2.2.2.1,(),v0.2.2.2.2.2.2.2.2.2.1,v0.2.2.2.2.2.2.2.2.2.2.1,v0.2.2.2.2.2.2.2.2.2.2.2,()),()),(v0.2.2.1,v0.2.2.2.2.2.2.2.2.1,()))
def yrL (v0:Int) (v1:Int) (v2:Int) (v3:Int) (v4:Int) (v5:Int) (v6:Int) (v7:Int) (v8:Int) (v9:Int) (v10:Bool) (v11:Bool) (v12:List dM) (v13:List dW):Option ((ycj).X ⊕ ((yg9).X ⊕ (ylO).X)) :=
  bif (ltb v0 (v12.length:Int)) then
    let r3:=yK (v1,v8,v0,v2,v3,v7,v4,v5)
    bnd (ye5 (v1,(v2,v3),v12,v4,v5,v6,v7,v8,v13,v9,v10,v11) v0 (v8.tmod 2) r3) fun r4 =>
    some (.inl ((((),()),((IntKind.i64.wrap (v0+1)),()),()),((r4.2.1.1,r4.2.1.2.1.1,r4.2.1.2.1.2,(),r4.2.1.2.2.2.1,r4.2.1.2.2.2.2.1,r4.2.1.2.2.2.2.2.1,r4.2.1.2.2.2.2.2.2.1,r4.2.1.2.2.2.2.2.2.2.1,(),r4.2.1.2.2.2.2.2.2.2.2.2.1,r4.2.1.2.2.2.2.2.2.2.2.2.2.1,r4.2.1.2.2.2.2.2.2.2.2.2.2.2,()),()),(r4.2.1.2.2.1,r4.2.1.2.2.2.2.2.2.2.2.1,())))
  else
    some (.inr (.inl ((((),()),()),((v1,v2,v3,(),v4,v5,v6,v7,v8,(),v9,v10,v11,()),()),(v12,v13,()))))
def ycU (x:(ycj).X):=yrL x.1.2.1.1 x.2.1.1.1 x.2.1.1.2.1 x.2.1.1.2.2.1 x.2.1.1.2.2.2.2.1 x.2.1.1.2.2.2.2.2.1 x.2.1.1.2.2.2.2.2.2.1 x.2.1.1.2.2.2.2.2.2.2.1 x.2.1.1.2.2.2.2.2.2.2.2.1 x.2.1.1.2.2.2.2.2.2.2.2.2.2.1 x.2.1.1.2.2.2.2.2.2.2.2.2.2.2.1 x.2.1.1.2.2.2.2.2.2.2.2.2.2.2.2.1 x.2.2.1 x.2.2.2.1
def yz2 (x:(yhl).X):(ycj).X:=((((),()),(0,()),()),((x.2.1.1.1,x.2.1.1.2.1,x.2.1.1.2.2.1,(),x.2.1.1.2.2.2.2.1,x.2.1.1.2.2.2.2.2.1,x.2.1.1.2.2.2.2.2.2.1,x.2.1.1.2.2.2.2.2.2.2.1,x.2.1.1.2.2.2.2.2.2.2.2.1,(),x.2.1.1.2.2.2.2.2.2.2.2.2.2.1,x.2.1.1.2.2.2.2.2.2.2.2.2.2.2.1,x.2.1.1.2.2.2.2.2.2.2.2.2.2.2.2.1,()),()),(x.2.2.1,x.2.2.2.1,()))
def yBF:Code:=(zdI ymq 64 52).getD .skip
theorem yOf:zdI ymq 64 13=some (.block 0 (.loop yBF)):=by kernel_rfl
theorem yQY (x:(ycj).X):zg7 ⟨yr7,63,yDC⟩ 0 yBF 52 ycj yg9 ylO x=ycU x:=by kernel_rfl
def yAe (x:(yhl).X):Nat:=(fun (u0:Int) (u1:Int) (u2:Int) (u3:Int) (u4:Int) (u5:Int) (u6:Int) (u7:Int) (u8:Int) (u9:Bool) (u10:Bool) (u11:List dM) (u12:List dW)=>18446744073709551616) x.2.1.1.1 x.2.1.1.2.1 x.2.1.1.2.2.1 x.2.1.1.2.2.2.2.1 x.2.1.1.2.2.2.2.2.1 x.2.1.1.2.2.2.2.2.2.1 x.2.1.1.2.2.2.2.2.2.2.1 x.2.1.1.2.2.2.2.2.2.2.2.1 x.2.1.1.2.2.2.2.2.2.2.2.2.2.1 x.2.1.1.2.2.2.2.2.2.2.2.2.2.2.1 x.2.1.1.2.2.2.2.2.2.2.2.2.2.2.2.1 x.2.2.1 x.2.2.2.1
def ys3 (x:(yhl).X):Option ((yg9).X ⊕ (ylO).X):=zr ycU (yAe x) (yz2 x)
def yAA:Seg:=⟨yhl,yg9,ylO,ys3⟩
def yDD:Nat→Option Seg:=fun q=>bif Nat.beq q 13 then some yAA else yDC q
theorem yPj:FrOk Tryz.prog ⟨yr7,63,yDD⟩ ymq:=(yPi).loop (sg:=yAA) ycj yz2 (by decide) yOf ycU yAe (by decide) (fun _=>rfl) (fun x r _ h=>h) yQY
abbrev yh5:List Par:= [.pt tA (.pr .fz (.pr (.pr .fz .fz) (.pr (.ow (.pr (.ow .fz) (.pr (.ow (.pr .fz .fz)) (.pr .fz (.ow .fz))))) (.pr .fz (.pr .fz (.pr .fz (.pr .fz (.pr .fz (.pr (.ow (.pr .fz .fz)) (.pr .fz (.pr .fz .fz)))))))))))]
abbrev ysE:List OT:= []
def yoI (a0:dA):Option (ResD ysE×MutD yh5) :=
  zjw (ys3 ((((),()),((),()),()),((a0.1,a0.2.1.1,a0.2.1.2,(),a0.2.2.2.1,a0.2.2.2.2.1,a0.2.2.2.2.2.1,a0.2.2.2.2.2.2.1,(IntKind.i64.wrap (a0.2.2.2.2.2.2.2.1+1)),(),a0.2.2.2.2.2.2.2.2.2.1,a0.2.2.2.2.2.2.2.2.2.2.1,a0.2.2.2.2.2.2.2.2.2.2.2,()),()),(a0.2.2.1,a0.2.2.2.2.2.2.2.2.1,()))) (fun y4 =>
    let r6:=ydR (y4.2.1.1.1,(y4.2.1.1.2.1,y4.2.1.1.2.2.1),y4.2.2.1,y4.2.1.1.2.2.2.2.1,y4.2.1.1.2.2.2.2.2.1,y4.2.1.1.2.2.2.2.2.2.1,y4.2.1.1.2.2.2.2.2.2.2.1,y4.2.1.1.2.2.2.2.2.2.2.2.1,y4.2.2.2.1,y4.2.1.1.2.2.2.2.2.2.2.2.2.2.1,y4.2.1.1.2.2.2.2.2.2.2.2.2.2.2.1,y4.2.1.1.2.2.2.2.2.2.2.2.2.2.2.2.1)
    some ((),(r6,()))) (fun y4 =>
    none)
theorem yX6 (x:InD yh5):zjH ⟨yr7,63,yDD⟩ Tryz.f203.results.toList ymq yh5 ysE x=yoI x.1:=by kernel_rfl
theorem yT5:ConOk Tryz.prog 203 ⟨yh5,ysE,fun x=>yoI x.1⟩:=zkh (yPj) Tryz.func203 (by kernel_rfl) (by kernel_rfl) Tryz.ntmps203.symm (by decide) (fun x r h=>(yX6 x).trans h)
def yT (a0:dA):dA:=yy a0
theorem yNN (a:dA) (i:Nat):(yaF a i).2.2.1.length=a.2.2.1.length:=yqI _ _ _ _
theorem yV1 (a0:dA) (hk:zi9 yh5 (a0,())):yoI a0=(fun n=>some ((),(n,()))) (yT a0):=by
  have hb:a0.2.2.1.length * 80≤2 ^ 47:=hk.1.2.2.1.1
  have h1:ys3 (yMS (yez a0))=some (.inl (yAi ((List.range a0.2.2.1.length).foldl yaF (yez a0)))) :=
    zks (step:=ycU) a0.2.2.1.length (fun i s=>yru i s) yaF (fun _ s=>s.2.2.1.length=a0.2.2.1.length) (fun s=> .inl (yAi s)) (fun i s hi hs=>⟨by
      simp only [ycU,yru,yrL,hs,zjI (show (i:Int) < a0.2.2.1.length by omega),cond_true,wr (show -9223372036854775808≤(i:Int)+1 by omega) (by omega),Int.natCast_add,Int.natCast_one,Int.toNat_natCast,zkV]
      rw [yna s i (s.2.2.2.2.2.2.2.1.tmod 2) (yK (s.1,s.2.2.2.2.2.2.2.1,(i:Int),s.2.1.1,s.2.1.2,s.2.2.2.2.2.2.1,s.2.2.2.1,s.2.2.2.2.1)) (zkO (by rw [hs]; exact hi))]
      rfl,(yNN s i).trans hs⟩) (fun s hs=>by simp only [ycU,yru,yrL,hs,zkm (Int.le_refl _),cond_false]) (yez a0) rfl _ (by show _ < 18446744073709551616; omega)
  unfold yoI yT yy
  exact (congrArg (fun z=>zjw z _ _) h1).trans rfl
def yjk:Con:=⟨yh5,ysE,fun x=>(fun n=>some ((),(n,()))) (yT x.1)⟩
theorem yqH:ConOk Tryz.prog 203 yjk:=(yT5).mono (fun x r hk h=>(yV1 x.1 hk).trans h)
end
section
def yDh:Code:=(Tryz.f105.body).getD .skip
def yDO:Env:=zki TT [(138,yok),(139,yom),(203,yjk)] []
theorem yKA:FrOk Tryz.prog ⟨yDO,27,fun _=>none⟩ yDh:=zkp yc yd ⟨yw5,yw7,yqH,trivial⟩
def yLI:Nat→Option Seg:=fun _=>none
abbrev yc0:List Par:= [.pt tA (.pr .fz (.pr (.pr .fz .fz) (.pr (.ow (.pr (.ow .fz) (.pr (.ow (.pr .fz .fz)) (.pr .fz (.ow .fz))))) (.pr .fz (.pr .fz (.pr .fz (.pr .fz (.pr .fz (.pr (.ow (.pr .fz .fz)) (.pr .fz (.pr .fz .fz)))))))))))]
abbrev yi2:List OT:= [⟨false,tI,.fz⟩]
def ykg (a0:dA):Option (ResD yi2×MutD yc0) :=
  let r1:=yb5 a0.2.1
  let r2:=ybk r1
  bif (inb a0.2.2.2.1 a0.2.2.1.length) then
    let r3:=yT (a0.1,a0.2.1,(a0.2.2.1.set (a0.2.2.2.1).toNat r2),a0.2.2.2.1,0,a0.2.2.2.2.2)
    bif r3.2.2.2.2.2.2.2.2.2.2.1 then
      some ((6,()),(r3,()))
    else
      some ((0,()),(r3,()))
  else none
theorem yR9 (x:InD yc0):zjH ⟨yDO,27,yLI⟩ Tryz.f105.results.toList yDh yc0 yi2 x=ykg x.1:=by kernel_rfl
theorem yNk:ConOk Tryz.prog 105 ⟨yc0,yi2,fun x=>ykg x.1⟩:=zkh (yKA) Tryz.func105 (by kernel_rfl) (by kernel_rfl) Tryz.ntmps105.symm (by decide) (fun x r h=>(yR9 x).trans h)
def yjt (a0:dA):Int×dA:=(bif yg (yy (yx a0)) then 6 else 0,yy (yx a0))
def ydp (a0:dA):Bool:=yf a0.2.1&&inb a0.2.2.2.1 a0.2.2.1.length
theorem yQa (a0:dA) (hk:zi9 yc0 (a0,())) (hq:ydp a0=true):ykg a0=(fun n=>some ((n.1,()),(n.2,()))) (yjt a0):=by
  simp only [ydp,Bool.and_eq_true]at hq
  have hg:=yk.1 hq.1
  unfold ykg yjt
  simp only [yb5,wr (show -9223372036854775808≤6+a0.2.1.2 by omega) (by omega),hq.2,ybk,yT]
  show (bif yg (yy (yx a0)) then some ((6,()),(yy (yx a0),())) else some ((0,()),(yy (yx a0),())))=_
  cases yg (yy (yx a0))<;>rfl
def yaV (a0:dA):Option (ResD yi2×MutD yc0):=bif ydp a0 then (fun n=>some ((n.1,()),(n.2,()))) (yjt a0) else none
theorem ytv (a0:dA) (h:ydp a0=true):yaV a0=(fun n=>some ((n.1,()),(n.2,()))) (yjt a0):=by unfold yaV; rw [h]; rfl
def yjZ:Con:=⟨yc0,yi2,fun x=>yaV x.1⟩
theorem ytt:ConOk Tryz.prog 105 yjZ:=(yNk).mono (fun x r hk h=>zkW h (fun hq=>yQa x.1 hk hq))
end
end
end Go.Tf
