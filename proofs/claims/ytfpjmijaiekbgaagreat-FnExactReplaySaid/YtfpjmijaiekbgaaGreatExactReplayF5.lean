/- Functions of the program, and what they come to. -/
import Derived.Test.YtfpjmijaiekbgaaGreatExactReplayF4
namespace Go.Tf
noncomputable section
open Go.Proofs
set_option synthInstance.maxHeartbeats 400000
set_option synthInstance.maxSize 10000
set_option linter.unusedVariables false
set_option linter.unusedSimpArgs false
set_option maxRecDepth 100000
section
def yfv:Code:=(Tryz.f116.body).getD .skip
def ykm:Env:=zki TT [(20,ye4)] []
theorem yGx:FrOk Tryz.prog ⟨ykm,19,fun _=>none⟩ yfv:=zkp yb yc ⟨yk6,trivial⟩
def ywh:Nat→Option Seg:=fun _=>none
def ybe:Shape:=⟨[(0,false,[.at 1000001000]),(1,false,[.int .i64]),(5,false,[.int .i64])],[],[(1000001000,tL,(.ow .fz))]⟩
def yf8:Shape:=⟨[(0,false,[.at 1000001000]),(1,false,[.int .i64]),(5,false,[.ci .i64 0])],[],[(1000001000,tL,(.ow .fz))]⟩
def yf6:Shape:=⟨[(1,false,[.int .i64])],[],[(1000001000,tL,(.ow .fz))]⟩
def ygb:Shape:=⟨[],[],[]⟩
def ylp (v0:Int) (v1:Int) (v2:List (List Int)):Option ((ybe).X ⊕ ((yf6).X ⊕ (ygb).X)) :=
  bif (ltb v1 (v2.length:Int)) then
    bif (inb v1 v2.length) then
      let r4:=yG (nth v2 v1 []) v0
      some (.inl ((((),()),(r4.1,()),((IntKind.i64.wrap (v1+1)),()),()),(),((v2.set (v1).toNat r4.2),())))
    else none
  else
    some (.inr (.inl (((v0,()),()),(),(v2,()))))
def yan (x:(ybe).X):=ylp x.1.2.1.1 x.1.2.2.1.1 x.2.2.1
def yuj (x:(yf8).X):(ybe).X:=((((),()),(x.1.2.1.1,()),(0,()),()),(),(x.2.2.1,()))
def yuS:Code:=(zdI yfv 64 52).getD .skip
theorem yGn:zdI yfv 64 13=some (.block 0 (.loop yuS)):=by kernel_rfl
theorem yGP (x:(ybe).X):zg7 ⟨ykm,19,ywh⟩ 0 yuS 52 ybe yf6 ygb x=yan x:=by kernel_rfl
def yun (x:(yf8).X):Nat:=(fun (u0:Int) (u1:List (List Int))=>18446744073709551616) x.1.2.1.1 x.2.2.1
def yme (x:(yf8).X):Option ((yf6).X ⊕ (ygb).X):=zr yan (yun x) (yuj x)
def yuM:Seg:=⟨yf8,yf6,ygb,yme⟩
def ywi:Nat→Option Seg:=fun q=>bif Nat.beq q 13 then some yuM else ywh q
theorem yGy:FrOk Tryz.prog ⟨ykm,19,ywi⟩ yfv:=(yGx).loop (sg:=yuM) ybe yuj (by decide) yGn yan yun (by decide) (fun _=>rfl) (fun x r _ h=>h) yGP
abbrev ydl:List Par:= [.mt tLL (.ow (.ow .fz)),.rd tI]
abbrev ykI:List OT:= [⟨false,tI,.fz⟩]
def yil (a0:List (List Int)) (a1:Int):Option (ResD ykI×MutD ydl) :=
  zjw (yme ((((),()),(a1,()),((),()),()),(),(a0,()))) (fun y4 =>
    some ((y4.1.1.1,()),(y4.2.2.1,()))) (fun y4 =>
    none)
theorem yMf (x:InD ydl):zjH ⟨ykm,19,ywi⟩ Tryz.f116.results.toList yfv ydl ykI x=yil x.1 x.2.1:=by kernel_rfl
theorem yIW:ConOk Tryz.prog 116 ⟨ydl,ykI,fun x=>yil x.1 x.2.1⟩:=zkh (yGy) Tryz.func116 (by kernel_rfl) (by kernel_rfl) Tryz.ntmps116.symm (by decide) (fun x r h=>(yMf x).trans h)
def yB2 (x:List Int) (k:Int):Int×List Int:=yG x k
def yI (a0:List (List Int)) (a1:Int):Int×List (List Int):=zaX yB2 a0 a1
theorem yKN (a0:List (List Int)) (a1:Int) (hk:zi9 ydl (a0,a1,())):yil a0 a1=(fun n=>some ((n.1,()),(n.2,()))) (yI a0 a1):=by
  have hb:a0.length * 24≤2 ^ 47:=hk.1.1
  have hl:yme ((((),()),(a1,()),((),()),()),(),(a0,()))=some (.inl ((((zaX yB2 a0 a1).1,()),()),(),((zaX yB2 a0 a1).2,()))) :=
    zkl (step:=yan) a0 ([]:List Int) (fun i k m=>((((),()),(k,()),((i:Int),()),()),(),(m,()))) yB2 (fun k m=> .inl (((k,()),()),(),(m,()))) (fun i s m hi hm=>by
      simp only [yan,ylp,zjI (show (i:Int) < m.length by omega),List.length_set,zkO hi,Int.toNat_natCast,List.set_set,cond_true,zkP hi,wr (show -9223372036854775808≤(i:Int)+1 by omega) (by omega),Int.natCast_add,Int.natCast_one,zjW]
      rfl) (fun s m hm=>by simp only [yan,ylp,hm,zkm (Int.le_refl _),cond_false]) a1 _ (by show _ < 18446744073709551616; omega)
  unfold yil yI
  rw [hl]; rfl
def ywA:Con:=⟨ydl,ykI,fun x=>(fun n=>some ((n.1,()),(n.2,()))) (yI x.1 x.2.1)⟩
theorem yLd:ConOk Tryz.prog 116 ywA:=(yIW).mono (fun x r hk h=>(yKN x.1 x.2.1 hk).trans h)
end
section
def yjp:Code:=(Tryz.f117.body).getD .skip
def ypi:Env:=zki TT [(20,ye4)] []
theorem yKf:FrOk Tryz.prog ⟨ypi,27,fun _=>none⟩ yjp:=zkp yb yc ⟨yk6,trivial⟩
def yAc:Nat→Option Seg:=fun _=>none
def ycN:Shape:=⟨[(0,false,[.at 1000001000]),(1,false,[.int .i64]),(5,false,[.int .i64])],[],[(1000001000,tW,(.pr .fz (.ow .fz)))]⟩
def yiB:Shape:=⟨[(0,false,[.at 1000001000]),(1,false,[.int .i64]),(5,false,[.ci .i64 0])],[],[(1000001000,tW,(.pr .fz (.ow .fz)))]⟩
def yiu:Shape:=⟨[(1,false,[.int .i64])],[],[(1000001000,tW,(.pr .fz (.ow .fz)))]⟩
def yiP:Shape:=⟨[],[],[]⟩
def yo2 (v0:Int) (v1:Int) (v2:List dW):Option ((ycN).X ⊕ ((yiu).X ⊕ (yiP).X)) :=
  bif (ltb v1 (v2.length:Int)) then
    bif (inb v1 v2.length) then
      bif (inb v1 (v2.set (v1).toNat (v0,(nth v2 v1 (0,[])).2)).length) then
        let r4:=yG ((nth (v2.set (v1).toNat (v0,(nth v2 v1 (0,[])).2)) v1 (0,[])).2) (IntKind.i64.wrap (v0+1))
        some (.inl ((((),()),(r4.1,()),((IntKind.i64.wrap (v1+1)),()),()),(),(((v2.set (v1).toNat (v0,(nth v2 v1 (0,[])).2)).set (v1).toNat ((nth (v2.set (v1).toNat (v0,(nth v2 v1 (0,[])).2)) v1 (0,[])).1,r4.2)),())))
      else none
    else none
  else
    some (.inr (.inl (((v0,()),()),(),(v2,()))))
def ybo (x:(ycN).X):=yo2 x.1.2.1.1 x.1.2.2.1.1 x.2.2.1
def ywL (x:(yiB).X):(ycN).X:=((((),()),(x.1.2.1.1,()),(0,()),()),(),(x.2.2.1,()))
def yyx:Code:=(zdI yjp 64 52).getD .skip
theorem yJG:zdI yjp 64 13=some (.block 0 (.loop yyx)):=by kernel_rfl
theorem yLq (x:(ycN).X):zg7 ⟨ypi,27,yAc⟩ 0 yyx 52 ycN yiu yiP x=ybo x:=by kernel_rfl
def yw4 (x:(yiB).X):Nat:=(fun (u0:Int) (u1:List dW)=>18446744073709551616) x.1.2.1.1 x.2.2.1
def yql (x:(yiB).X):Option ((yiu).X ⊕ (yiP).X):=zr ybo (yw4 x) (ywL x)
def yxu:Seg:=⟨yiB,yiu,yiP,yql⟩
def yAd:Nat→Option Seg:=fun q=>bif Nat.beq q 13 then some yxu else yAc q
theorem yKg:FrOk Tryz.prog ⟨ypi,27,yAd⟩ yjp:=(yKf).loop (sg:=yxu) ycN ywL (by decide) yJG ybo yw4 (by decide) (fun _=>rfl) (fun x r _ h=>h) yLq
abbrev yfn:List Par:= [.mt tWs (.ow (.pr .fz (.ow .fz))),.rd tI]
abbrev ypA:List OT:= [⟨false,tI,.fz⟩]
def ylg (a0:List dW) (a1:Int):Option (ResD ypA×MutD yfn) :=
  zjw (yql ((((),()),(a1,()),((),()),()),(),(a0,()))) (fun y4 =>
    some ((y4.1.1.1,()),(y4.2.2.1,()))) (fun y4 =>
    none)
theorem ySR (x:InD yfn):zjH ⟨ypi,27,yAd⟩ Tryz.f117.results.toList yjp yfn ypA x=ylg x.1 x.2.1:=by kernel_rfl
theorem yN9:ConOk Tryz.prog 117 ⟨yfn,ypA,fun x=>ylg x.1 x.2.1⟩:=zkh (yKg) Tryz.func117 (by kernel_rfl) (by kernel_rfl) Tryz.ntmps117.symm (by decide) (fun x r h=>(ySR x).trans h)
def yOT (x:dW) (k:Int):Int×dW:=(yx (IntKind.i64.wrap (k+1)) x.2.length,(k,yge (IntKind.i64.wrap (k+1)) x.2.length))
def yaI (a0:List (dW)) (a1:Int):Int×List (dW):=zaX yOT a0 a1
theorem yQU (a0:List (dW)) (a1:Int) (hk:zi9 yfn (a0,a1,())):ylg a0 a1=(fun n=>some ((n.1,()),(n.2,()))) (yaI a0 a1):=by
  have hb:a0.length * 32≤2 ^ 47:=hk.1.1
  have hl:yql ((((),()),(a1,()),((),()),()),(),(a0,()))=some (.inl ((((zaX yOT a0 a1).1,()),()),(),((zaX yOT a0 a1).2,()))) :=
    zkl (step:=ybo) a0 ((0,[]):dW) (fun i k m=>((((),()),(k,()),((i:Int),()),()),(),(m,()))) yOT (fun k m=> .inl (((k,()),()),(),(m,()))) (fun i s m hi hm=>by
      simp only [ybo,yo2,zjI (show (i:Int) < m.length by omega),List.length_set,zkO hi,Int.toNat_natCast,List.set_set,cond_true,zkP hi,wr (show -9223372036854775808≤(i:Int)+1 by omega) (by omega),Int.natCast_add,Int.natCast_one,zjW]
      rfl) (fun s m hm=>by simp only [ybo,yo2,hm,zkm (Int.le_refl _),cond_false]) a1 _ (by show _ < 18446744073709551616; omega)
  unfold ylg yaI
  rw [hl]; rfl
def yAU:Con:=⟨yfn,ypA,fun x=>(fun n=>some ((n.1,()),(n.2,()))) (yaI x.1 x.2.1)⟩
theorem yRP:ConOk Tryz.prog 117 yAU:=(yN9).mono (fun x r hk h=>(yQU x.1 x.2.1 hk).trans h)
end
section
def ygV:Code:=(Tryz.f41.body).getD .skip
def ymO:Env:=zki TT [(20,ye4),(116,ywA),(117,yAU)] []
theorem yId:FrOk Tryz.prog ⟨ymO,43,fun _=>none⟩ ygV:=zkp yb yc ⟨yk6,yLd,yRP,trivial⟩
def yyf:Nat→Option Seg:=fun _=>none
def ybW:Shape:=⟨[(0,false,[.at 1000001000]),(1,false,[.int .i64]),(5,false,[.int .i64])],[],[(1000001000,tM,(.pr (.ow (.ow .fz)) (.pr (.ow (.pr .fz (.ow .fz))) (.pr .fz (.ow .fz)))))]⟩
def yhv:Shape:=⟨[(0,false,[.at 1000001000]),(1,false,[.int .i64]),(5,false,[.ci .i64 0])],[],[(1000001000,tM,(.pr (.ow (.ow .fz)) (.pr (.ow (.pr .fz (.ow .fz))) (.pr .fz (.ow .fz)))))]⟩
def yhd:Shape:=⟨[(1,false,[.int .i64])],[],[(1000001000,tM,(.pr (.ow (.ow .fz)) (.pr (.ow (.pr .fz (.ow .fz))) (.pr .fz (.ow .fz)))))]⟩
def yhS:Shape:=⟨[],[],[]⟩
def ymB (v0:Int) (v1:Int) (v2:List dM):Option ((ybW).X ⊕ ((yhd).X ⊕ (yhS).X)) :=
  bif (ltb v1 (v2.length:Int)) then
    bif (inb v1 v2.length) then
      let r9:=yI ((nth v2 v1 ([],[],false,[])).1) v0
      bif (inb v1 (v2.set (v1).toNat (r9.2,((nth v2 v1 ([],[],false,[])).2).1,(((nth v2 v1 ([],[],false,[])).2).2).1,(((nth v2 v1 ([],[],false,[])).2).2).2)).length) then
        let r11:=yaI (((nth (v2.set (v1).toNat (r9.2,((nth v2 v1 ([],[],false,[])).2).1,(((nth v2 v1 ([],[],false,[])).2).2).1,(((nth v2 v1 ([],[],false,[])).2).2).2)) v1 ([],[],false,[])).2).1) r9.1
        bif (inb v1 ((v2.set (v1).toNat (r9.2,((nth v2 v1 ([],[],false,[])).2).1,(((nth v2 v1 ([],[],false,[])).2).2).1,(((nth v2 v1 ([],[],false,[])).2).2).2)).set (v1).toNat ((nth (v2.set (v1).toNat (r9.2,((nth v2 v1 ([],[],false,[])).2).1,(((nth v2 v1 ([],[],false,[])).2).2).1,(((nth v2 v1 ([],[],false,[])).2).2).2)) v1 ([],[],false,[])).1,r11.2,(((nth (v2.set (v1).toNat (r9.2,((nth v2 v1 ([],[],false,[])).2).1,(((nth v2 v1 ([],[],false,[])).2).2).1,(((nth v2 v1 ([],[],false,[])).2).2).2)) v1 ([],[],false,[])).2).2).1,(((nth (v2.set (v1).toNat (r9.2,((nth v2 v1 ([],[],false,[])).2).1,(((nth v2 v1 ([],[],false,[])).2).2).1,(((nth v2 v1 ([],[],false,[])).2).2).2)) v1 ([],[],false,[])).2).2).2)).length) then
          let r12:=(((v2.set (v1).toNat (r9.2,((nth v2 v1 ([],[],false,[])).2).1,(((nth v2 v1 ([],[],false,[])).2).2).1,(((nth v2 v1 ([],[],false,[])).2).2).2)).set (v1).toNat ((nth (v2.set (v1).toNat (r9.2,((nth v2 v1 ([],[],false,[])).2).1,(((nth v2 v1 ([],[],false,[])).2).2).1,(((nth v2 v1 ([],[],false,[])).2).2).2)) v1 ([],[],false,[])).1,r11.2,(((nth (v2.set (v1).toNat (r9.2,((nth v2 v1 ([],[],false,[])).2).1,(((nth v2 v1 ([],[],false,[])).2).2).1,(((nth v2 v1 ([],[],false,[])).2).2).2)) v1 ([],[],false,[])).2).2).1,(((nth (v2.set (v1).toNat (r9.2,((nth v2 v1 ([],[],false,[])).2).1,(((nth v2 v1 ([],[],false,[])).2).2).1,(((nth v2 v1 ([],[],false,[])).2).2).2)) v1 ([],[],false,[])).2).2).2)).set (v1).toNat ((nth ((v2.set (v1).toNat (r9.2,((nth v2 v1 ([],[],false,[])).2).1,(((nth v2 v1 ([],[],false,[])).2).2).1,(((nth v2 v1 ([],[],false,[])).2).2).2)).set (v1).toNat ((nth (v2.set (v1).toNat (r9.2,((nth v2 v1 ([],[],false,[])).2).1,(((nth v2 v1 ([],[],false,[])).2).2).1,(((nth v2 v1 ([],[],false,[])).2).2).2)) v1 ([],[],false,[])).1,r11.2,(((nth (v2.set (v1).toNat (r9.2,((nth v2 v1 ([],[],false,[])).2).1,(((nth v2 v1 ([],[],false,[])).2).2).1,(((nth v2 v1 ([],[],false,[])).2).2).2)) v1 ([],[],false,[])).2).2).1,(((nth (v2.set (v1).toNat (r9.2,((nth v2 v1 ([],[],false,[])).2).1,(((nth v2 v1 ([],[],false,[])).2).2).1,(((nth v2 v1 ([],[],false,[])).2).2).2)) v1 ([],[],false,[])).2).2).2)) v1 ([],[],false,[])).1,((nth ((v2.set (v1).toNat (r9.2,((nth v2 v1 ([],[],false,[])).2).1,(((nth v2 v1 ([],[],false,[])).2).2).1,(((nth v2 v1 ([],[],false,[])).2).2).2)).set (v1).toNat ((nth (v2.set (v1).toNat (r9.2,((nth v2 v1 ([],[],false,[])).2).1,(((nth v2 v1 ([],[],false,[])).2).2).1,(((nth v2 v1 ([],[],false,[])).2).2).2)) v1 ([],[],false,[])).1,r11.2,(((nth (v2.set (v1).toNat (r9.2,((nth v2 v1 ([],[],false,[])).2).1,(((nth v2 v1 ([],[],false,[])).2).2).1,(((nth v2 v1 ([],[],false,[])).2).2).2)) v1 ([],[],false,[])).2).2).1,(((nth (v2.set (v1).toNat (r9.2,((nth v2 v1 ([],[],false,[])).2).1,(((nth v2 v1 ([],[],false,[])).2).2).1,(((nth v2 v1 ([],[],false,[])).2).2).2)) v1 ([],[],false,[])).2).2).2)) v1 ([],[],false,[])).2).1,((r11.1.tmod 3)==0),(((nth ((v2.set (v1).toNat (r9.2,((nth v2 v1 ([],[],false,[])).2).1,(((nth v2 v1 ([],[],false,[])).2).2).1,(((nth v2 v1 ([],[],false,[])).2).2).2)).set (v1).toNat ((nth (v2.set (v1).toNat (r9.2,((nth v2 v1 ([],[],false,[])).2).1,(((nth v2 v1 ([],[],false,[])).2).2).1,(((nth v2 v1 ([],[],false,[])).2).2).2)) v1 ([],[],false,[])).1,r11.2,(((nth (v2.set (v1).toNat (r9.2,((nth v2 v1 ([],[],false,[])).2).1,(((nth v2 v1 ([],[],false,[])).2).2).1,(((nth v2 v1 ([],[],false,[])).2).2).2)) v1 ([],[],false,[])).2).2).1,(((nth (v2.set (v1).toNat (r9.2,((nth v2 v1 ([],[],false,[])).2).1,(((nth v2 v1 ([],[],false,[])).2).2).1,(((nth v2 v1 ([],[],false,[])).2).2).2)) v1 ([],[],false,[])).2).2).2)) v1 ([],[],false,[])).2).2).2))
          bif (inb v1 r12.length) then
            let r14:=yG ((((nth r12 v1 ([],[],false,[])).2).2).2) (IntKind.i64.wrap (r11.1+1))
            some (.inl ((((),()),(r14.1,()),((IntKind.i64.wrap (v1+1)),()),()),(),((r12.set (v1).toNat ((nth r12 v1 ([],[],false,[])).1,((nth r12 v1 ([],[],false,[])).2).1,(((nth r12 v1 ([],[],false,[])).2).2).1,r14.2)),())))
          else none
        else none
      else none
    else none
  else
    some (.inr (.inl (((v0,()),()),(),(v2,()))))
def yaS (x:(ybW).X):=ymB x.1.2.1.1 x.1.2.2.1.1 x.2.2.1
def yu6 (x:(yhv).X):(ybW).X:=((((),()),(x.1.2.1.1,()),(0,()),()),(),(x.2.2.1,()))
def ywv:Code:=(zdI ygV 64 52).getD .skip
theorem yHF:zdI ygV 64 13=some (.block 0 (.loop ywv)):=by kernel_rfl
theorem yJd (x:(ybW).X):zg7 ⟨ymO,43,yyf⟩ 0 ywv 52 ybW yhd yhS x=yaS x:=by kernel_rfl
def yvh (x:(yhv).X):Nat:=(fun (u0:Int) (u1:List dM)=>18446744073709551616) x.1.2.1.1 x.2.2.1
def yog (x:(yhv).X):Option ((yhd).X ⊕ (yhS).X):=zr yaS (yvh x) (yu6 x)
def yvu:Seg:=⟨yhv,yhd,yhS,yog⟩
def yyg:Nat→Option Seg:=fun q=>bif Nat.beq q 13 then some yvu else yyf q
theorem yIe:FrOk Tryz.prog ⟨ymO,43,yyg⟩ ygV:=(yId).loop (sg:=yvu) ybW yu6 (by decide) yHF yaS yvh (by decide) (fun _=>rfl) (fun x r _ h=>h) yJd
abbrev yed:List Par:= [.mt tMs (.ow (.pr (.ow (.ow .fz)) (.pr (.ow (.pr .fz (.ow .fz))) (.pr .fz (.ow .fz))))),.rd tI]
abbrev ym9:List OT:= [⟨false,tI,.fz⟩]
def yjc (a0:List dM) (a1:Int):Option (ResD ym9×MutD yed) :=
  zjw (yog ((((),()),(a1,()),((),()),()),(),(a0,()))) (fun y14 =>
    some ((y14.1.1.1,()),(y14.2.2.1,()))) (fun y14 =>
    none)
theorem yPN (x:InD yed):zjH ⟨ymO,43,yyg⟩ Tryz.f41.results.toList ygV yed ym9 x=yjc x.1 x.2.1:=by kernel_rfl
theorem yK3:ConOk Tryz.prog 41 ⟨yed,ym9,fun x=>yjc x.1 x.2.1⟩:=zkh (yIe) Tryz.func41 (by kernel_rfl) (by kernel_rfl) Tryz.ntmps41.symm (by decide) (fun x r h=>(yPN x).trans h)
def yzR (x:dM) (k:Int):Int×dM:=((yG x.2.2.2 (IntKind.i64.wrap ((yaI x.2.1 (yI x.1 k).1).1+1))).1,((yI x.1 k).2,(yaI x.2.1 (yI x.1 k).1).2,((yaI x.2.1 (yI x.1 k).1).1.tmod 3==0),(yG x.2.2.2 (IntKind.i64.wrap ((yaI x.2.1 (yI x.1 k).1).1+1))).2))
def yai (a0:List (dM)) (a1:Int):Int×List (dM):=zaX yzR a0 a1
theorem yNP (a0:List (dM)) (a1:Int) (hk:zi9 yed (a0,a1,())):yjc a0 a1=(fun n=>some ((n.1,()),(n.2,()))) (yai a0 a1):=by
  have hb:a0.length * 80≤2 ^ 47:=hk.1.1
  have hl:yog ((((),()),(a1,()),((),()),()),(),(a0,()))=some (.inl ((((zaX yzR a0 a1).1,()),()),(),((zaX yzR a0 a1).2,()))) :=
    zkl (step:=yaS) a0 (([],[],false,[]):dM) (fun i k m=>((((),()),(k,()),((i:Int),()),()),(),(m,()))) yzR (fun k m=> .inl (((k,()),()),(),(m,()))) (fun i s m hi hm=>by
      simp only [yaS,ymB,zjI (show (i:Int) < m.length by omega),List.length_set,zkO hi,Int.toNat_natCast,List.set_set,cond_true,zkP hi,wr (show -9223372036854775808≤(i:Int)+1 by omega) (by omega),Int.natCast_add,Int.natCast_one,zjW]
      rfl) (fun s m hm=>by simp only [yaS,ymB,hm,zkm (Int.le_refl _),cond_false]) a1 _ (by show _ < 18446744073709551616; omega)
  unfold yjc yai
  rw [hl]; rfl
def yyP:Con:=⟨yed,ym9,fun x=>(fun n=>some ((n.1,()),(n.2,()))) (yai x.1 x.2.1)⟩
theorem yOr:ConOk Tryz.prog 41 yyP:=(yK3).mono (fun x r hk h=>(yNP x.1 x.2.1 hk).trans h)
end
section
def ygT:Code:=(Tryz.f72.body).getD .skip
def ymM:Env:=zki TT [(20,ye4)] []
theorem yH9:FrOk Tryz.prog ⟨ymM,27,fun _=>none⟩ ygT:=zkp yb yc ⟨yk6,trivial⟩
def yyb:Nat→Option Seg:=fun _=>none
def ybU:Shape:=⟨[(0,false,[.at 1000001000]),(1,false,[.int .i64]),(5,false,[.int .i64])],[],[(1000001000,tW,(.pr .fz (.ow .fz)))]⟩
def yht:Shape:=⟨[(0,false,[.at 1000001000]),(1,false,[.int .i64]),(5,false,[.ci .i64 0])],[],[(1000001000,tW,(.pr .fz (.ow .fz)))]⟩
def yhb:Shape:=⟨[(1,false,[.int .i64])],[],[(1000001000,tW,(.pr .fz (.ow .fz)))]⟩
def yhQ:Shape:=⟨[],[],[]⟩
def ymz (v0:Int) (v1:Int) (v2:List dW):Option ((ybU).X ⊕ ((yhb).X ⊕ (yhQ).X)) :=
  bif (ltb v1 (v2.length:Int)) then
    bif (inb v1 v2.length) then
      bif (inb v1 (v2.set (v1).toNat (v0,(nth v2 v1 (0,[])).2)).length) then
        let r4:=yG ((nth (v2.set (v1).toNat (v0,(nth v2 v1 (0,[])).2)) v1 (0,[])).2) (IntKind.i64.wrap (v0+1))
        some (.inl ((((),()),(r4.1,()),((IntKind.i64.wrap (v1+1)),()),()),(),(((v2.set (v1).toNat (v0,(nth v2 v1 (0,[])).2)).set (v1).toNat ((nth (v2.set (v1).toNat (v0,(nth v2 v1 (0,[])).2)) v1 (0,[])).1,r4.2)),())))
      else none
    else none
  else
    some (.inr (.inl (((v0,()),()),(),(v2,()))))
def yaQ (x:(ybU).X):=ymz x.1.2.1.1 x.1.2.2.1.1 x.2.2.1
def yu4 (x:(yht).X):(ybU).X:=((((),()),(x.1.2.1.1,()),(0,()),()),(),(x.2.2.1,()))
def ywt:Code:=(zdI ygT 64 52).getD .skip
theorem yHD:zdI ygT 64 13=some (.block 0 (.loop ywt)):=by kernel_rfl
theorem yJb (x:(ybU).X):zg7 ⟨ymM,27,yyb⟩ 0 ywt 52 ybU yhb yhQ x=yaQ x:=by kernel_rfl
def yvf (x:(yht).X):Nat:=(fun (u0:Int) (u1:List dW)=>18446744073709551616) x.1.2.1.1 x.2.2.1
def yoe (x:(yht).X):Option ((yhb).X ⊕ (yhQ).X):=zr yaQ (yvf x) (yu4 x)
def yvs:Seg:=⟨yht,yhb,yhQ,yoe⟩
def yyc:Nat→Option Seg:=fun q=>bif Nat.beq q 13 then some yvs else yyb q
theorem yIa:FrOk Tryz.prog ⟨ymM,27,yyc⟩ ygT:=(yH9).loop (sg:=yvs) ybU yu4 (by decide) yHD yaQ yvf (by decide) (fun _=>rfl) (fun x r _ h=>h) yJb
abbrev yeb:List Par:= [.mt tWs (.ow (.pr .fz (.ow .fz))),.rd tI]
abbrev ym7:List OT:= [⟨false,tI,.fz⟩]
def yja (a0:List dW) (a1:Int):Option (ResD ym7×MutD yeb) :=
  zjw (yoe ((((),()),(a1,()),((),()),()),(),(a0,()))) (fun y4 =>
    some ((y4.1.1.1,()),(y4.2.2.1,()))) (fun y4 =>
    none)
theorem yPL (x:InD yeb):zjH ⟨ymM,27,yyc⟩ Tryz.f72.results.toList ygT yeb ym7 x=yja x.1 x.2.1:=by kernel_rfl
theorem yK1:ConOk Tryz.prog 72 ⟨yeb,ym7,fun x=>yja x.1 x.2.1⟩:=zkh (yIa) Tryz.func72 (by kernel_rfl) (by kernel_rfl) Tryz.ntmps72.symm (by decide) (fun x r h=>(yPL x).trans h)
def yFt (x:dW) (k:Int):Int×dW:=(yx (IntKind.i64.wrap (k+1)) x.2.length,(k,yge (IntKind.i64.wrap (k+1)) x.2.length))
def yem (a0:List (dW)) (a1:Int):Int×List (dW):=zaX yFt a0 a1
theorem yNN (a0:List (dW)) (a1:Int) (hk:zi9 yeb (a0,a1,())):yja a0 a1=(fun n=>some ((n.1,()),(n.2,()))) (yem a0 a1):=by
  have hb:a0.length * 32≤2 ^ 47:=hk.1.1
  have hl:yoe ((((),()),(a1,()),((),()),()),(),(a0,()))=some (.inl ((((zaX yFt a0 a1).1,()),()),(),((zaX yFt a0 a1).2,()))) :=
    zkl (step:=yaQ) a0 ((0,[]):dW) (fun i k m=>((((),()),(k,()),((i:Int),()),()),(),(m,()))) yFt (fun k m=> .inl (((k,()),()),(),(m,()))) (fun i s m hi hm=>by
      simp only [yaQ,ymz,zjI (show (i:Int) < m.length by omega),List.length_set,zkO hi,Int.toNat_natCast,List.set_set,cond_true,zkP hi,wr (show -9223372036854775808≤(i:Int)+1 by omega) (by omega),Int.natCast_add,Int.natCast_one,zjW]
      rfl) (fun s m hm=>by simp only [yaQ,ymz,hm,zkm (Int.le_refl _),cond_false]) a1 _ (by show _ < 18446744073709551616; omega)
  unfold yja yem
  rw [hl]; rfl
def yyO:Con:=⟨yeb,ym7,fun x=>(fun n=>some ((n.1,()),(n.2,()))) (yem x.1 x.2.1)⟩
theorem yOq:ConOk Tryz.prog 72 yyO:=(yK1).mono (fun x r hk h=>(yNN x.1 x.2.1 hk).trans h)
end
section
def yDZ:Code:=(Tryz.f19.body).getD .skip
def yEq:Env:=zki TT [(41,yyP),(72,yyO)] []
theorem yKe:FrOk Tryz.prog ⟨yEq,14,fun _=>none⟩ yDZ:=zkp yb yc ⟨yOr,yOq,trivial⟩
def yLR:Nat→Option Seg:=fun _=>none
abbrev yjF:List Par:= [.mt tA (.pr .fz (.pr (.pr .fz .fz) (.pr (.ow (.pr (.ow (.ow .fz)) (.pr (.ow (.pr .fz (.ow .fz))) (.pr .fz (.ow .fz))))) (.pr .fz (.pr .fz (.pr .fz (.pr .fz (.pr .fz (.pr (.ow (.pr .fz (.ow .fz))) (.pr .fz (.pr .fz .fz))))))))))),.rd tI]
abbrev ypz:List OT:= [⟨false,tI,.fz⟩]
def ysI (a0:dA) (a1:Int):Option (ResD ypz×MutD yjF) :=
  let r1:=yai a0.2.2.1 a1
  let r2:=yem a0.2.2.2.2.2.2.2.2.1 r1.1
  some ((r2.1,()),((a0.1,a0.2.1,r1.2,a0.2.2.2.1,a0.2.2.2.2.1,a0.2.2.2.2.2.1,a0.2.2.2.2.2.2.1,a0.2.2.2.2.2.2.2.1,r2.2,a0.2.2.2.2.2.2.2.2.2),()))
theorem ySQ (x:InD yjF):zjH ⟨yEq,14,yLR⟩ Tryz.f19.results.toList yDZ yjF ypz x=ysI x.1 x.2.1:=by kernel_rfl
theorem yN8:ConOk Tryz.prog 19 ⟨yjF,ypz,fun x=>ysI x.1 x.2.1⟩:=zkh (yKe) Tryz.func19 (by kernel_rfl) (by kernel_rfl) Tryz.ntmps19.symm (by decide) (fun x r h=>(ySQ x).trans h)
def yD (a0:dA) (a1:Int):Int×dA :=
  let r1:=yai a0.2.2.1 a1
  let r2:=yem a0.2.2.2.2.2.2.2.2.1 r1.1
  (r2.1,(a0.1,a0.2.1,r1.2,a0.2.2.2.1,a0.2.2.2.2.1,a0.2.2.2.2.2.1,a0.2.2.2.2.2.2.1,a0.2.2.2.2.2.2.2.1,r2.2,a0.2.2.2.2.2.2.2.2.2))
def yAT:Con:=⟨yjF,ypz,fun x=>(fun n=>some ((n.1,()),(n.2,()))) (yD x.1 x.2.1)⟩
theorem yQT (a0:dA) (a1:Int):ysI a0 a1=(fun n=>some ((n.1,()),(n.2,()))) (yD a0 a1):=zkS (p:=fun (n:Int×dA)=>((n.1,()),(n.2,()))) rfl
theorem yRO:ConOk Tryz.prog 19 yAT:=(yN8).mono (fun x r _ h=>(yQT x.1 x.2.1).trans h)
end
section
def ygR:Code:=(Tryz.f21.body).getD .skip
def ymK:Env:=zki TT [] []
theorem yH5:FrOk Tryz.prog ⟨ymK,21,fun _=>none⟩ ygR:=zkp yb yc trivial
def yx7:Nat→Option Seg:=fun _=>none
def ybS:Shape:=⟨[(0,false,[.br tI]),(1,false,[.int .i64]),(5,false,[.int .i64])],[],[]⟩
def yhr:Shape:=⟨[(0,false,[.br tI]),(1,false,[.int .i64]),(5,false,[.ci .i64 0])],[],[]⟩
def yg9:Shape:=⟨[(1,false,[.int .i64])],[],[]⟩
def yhO:Shape:=⟨[(4,false,[.int .i64])],[],[]⟩
def ymx (v0:List Int) (v1:Int) (v2:Int):Option ((ybS).X ⊕ ((yg9).X ⊕ (yhO).X)) :=
  bif (ltb v2 (v0.length:Int)) then
    bif (inb v2 v0.length) then
      bif ((nth v0 v2 0) !=v1) then
        some (.inr (.inr ((((-1),()),()),(),())))
      else
        some (.inl (((v0,()),((IntKind.i64.wrap (v1+1)),()),((IntKind.i64.wrap (v2+1)),()),()),(),()))
    else none
  else
    some (.inr (.inl (((v1,()),()),(),())))
def yaO (x:(ybS).X):=ymx x.1.1.1 x.1.2.1.1 x.1.2.2.1.1
def yu2 (x:(yhr).X):(ybS).X:=(((x.1.1.1,()),(x.1.2.1.1,()),(0,()),()),(),())
def ywr:Code:=(zdI ygR 64 52).getD .skip
theorem yHB:zdI ygR 64 13=some (.block 0 (.loop ywr)):=by kernel_rfl
theorem yI9 (x:(ybS).X):zg7 ⟨ymK,21,yx7⟩ 0 ywr 52 ybS yg9 yhO x=yaO x:=by kernel_rfl
def yvd (x:(yhr).X):Nat:=(fun (u0:List Int) (u1:Int)=>18446744073709551616) x.1.1.1 x.1.2.1.1
def yoc (x:(yhr).X):Option ((yg9).X ⊕ (yhO).X):=zr yaO (yvd x) (yu2 x)
def yvq:Seg:=⟨yhr,yg9,yhO,yoc⟩
def yx8:Nat→Option Seg:=fun q=>bif Nat.beq q 13 then some yvq else yx7 q
theorem yH6:FrOk Tryz.prog ⟨ymK,21,yx8⟩ ygR:=(yH5).loop (sg:=yvq) ybS yu2 (by decide) yHB yaO yvd (by decide) (fun _=>rfl) (fun x r _ h=>h) yI9
abbrev yd9:List Par:= [.rd tL,.rd tI]
abbrev ym5:List OT:= [⟨false,tI,.fz⟩]
def yi8 (a0:List Int) (a1:Int):Option (ResD ym5×MutD yd9) :=
  zjw (yoc (((a0,()),(a1,()),((),()),()),(),())) (fun y0 =>
    some ((y0.1.1.1,()),())) (fun y0 =>
    some ((y0.1.1.1,()),()))
theorem yPJ (x:InD yd9):zjH ⟨ymK,21,yx8⟩ Tryz.f21.results.toList ygR yd9 ym5 x=yi8 x.1 x.2.1:=by kernel_rfl
theorem yKZ:ConOk Tryz.prog 21 ⟨yd9,ym5,fun x=>yi8 x.1 x.2.1⟩:=zkh (yH6) Tryz.func21 (by kernel_rfl) (by kernel_rfl) Tryz.ntmps21.symm (by decide) (fun x r h=>(yPJ x).trans h)
def yl (a0:List Int) (a1:Int):Int:=bif (List.range a0.length).any (fun i=>a0.getD i 0 !=yx a1 i) then -1 else yx a1 a0.length
theorem yNL (a0:List Int) (a1:Int) (hk:zi9 yd9 (a0,a1,())):yi8 a0 a1=(fun n=>some ((n,()),())) (yl a0 a1):=by
  have hb:a0.length * 8≤2 ^ 47:=hk.1.1
  have hl:yoc (((a0,()),(a1,()),((),()),()),(),())=some (bif (List.range a0.length).any (fun i=>a0.getD i 0 !=yx a1 i) then .inr ((((-1),()),()),(),()) else .inl (((yx a1 a0.length,()),()),(),())) :=
    zf4 (step:=yaO) (fun i=>(((a0,()),(yx a1 i,()),((i:Int),()),()),(),())) a0.length (fun i=>a0.getD i 0 !=yx a1 i) _ _ (fun i hi=>by
      simp only [yaO,ymx,zkO hi,zjW,zjI (show (i:Int) < a0.length by omega),cond_true,wr (show -9223372036854775808≤(i:Int)+1 by omega) (by omega),Int.natCast_add,Int.natCast_one,yBA]
      cases (a0.getD i 0 !=yx a1 i)<;>rfl) (by simp only [yaO,ymx,zkm (Int.le_refl _),cond_false]) _ (by show _ < 18446744073709551616; omega)
  unfold yi8 yl
  rw [hl]
  cases (List.range a0.length).any (fun i=>a0.getD i 0 !=yx a1 i)<;>rfl
theorem yUP: ∀ (n i:Nat) (k:Int),i < n→(yge k n).getD i 0=yx k i
  | n+1,0,k,_=>rfl
  | n+1,i+1,k,h=>yUP n i _ (by omega)
theorem yzM (n:Nat) (k:Int):yl (yge k n) k=yx k n:=by
  unfold yl
  rw [ys8]
  have:(List.range n).any (fun i=>(yge k n).getD i 0 !=yx k i)=false:=by
    rw [List.any_eq_false]
    intro i hi
    rw [yUP n i k (List.mem_range.1 hi)]
    simp
  rw [this]; rfl
def ye3:Con:=⟨yd9,ym5,fun x=>(fun n=>some ((n,()),())) (yl x.1 x.2.1)⟩
theorem yk5:ConOk Tryz.prog 21 ye3:=(yKZ).mono (fun x r hk h=>(yNL x.1 x.2.1 hk).trans h)
end
end
end Go.Tf
