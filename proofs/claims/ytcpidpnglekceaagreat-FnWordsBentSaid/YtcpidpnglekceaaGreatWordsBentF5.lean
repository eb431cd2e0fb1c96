/- Functions of the program, and what they come to. -/
import Derived.Test.YtcpidpnglekceaaGreatWordsBentF4
namespace Go.Tf
noncomputable section
open Go.Proofs
set_option synthInstance.maxHeartbeats 400000
set_option synthInstance.maxSize 10000
set_option linter.unusedVariables false
set_option linter.unusedSimpArgs false
set_option maxRecDepth 100000
section
def yiO:Code:=(Tryz.f251.body).getD .skip
def ynd:Env:=zki TT [(264,ysi),(266,ymj)] []
theorem yFl:FrOk Tryz.prog ⟨ynd,39,fun _=>none⟩ yiO:=zkp ye yf ⟨yCd,yu9,trivial⟩
def ywc:Nat→Option Seg:=fun _=>none
def yb1:Shape:=⟨[(0,false,[.ptr 1000000000 0]),(2,false,[.int .i64])],[(1000000000,[.int .i64,.int .i64,.int .i64,.at 800000000,.int .i64,.int .i64,.int .i64,.int .i64,.int .i64,.at 800000001,.int .i64,.bool,.bool])],[(800000000,tM,(.pr (.ow .fz) (.pr (.ow (.pr .fz .fz)) (.pr .fz (.ow .fz))))),(800000001,tW,(.pr .fz .fz))]⟩
def yf6:Shape:=⟨[(0,false,[.ptr 1000000000 0]),(2,false,[.ci .i64 0])],[(1000000000,[.int .i64,.int .i64,.int .i64,.at 800000000,.int .i64,.int .i64,.int .i64,.int .i64,.int .i64,.at 800000001,.int .i64,.bool,.bool])],[(800000000,tM,(.pr (.ow .fz) (.pr (.ow (.pr .fz .fz)) (.pr .fz (.ow .fz))))),(800000001,tW,(.pr .fz .fz))]⟩
def yfP:Shape:=⟨[],[(1000000000,[.int .i64,.int .i64,.int .i64,.at 800000000,.int .i64,.int .i64,.int .i64,.int .i64,.int .i64,.at 800000001,.int .i64,.bool,.bool])],[(800000000,tM,(.pr (.ow .fz) (.pr (.ow (.pr .fz .fz)) (.pr .fz (.ow .fz))))),(800000001,tW,(.pr .fz .fz))]⟩
def yj1:Shape:=⟨[],[],[]⟩
abbrev yoo (v0:Int) (v1:dA):(yb1).X:=((((),()),(v0,()),()),((v1.1,v1.2.1.1,v1.2.1.2,(),v1.2.2.2.1,v1.2.2.2.2.1,v1.2.2.2.2.2.1,v1.2.2.2.2.2.2.1,v1.2.2.2.2.2.2.2.1,(),v1.2.2.2.2.2.2.2.2.2.1,v1.2.2.2.2.2.2.2.2.2.2.1,v1.2.2.2.2.2.2.2.2.2.2.2,()),()),(v1.2.2.1,v1.2.2.2.2.2.2.2.2.1,()))
abbrev yFL (v0:dA):(yf6).X:=((((),()),((),()),()),((v0.1,v0.2.1.1,v0.2.1.2,(),v0.2.2.2.1,v0.2.2.2.2.1,v0.2.2.2.2.2.1,v0.2.2.2.2.2.2.1,v0.2.2.2.2.2.2.2.1,(),v0.2.2.2.2.2.2.2.2.2.1,v0.2.2.2.2.2.2.2.2.2.2.1,v0.2.2.2.2.2.2.2.2.2.2.2,()),()),(v0.2.2.1,v0.2.2.2.2.2.2.2.2.1,()))
abbrev yu8 (v0:dA):(yfP).X:=((),((v0.1,v0.2.1.1,v0.2.1.2,(),v0.2.2.2.1,v0.2.2.2.2.1,v0.2.2.2.2.2.1,v0.2.2.2.2.2.2.1,v0.2.2.2.2.2.2.2.1,(),v0.2.2.2.2.2.2.2.2.2.1,v0.2.2.2.2.2.2.2.2.2.2.1,v0.2.2.2.2.2.2.2.2.2.2.2,()),()),(v0.2.2.1,v0.2.2.2.2.2.2.2.2.1,()))
def yoI (v0:Int) (v1:Int) (v2:Int) (v3:Int) (v4:Int) (v5:Int) (v6:Int) (v7:Int) (v8:Int) (v9:Int) (v10:Bool) (v11:Bool) (v12:List dM) (v13:List dW):Option ((yb1).X ⊕ ((yfP).X ⊕ (yj1).X)) :=
  bif (ltb v0 (v12.length:Int)) then
    bif (inb v0 v12.length) then
      bif (!((((nth v12 v0 ([],[],false,[])).2).2).1)) then
        let r3:=ymZ (v1,(v2,v3),v12,v4,v5,v6,v7,v8,v13,v9,v10,v11)
        bif r3.1 then
          bif (inb v0 r3.2.2.2.1.length) then
            let r4:=yb6 ((nth r3.2.2.2.1 v0 ([],[],false,[])).1,((nth r3.2.2.2.1 v0 ([],[],false,[])).2).1,(((nth r3.2.2.2.1 v0 ([],[],false,[])).2).2))
            bif (inb v0 r3.2.2.2.1.length) then
              some (.inl ((((),()),((IntKind.i64.wrap (v0+1)),()),()),((r3.2.1,r3.2.2.1.1,r3.2.2.1.2,(),r3.2.2.2.2.1,r3.2.2.2.2.2.1,r3.2.2.2.2.2.2.1,r3.2.2.2.2.2.2.2.1,r3.2.2.2.2.2.2.2.2.1,(),r3.2.2.2.2.2.2.2.2.2.2.1,r3.2.2.2.2.2.2.2.2.2.2.2.1,r3.2.2.2.2.2.2.2.2.2.2.2.2,()),()),((r3.2.2.2.1.set (v0).toNat r4),r3.2.2.2.2.2.2.2.2.2.1,())))
            else none
          else none
        else
          some (.inl ((((),()),((IntKind.i64.wrap (v0+1)),()),()),((r3.2.1,r3.2.2.1.1,r3.2.2.1.2,(),r3.2.2.2.2.1,r3.2.2.2.2.2.1,r3.2.2.2.2.2.2.1,r3.2.2.2.2.2.2.2.1,r3.2.2.2.2.2.2.2.2.1,(),r3.2.2.2.2.2.2.2.2.2.2.1,r3.2.2.2.2.2.2.2.2.2.2.2.1,r3.2.2.2.2.2.2.2.2.2.2.2.2,()),()),(r3.2.2.2.1,r3.2.2.2.2.2.2.2.2.2.1,())))
      else
        some (.inl ((((),()),((IntKind.i64.wrap (v0+1)),()),()),((v1,v2,v3,(),v4,v5,v6,v7,v8,(),v9,v10,v11,()),()),(v12,v13,())))
    else none
  else
    some (.inr (.inl ((),((v1,v2,v3,(),v4,v5,v6,v7,v8,(),v9,v10,v11,()),()),(v12,v13,()))))
def ycr (x:(yb1).X):=yoI x.1.2.1.1 x.2.1.1.1 x.2.1.1.2.1 x.2.1.1.2.2.1 x.2.1.1.2.2.2.2.1 x.2.1.1.2.2.2.2.2.1 x.2.1.1.2.2.2.2.2.2.1 x.2.1.1.2.2.2.2.2.2.2.1 x.2.1.1.2.2.2.2.2.2.2.2.1 x.2.1.1.2.2.2.2.2.2.2.2.2.2.1 x.2.1.1.2.2.2.2.2.2.2.2.2.2.2.1 x.2.1.1.2.2.2.2.2.2.2.2.2.2.2.2.1 x.2.2.1 x.2.2.2.1
def yuF (x:(yf6).X):(yb1).X:=((((),()),(0,()),()),((x.2.1.1.1,x.2.1.1.2.1,x.2.1.1.2.2.1,(),x.2.1.1.2.2.2.2.1,x.2.1.1.2.2.2.2.2.1,x.2.1.1.2.2.2.2.2.2.1,x.2.1.1.2.2.2.2.2.2.2.1,x.2.1.1.2.2.2.2.2.2.2.2.1,(),x.2.1.1.2.2.2.2.2.2.2.2.2.2.1,x.2.1.1.2.2.2.2.2.2.2.2.2.2.2.1,x.2.1.1.2.2.2.2.2.2.2.2.2.2.2.2.1,()),()),(x.2.2.1,x.2.2.2.1,()))
def ywF:Code:=(zdI yiO 64 12).getD .skip
theorem yHv:zdI yiO 64 3=some (.block 0 (.loop ywF)):=by kernel_rfl
theorem yKb (x:(yb1).X):zg7 ⟨ynd,39,ywc⟩ 0 ywF 12 yb1 yfP yj1 x=ycr x:=by kernel_rfl
def yuX (x:(yf6).X):Nat:=(fun (u0:Int) (u1:Int) (u2:Int) (u3:Int) (u4:Int) (u5:Int) (u6:Int) (u7:Int) (u8:Int) (u9:Bool) (u10:Bool) (u11:List dM) (u12:List dW)=>18446744073709551616) x.2.1.1.1 x.2.1.1.2.1 x.2.1.1.2.2.1 x.2.1.1.2.2.2.2.1 x.2.1.1.2.2.2.2.2.1 x.2.1.1.2.2.2.2.2.2.1 x.2.1.1.2.2.2.2.2.2.2.1 x.2.1.1.2.2.2.2.2.2.2.2.1 x.2.1.1.2.2.2.2.2.2.2.2.2.2.1 x.2.1.1.2.2.2.2.2.2.2.2.2.2.2.1 x.2.1.1.2.2.2.2.2.2.2.2.2.2.2.2.1 x.2.2.1 x.2.2.2.1
def ypq (x:(yf6).X):Option ((yfP).X ⊕ (yj1).X):=zr ycr (yuX x) (yuF x)
def yvy:Seg:=⟨yf6,yfP,yj1,ypq⟩
def ywd:Nat→Option Seg:=fun q=>bif Nat.beq q 3 then some yvy else ywc q
theorem yFm:FrOk Tryz.prog ⟨ynd,39,ywd⟩ yiO:=(yFl).loop (sg:=yvy) yb1 yuF (by decide) yHv ycr yuX (by decide) (fun _=>rfl) (fun x r _ h=>h) yKb
abbrev yfn:List Par:= [.pt tA (.pr .fz (.pr (.pr .fz .fz) (.pr (.ow (.pr (.ow .fz) (.pr (.ow (.pr .fz .fz)) (.pr .fz (.ow .fz))))) (.pr .fz (.pr .fz (.pr .fz (.pr .fz (.pr .fz (.pr (.ow (.pr .fz .fz)) (.pr .fz (.pr .fz .fz)))))))))))]
abbrev ynK:List OT:= []
def ykv (a0:dA):Option (ResD ynK×MutD yfn) :=
  zjw (ypq ((((),()),((),()),()),((a0.1,a0.2.1.1,a0.2.1.2,(),a0.2.2.2.1,a0.2.2.2.2.1,a0.2.2.2.2.2.1,a0.2.2.2.2.2.2.1,a0.2.2.2.2.2.2.2.1,(),a0.2.2.2.2.2.2.2.2.2.1,a0.2.2.2.2.2.2.2.2.2.2.1,a0.2.2.2.2.2.2.2.2.2.2.2,()),()),(a0.2.2.1,a0.2.2.2.2.2.2.2.2.1,()))) (fun y4 =>
    some ((),((y4.2.1.1.1,(y4.2.1.1.2.1,y4.2.1.1.2.2.1),y4.2.2.1,y4.2.1.1.2.2.2.2.1,y4.2.1.1.2.2.2.2.2.1,y4.2.1.1.2.2.2.2.2.2.1,y4.2.1.1.2.2.2.2.2.2.2.1,y4.2.1.1.2.2.2.2.2.2.2.2.1,y4.2.2.2.1,y4.2.1.1.2.2.2.2.2.2.2.2.2.2.1,y4.2.1.1.2.2.2.2.2.2.2.2.2.2.2.1,y4.2.1.1.2.2.2.2.2.2.2.2.2.2.2.2.1),()))) (fun y4 =>
    none)
theorem yNt (x:InD yfn):zjH ⟨ynd,39,ywd⟩ Tryz.f251.results.toList yiO yfn ynK x=ykv x.1:=by kernel_rfl
theorem yJF:ConOk Tryz.prog 251 ⟨yfn,ynK,fun x=>ykv x.1⟩:=zkh (yFm) Tryz.func251 (by kernel_rfl) (by kernel_rfl) Tryz.ntmps251.symm (by decide) (fun x r h=>(yNt x).trans h)
def ycx (a0:dA):dA:=yab a0
theorem yLs (a0:dA) (hk:zi9 yfn (a0,())):ykv a0=(fun n=>some ((),(n,()))) (ycx a0):=by
  have hb:a0.2.2.1.length * 80≤2 ^ 47:=hk.1.2.2.1.1
  have h1:ypq (yFL a0)=some (.inl (yu8 (yab a0))) :=
    zks (step:=ycr) a0.2.2.1.length (fun i s=>yoo i s) yao (fun _ s=>s.2.2.1.length=a0.2.2.1.length) (fun s=> .inl (yu8 s)) (fun i s hi hs=>⟨by
      simp only [ycr,yoo,yoI,hs,zjI (show (i:Int) < a0.2.2.1.length by omega),cond_true,wr (show -9223372036854775808≤(i:Int)+1 by omega) (by omega),Int.natCast_add,Int.natCast_one,Int.toNat_natCast,zkO hi,zkV,yKf,ybv,yb6,yao,yqv]
      cases (nth s.2.2.1 i yg).2.2.1<;>cases (opA s).1<;>simp only [cond_true,cond_false,Bool.not_true,Bool.not_false,ybv,Int.toNat_natCast],(ym2 s i).trans hs⟩) (fun s hs=>by simp only [ycr,yoo,yoI,hs,zkm (Int.le_refl _),cond_false]) a0 rfl _ (by show _ < 18446744073709551616; omega)
  unfold ykv ycx
  rw [h1]; rfl
def yj9:Con:=⟨yfn,ynK,fun x=>(fun n=>some ((),(n,()))) (ycx x.1)⟩
theorem yrb:ConOk Tryz.prog 251 yj9:=(yJF).mono (fun x r hk h=>(yLs x.1 hk).trans h)
end
section
def yiN:Code:=(Tryz.f210.body).getD .skip
def ync:Env:=zki TT [(192,yml),(249,yhJ),(251,yj9)] []
theorem yFj:FrOk Tryz.prog ⟨ync,63,fun _=>none⟩ yiN:=zkp ye yf ⟨yvb,ynR,yrb,trivial⟩
def ywa:Nat→Option Seg:=fun _=>none
def ybi:Shape:=⟨[(0,false,[.ptr 1000000000 0]),(2,false,[.int .i64])],[(1000000000,[.int .i64,.int .i64,.int .i64,.at 800000000,.int .i64,.int .i64,.int .i64,.int .i64,.int .i64,.at 800000001,.int .i64,.bool,.bool])],[(800000000,tM,(.pr (.ow .fz) (.pr (.ow (.pr .fz .fz)) (.pr .fz (.ow .fz))))),(800000001,tW,(.pr .fz .fz))]⟩
def yeO:Shape:=⟨[(0,false,[.ptr 1000000000 0]),(2,false,[.ci .i64 0])],[(1000000000,[.int .i64,.int .i64,.int .i64,.at 800000000,.int .i64,.int .i64,.int .i64,.int .i64,.int .i64,.at 800000001,.int .i64,.bool,.bool])],[(800000000,tM,(.pr (.ow .fz) (.pr (.ow (.pr .fz .fz)) (.pr .fz (.ow .fz))))),(800000001,tW,(.pr .fz .fz))]⟩
def yeB:Shape:=⟨[(0,false,[.ptr 1000000000 0])],[(1000000000,[.int .i64,.int .i64,.int .i64,.at 800000000,.int .i64,.int .i64,.int .i64,.int .i64,.int .i64,.at 800000001,.int .i64,.bool,.bool])],[(800000000,tM,(.pr (.ow .fz) (.pr (.ow (.pr .fz .fz)) (.pr .fz (.ow .fz))))),(800000001,tW,(.pr .fz .fz))]⟩
def yig:Shape:=⟨[],[],[]⟩
abbrev ymy (v0:Int) (v1:dA):(ybi).X:=((((),()),(v0,()),()),((v1.1,v1.2.1.1,v1.2.1.2,(),v1.2.2.2.1,v1.2.2.2.2.1,v1.2.2.2.2.2.1,v1.2.2.2.2.2.2.1,v1.2.2.2.2.2.2.2.1,(),v1.2.2.2.2.2.2.2.2.2.1,v1.2.2.2.2.2.2.2.2.2.2.1,v1.2.2.2.2.2.2.2.2.2.2.2,()),()),(v1.2.2.1,v1.2.2.2.2.2.2.2.2.1,()))
abbrev yDr (v0:dA):(yeO).X:=((((),()),((),()),()),((v0.1,v0.2.1.1,v0.2.1.2,(),v0.2.2.2.1,v0.2.2.2.2.1,v0.2.2.2.2.2.1,v0.2.2.2.2.2.2.1,v0.2.2.2.2.2.2.2.1,(),v0.2.2.2.2.2.2.2.2.2.1,v0.2.2.2.2.2.2.2.2.2.2.1,v0.2.2.2.2.2.2.2.2.2.2.2,()),()),(v0.2.2.1,v0.2.2.2.2.2.2.2.2.1,()))
abbrev yth (v0:dA):(yeB).X:=((((),()),()),((v0.1,v0.2.1.1,v0.2.1.2,(),v0.2.2.2.1,v0.2.2.2.2.1,v0.2.2.2.2.2.1,v0.2.2.2.2.2.2.1,v0.2.2.2.2.2.2.2.1,(),v0.2.2.2.2.2.2.2.2.2.1,v0.2.2.2.2.2.2.2.2.2.2.1,v0.2.2.2.2.2.2.2.2.2.2.2,()),()),(v0.2.2.1,v0.2.2.2.2.2.2.2.2.1,()))
def ymN (v0:Int) (v1:Int) (v2:Int) (v3:Int) (v4:Int) (v5:Int) (v6:Int) (v7:Int) (v8:Int) (v9:Int) (v10:Bool) (v11:Bool) (v12:List dM) (v13:List dW):Option ((ybi).X ⊕ ((yeB).X ⊕ (yig).X)) :=
  bif (ltb v0 (v12.length:Int)) then
    let r3:=yav (v1,v8,v0,v2,v3,v7,v4,v5)
    bnd (ydb (v1,(v2,v3),v12,v4,v5,v6,v7,v8,v13,v9,v10,v11) v0 (v8.tmod 2) r3) fun r4 =>
    some (.inl ((((),()),((IntKind.i64.wrap (v0+1)),()),()),((r4.2.1.1,r4.2.1.2.1.1,r4.2.1.2.1.2,(),r4.2.1.2.2.2.1,r4.2.1.2.2.2.2.1,r4.2.1.2.2.2.2.2.1,r4.2.1.2.2.2.2.2.2.1,r4.2.1.2.2.2.2.2.2.2.1,(),r4.2.1.2.2.2.2.2.2.2.2.2.1,r4.2.1.2.2.2.2.2.2.2.2.2.2.1,r4.2.1.2.2.2.2.2.2.2.2.2.2.2,()),()),(r4.2.1.2.2.1,r4.2.1.2.2.2.2.2.2.2.2.1,())))
  else
    some (.inr (.inl ((((),()),()),((v1,v2,v3,(),v4,v5,v6,v7,v8,(),v9,v10,v11,()),()),(v12,v13,()))))
def ybK (x:(ybi).X):=ymN x.1.2.1.1 x.2.1.1.1 x.2.1.1.2.1 x.2.1.1.2.2.1 x.2.1.1.2.2.2.2.1 x.2.1.1.2.2.2.2.2.1 x.2.1.1.2.2.2.2.2.2.1 x.2.1.1.2.2.2.2.2.2.2.1 x.2.1.1.2.2.2.2.2.2.2.2.1 x.2.1.1.2.2.2.2.2.2.2.2.2.2.1 x.2.1.1.2.2.2.2.2.2.2.2.2.2.2.1 x.2.1.1.2.2.2.2.2.2.2.2.2.2.2.2.1 x.2.2.1 x.2.2.2.1
def ys0 (x:(yeO).X):(ybi).X:=((((),()),(0,()),()),((x.2.1.1.1,x.2.1.1.2.1,x.2.1.1.2.2.1,(),x.2.1.1.2.2.2.2.1,x.2.1.1.2.2.2.2.2.1,x.2.1.1.2.2.2.2.2.2.1,x.2.1.1.2.2.2.2.2.2.2.1,x.2.1.1.2.2.2.2.2.2.2.2.1,(),x.2.1.1.2.2.2.2.2.2.2.2.2.2.1,x.2.1.1.2.2.2.2.2.2.2.2.2.2.2.1,x.2.1.1.2.2.2.2.2.2.2.2.2.2.2.2.1,()),()),(x.2.2.1,x.2.2.2.1,()))
def yud:Code:=(zdI yiN 64 52).getD .skip
theorem yEo:zdI yiN 64 13=some (.block 0 (.loop yud)):=by kernel_rfl
theorem yGL (x:(ybi).X):zg7 ⟨ync,63,ywa⟩ 0 yud 52 ybi yeB yig x=ybK x:=by kernel_rfl
def ytd (x:(yeO).X):Nat:=(fun (u0:Int) (u1:Int) (u2:Int) (u3:Int) (u4:Int) (u5:Int) (u6:Int) (u7:Int) (u8:Int) (u9:Bool) (u10:Bool) (u11:List dM) (u12:List dW)=>18446744073709551616) x.2.1.1.1 x.2.1.1.2.1 x.2.1.1.2.2.1 x.2.1.1.2.2.2.2.1 x.2.1.1.2.2.2.2.2.1 x.2.1.1.2.2.2.2.2.2.1 x.2.1.1.2.2.2.2.2.2.2.1 x.2.1.1.2.2.2.2.2.2.2.2.1 x.2.1.1.2.2.2.2.2.2.2.2.2.2.1 x.2.1.1.2.2.2.2.2.2.2.2.2.2.2.1 x.2.1.1.2.2.2.2.2.2.2.2.2.2.2.2.1 x.2.2.1 x.2.2.2.1
def yn4 (x:(yeO).X):Option ((yeB).X ⊕ (yig).X):=zr ybK (ytd x) (ys0 x)
def ytv:Seg:=⟨yeO,yeB,yig,yn4⟩
def ywb:Nat→Option Seg:=fun q=>bif Nat.beq q 13 then some ytv else ywa q
theorem yFk:FrOk Tryz.prog ⟨ync,63,ywb⟩ yiN:=(yFj).loop (sg:=ytv) ybi ys0 (by decide) yEo ybK ytd (by decide) (fun _=>rfl) (fun x r _ h=>h) yGL
abbrev yfm:List Par:= [.pt tA (.pr .fz (.pr (.pr .fz .fz) (.pr (.ow (.pr (.ow .fz) (.pr (.ow (.pr .fz .fz)) (.pr .fz (.ow .fz))))) (.pr .fz (.pr .fz (.pr .fz (.pr .fz (.pr .fz (.pr (.ow (.pr .fz .fz)) (.pr .fz (.pr .fz .fz)))))))))))]
abbrev ynJ:List OT:= []
def yku (a0:dA):Option (ResD ynJ×MutD yfm) :=
  zjw (yn4 ((((),()),((),()),()),((a0.1,a0.2.1.1,a0.2.1.2,(),a0.2.2.2.1,a0.2.2.2.2.1,a0.2.2.2.2.2.1,a0.2.2.2.2.2.2.1,(IntKind.i64.wrap (a0.2.2.2.2.2.2.2.1+1)),(),a0.2.2.2.2.2.2.2.2.2.1,a0.2.2.2.2.2.2.2.2.2.2.1,a0.2.2.2.2.2.2.2.2.2.2.2,()),()),(a0.2.2.1,a0.2.2.2.2.2.2.2.2.1,()))) (fun y4 =>
    let r6:=ycx (y4.2.1.1.1,(y4.2.1.1.2.1,y4.2.1.1.2.2.1),y4.2.2.1,y4.2.1.1.2.2.2.2.1,y4.2.1.1.2.2.2.2.2.1,y4.2.1.1.2.2.2.2.2.2.1,y4.2.1.1.2.2.2.2.2.2.2.1,y4.2.1.1.2.2.2.2.2.2.2.2.1,y4.2.2.2.1,y4.2.1.1.2.2.2.2.2.2.2.2.2.2.1,y4.2.1.1.2.2.2.2.2.2.2.2.2.2.2.1,y4.2.1.1.2.2.2.2.2.2.2.2.2.2.2.2.1)
    some ((),(r6,()))) (fun y4 =>
    none)
theorem yNs (x:InD yfm):zjH ⟨ync,63,ywb⟩ Tryz.f210.results.toList yiN yfm ynJ x=yku x.1:=by kernel_rfl
theorem yJE:ConOk Tryz.prog 210 ⟨yfm,ynJ,fun x=>yku x.1⟩:=zkh (yFk) Tryz.func210 (by kernel_rfl) (by kernel_rfl) Tryz.ntmps210.symm (by decide) (fun x r h=>(yNs x).trans h)
def yam (a0:dA):dA:=yau a0
theorem yPh (a:dA) (i:Nat):(yjw a i).2.2.1.length=a.2.2.1.length:=yoQ _ _ _ _
theorem yLr (a0:dA) (hk:zi9 yfm (a0,())):yku a0=(fun n=>some ((),(n,()))) (yam a0):=by
  have hb:a0.2.2.1.length * 80≤2 ^ 47:=hk.1.2.2.1.1
  have h1:yn4 (yDr (yik a0))=some (.inl (yth ((List.range a0.2.2.1.length).foldl yjw (yik a0)))) :=
    zks (step:=ybK) a0.2.2.1.length (fun i s=>ymy i s) yjw (fun _ s=>s.2.2.1.length=a0.2.2.1.length) (fun s=> .inl (yth s)) (fun i s hi hs=>⟨by
      simp only [ybK,ymy,ymN,hs,zjI (show (i:Int) < a0.2.2.1.length by omega),cond_true,wr (show -9223372036854775808≤(i:Int)+1 by omega) (by omega),Int.natCast_add,Int.natCast_one,Int.toNat_natCast,zkV]
      rw [yjs s i (s.2.2.2.2.2.2.2.1.tmod 2) (yav (s.1,s.2.2.2.2.2.2.2.1,(i:Int),s.2.1.1,s.2.1.2,s.2.2.2.2.2.2.1,s.2.2.2.1,s.2.2.2.2.1)) (zkO (by rw [hs]; exact hi))]
      rfl,(yPh s i).trans hs⟩) (fun s hs=>by simp only [ybK,ymy,ymN,hs,zkm (Int.le_refl _),cond_false]) (yik a0) rfl _ (by show _ < 18446744073709551616; omega)
  unfold yku yam yau
  exact (congrArg (fun z=>zjw z _ _) h1).trans rfl
def yj8:Con:=⟨yfm,ynJ,fun x=>(fun n=>some ((),(n,()))) (yam x.1)⟩
theorem yra:ConOk Tryz.prog 210 yj8:=(yJE).mono (fun x r hk h=>(yLr x.1 hk).trans h)
end
section
def yxx:Code:=(Tryz.f116.body).getD .skip
def yyb:Env:=zki TT [(209,yn7),(210,yj8)] []
theorem yCW:FrOk Tryz.prog ⟨yyb,62,fun _=>none⟩ yxx:=zkp ye yf ⟨yxd,yra,trivial⟩
def yD6:Nat→Option Seg:=fun _=>none
abbrev ycL:List Par:= [.pt tA (.pr .fz (.pr (.pr .fz .fz) (.pr (.ow (.pr (.ow .fz) (.pr (.ow (.pr .fz .fz)) (.pr .fz (.ow .fz))))) (.pr .fz (.pr .fz (.pr .fz (.pr .fz (.pr .fz (.pr (.ow (.pr .fz .fz)) (.pr .fz (.pr .fz .fz))))))))))),.rd tI]
abbrev yhA:List OT:= []
def yit (a0:dA) (a1:Int):Option (ResD yhA×MutD ycL) :=
  bif (inb a1 a0.2.2.1.length) then
    let r1:=yhP ((nth a0.2.2.1 a1 ([],[],false,[])).1,((nth a0.2.2.1 a1 ([],[],false,[])).2).1,(((nth a0.2.2.1 a1 ([],[],false,[])).2).2))
    bif (inb a1 a0.2.2.1.length) then
      bif (!(a0.2.2.2.1==(-1))) then
        bif (a0.2.2.2.1==a1) then
          bif (!a0.2.2.2.2.2.2.2.2.2.2.1) then
            bif (!a0.2.2.2.2.2.2.2.2.2.2.2) then
              bif (ltb a0.2.2.2.2.2.2.2.1 60000) then
                let r2:=yam (a0.1,a0.2.1,(a0.2.2.1.set (a1).toNat r1),a1,0,a0.2.2.2.2.2)
                some ((),(r2,()))
              else
                some ((),((a0.1,a0.2.1,(a0.2.2.1.set (a1).toNat r1),a1,0,a0.2.2.2.2.2),()))
            else
              some ((),((a0.1,a0.2.1,(a0.2.2.1.set (a1).toNat r1),a1,0,a0.2.2.2.2.2),()))
          else
            some ((),((a0.1,a0.2.1,(a0.2.2.1.set (a1).toNat r1),a1,0,a0.2.2.2.2.2),()))
        else
          bif (!a0.2.2.2.2.2.2.2.2.2.2.1) then
            some ((),((a0.1,a0.2.1,(a0.2.2.1.set (a1).toNat r1),a0.2.2.2.1,a0.2.2.2.2.1,a0.2.2.2.2.2.1,a0.2.2.2.2.2.2.1,a0.2.2.2.2.2.2.2.1,a0.2.2.2.2.2.2.2.2.1,a0.2.2.2.2.2.2.2.2.2.1,a0.2.2.2.2.2.2.2.2.2.2.1,true),()))
          else
            some ((),((a0.1,a0.2.1,(a0.2.2.1.set (a1).toNat r1),a0.2.2.2.1,a0.2.2.2.2.1,a0.2.2.2.2.2.1,a0.2.2.2.2.2.2.1,a0.2.2.2.2.2.2.2.1,a0.2.2.2.2.2.2.2.2.1,a0.2.2.2.2.2.2.2.2.2.1,a0.2.2.2.2.2.2.2.2.2.2.1,true),()))
      else
        bif (!a0.2.2.2.2.2.2.2.2.2.2.1) then
          bif (!a0.2.2.2.2.2.2.2.2.2.2.2) then
            bif (ltb a0.2.2.2.2.2.2.2.1 60000) then
              let r3:=yam (a0.1,a0.2.1,(a0.2.2.1.set (a1).toNat r1),a1,0,a0.2.2.2.2.2)
              some ((),(r3,()))
            else
              some ((),((a0.1,a0.2.1,(a0.2.2.1.set (a1).toNat r1),a1,0,a0.2.2.2.2.2),()))
          else
            some ((),((a0.1,a0.2.1,(a0.2.2.1.set (a1).toNat r1),a1,0,a0.2.2.2.2.2),()))
        else
          some ((),((a0.1,a0.2.1,(a0.2.2.1.set (a1).toNat r1),a1,0,a0.2.2.2.2.2),()))
    else none
  else none
theorem yKH (x:InD ycL):zjH ⟨yyb,62,yD6⟩ Tryz.f116.results.toList yxx ycL yhA x=yit x.1 x.2.1:=by kernel_rfl
theorem yGi:ConOk Tryz.prog 116 ⟨ycL,yhA,fun x=>yit x.1 x.2.1⟩:=zkh (yCW) Tryz.func116 (by kernel_rfl) (by kernel_rfl) Tryz.ntmps116.symm (by decide) (fun x r h=>(yKH x).trans h)
def ylM (a0:dA) (a1:Int):dA:=yyF a0 a1
def yrf (a0:dA) (a1:Int):Bool:=inb a1 a0.2.2.1.length
theorem yIW (a0:dA) (a1:Int) (hk:zi9 ycL (a0,a1,())) (hq:yrf a0 a1=true):yit a0 a1=(fun n=>some ((),(n,()))) (ylM a0 a1):=by
  have hq:inb a1 a0.2.2.1.length=true:=hq
  unfold yit ylM yyF yy5 yHN ytB yo
  simp only [hq,zkV,yhP,yX,yam]
  cases (a0.2.2.2.1== -1)<;>cases (a0.2.2.2.1==a1)<;>cases a0.2.2.2.2.2.2.2.2.2.2.1<;>cases a0.2.2.2.2.2.2.2.2.2.2.2<;>cases ltb a0.2.2.2.2.2.2.2.1 60000<;>rfl
def yA (a0:dA) (a1:Int):Option (ResD yhA×MutD ycL):=bif yrf a0 a1 then (fun n=>some ((),(n,()))) (ylM a0 a1) else none
theorem yJR (a0:dA) (a1:Int) (h:yrf a0 a1=true):yA a0 a1=(fun n=>some ((),(n,()))) (ylM a0 a1):=by unfold yA; rw [h]; rfl
def yul:Con:=⟨ycL,yhA,fun x=>yA x.1 x.2.1⟩
theorem yJM:ConOk Tryz.prog 116 yul:=(yGi).mono (fun x r hk h=>zkW h (fun hq=>yIW x.1 x.2.1 hk hq))
end
section
def ykF:Code:=(Tryz.f215.body).getD .skip
def yo7:Env:=zki TT [] []
theorem yIo:FrOk Tryz.prog ⟨yo7,18,fun _=>none⟩ ykF:=zkp ye yf trivial
def yxZ:Nat→Option Seg:=fun _=>none
def ybY:Shape:=⟨[(0,false,[.br tI]),(1,false,[.int .i64]),(5,false,[.int .i64])],[],[]⟩
def yf3:Shape:=⟨[(0,false,[.br tI]),(1,false,[.int .i64]),(5,false,[.ci .i64 0])],[],[]⟩
def yfM:Shape:=⟨[],[],[]⟩
def ygp:Shape:=⟨[(4,false,[.bool])],[],[]⟩
abbrev yol (v0:List Int) (v1:Int) (v2:Int):(ybY).X:=(((v0,()),(v1,()),(v2,()),()),(),())
abbrev yFI (v0:List Int) (v1:Int):(yf3).X:=(((v0,()),(v1,()),((),()),()),(),())
abbrev yFv  :(yfM).X:=((),(),())
abbrev yFV (v0:Bool):(ygp).X:=(((v0,()),()),(),())
def yoF (v0:List Int) (v1:Int) (v2:Int):Option ((ybY).X ⊕ ((yfM).X ⊕ (ygp).X)) :=
  bif (ltb v2 (v0.length:Int)) then
    bif (inb v2 v0.length) then
      bif ((nth v0 v2 0)==v1) then
        some (.inr (.inr (((true,()),()),(),())))
      else
        some (.inl (((v0,()),(v1,()),((IntKind.i64.wrap (v2+1)),()),()),(),()))
    else none
  else
    some (.inr (.inl ((),(),())))
def yco (x:(ybY).X):=yoF x.1.1.1 x.1.2.1.1 x.1.2.2.1.1
def yuC (x:(yf3).X):(ybY).X:=(((x.1.1.1,()),(x.1.2.1.1,()),(0,()),()),(),())
def ywC:Code:=(zdI ykF 64 52).getD .skip
theorem yHs:zdI ykF 64 13=some (.block 0 (.loop ywC)):=by kernel_rfl
theorem yJ8 (x:(ybY).X):zg7 ⟨yo7,18,yxZ⟩ 0 ywC 52 ybY yfM ygp x=yco x:=by kernel_rfl
def yuU (x:(yf3).X):Nat:=(fun (u0:List Int) (u1:Int)=>18446744073709551616) x.1.1.1 x.1.2.1.1
def ypn (x:(yf3).X):Option ((yfM).X ⊕ (ygp).X):=zr yco (yuU x) (yuC x)
def yvv:Seg:=⟨yf3,yfM,ygp,ypn⟩
def yx0:Nat→Option Seg:=fun q=>bif Nat.beq q 13 then some yvv else yxZ q
theorem yIp:FrOk Tryz.prog ⟨yo7,18,yx0⟩ ykF:=(yIo).loop (sg:=yvv) ybY yuC (by decide) yHs yco yuU (by decide) (fun _=>rfl) (fun x r _ h=>h) yJ8
abbrev yhs:List Par:= [.rd tL,.rd tI]
abbrev ypN:List OT:= [⟨false,tB,.fz⟩]
def yl3 (a0:List Int) (a1:Int):Option (ResD ypN×MutD yhs) :=
  zjw (ypn (((a0,()),(a1,()),((),()),()),(),())) (fun y0 =>
    some ((false,()),())) (fun y0 =>
    some ((y0.1.1.1,()),()))
theorem yOG (x:InD yhs):zjH ⟨yo7,18,yx0⟩ Tryz.f215.results.toList ykF yhs ypN x=yl3 x.1 x.2.1:=by kernel_rfl
theorem yLN:ConOk Tryz.prog 215 ⟨yhs,ypN,fun x=>yl3 x.1 x.2.1⟩:=zkh (yIp) Tryz.func215 (by kernel_rfl) (by kernel_rfl) Tryz.ntmps215.symm (by decide) (fun x r h=>(yOG x).trans h)
def yeZ (a0:List Int) (a1:Int):Bool:=a0.any (· ==a1)
theorem yNL (a0:List Int) (a1:Int) (hk:zi9 yhs (a0,a1,())):yl3 a0 a1=(fun n=>some ((n,()),())) (yeZ a0 a1):=by
  have hb:a0.length * 8≤2 ^ 47:=hk.1.1
  have h1:ypn (yFI a0 a1)=some (bif a0.all (· !=a1) then .inl yFv else .inr (yFV true)) :=
    zjS (step:=yco) a0 0 (fun i=>yol a0 a1 i) (· !=a1) _ _ (fun i hi=>by
      simp only [yco,yol,yoF,zjI (show (i:Int) < a0.length by omega),cond_true,wr (show -9223372036854775808≤(i:Int)+1 by omega) (by omega),Int.natCast_add,Int.natCast_one,Int.toNat_natCast,zkO hi,zjW,bne]
      cases (a0.getD i 0==a1)<;>rfl) (by simp only [yco,yol,yoF,zkm (Int.le_refl _),cond_false]) _ (by show _ < 18446744073709551616; omega)
  unfold yl3 yeZ
  rw [h1,show a0.any (· ==a1)= !(a0.all (· !=a1)) by simp [List.all_eq_not_any_not,bne]]
  cases a0.all (· !=a1)<;>rfl
def yq3:Con:=⟨yhs,ypN,fun x=>(fun n=>some ((n,()),())) (yeZ x.1 x.2.1)⟩
theorem yAr:ConOk Tryz.prog 215 yq3:=(yLN).mono (fun x r hk h=>(yNL x.1 x.2.1 hk).trans h)
end
section
def yfv:Code:=(Tryz.f120.body).getD .skip
def yjI:Env:=zki TT [(115,yq),(128,ygq),(214,yd5),(215,yq3)] []
theorem yBK:FrOk Tryz.prog ⟨yjI,68,fun _=>none⟩ yfv:=zkp ye yf ⟨yu,ylS,yjr,yAr,trivial⟩
def ysx:Nat→Option Seg:=fun _=>none
def yaq:Shape:=⟨[(1,false,[.int .i64]),(4,false,[.ptr 64 0]),(5,false,[.ptr 4224 0]),(6,false,[.int .i64])],[(64,[.nil,.nil,.bool,.nil]),(4224,[.at 800000000,.at 800000001,.bool,.at 800000002])],[(800000000,tL,.fz),(800000001,tW,(.pr .fz .fz)),(800000002,tI,.fz)]⟩
def ycF:Shape:=⟨[(1,false,[.int .i64]),(4,false,[.ptr 64 0]),(5,false,[.ptr 4224 0]),(6,false,[.int .i64])],[(64,[.nil,.nil,.bool,.nil]),(4224,[.at 800000000,.at 800000001,.bool,.at 800000002])],[(800000000,tL,.fz),(800000001,tW,(.pr .fz .fz)),(800000002,tI,.fz)]⟩
def ycC:Shape:=⟨[(1,false,[.int .i64]),(4,false,[.ptr 64 0]),(5,false,[.ptr 4224 0]),(6,false,[.int .i64])],[(64,[.nil,.nil,.bool,.nil]),(4224,[.at 800000000,.at 800000001,.bool,.at 800000002])],[(800000000,tL,.fz),(800000001,tW,(.pr .fz .fz)),(800000002,tI,.fz)]⟩
def ye2:Shape:=⟨[],[],[]⟩
abbrev yim (v0:Int) (v1:Int) (v2:dM) (v3:dM):(yaq).X:=(((v0,()),((),()),((),()),(v1,()),()),(((),(),v2.2.2.1,(),()),((),(),v3.2.2.1,(),()),()),(v3.1,v3.2.1,v3.2.2.2,()))
abbrev yzg (v0:Int) (v1:Int) (v2:dM) (v3:dM):(ycF).X:=(((v0,()),((),()),((),()),(v1,()),()),(((),(),v2.2.2.1,(),()),((),(),v3.2.2.1,(),()),()),(v3.1,v3.2.1,v3.2.2.2,()))
abbrev yzd (v0:Int) (v1:Int) (v2:dM) (v3:dM):(ycC).X:=(((v0,()),((),()),((),()),(v1,()),()),(((),(),v2.2.2.1,(),()),((),(),v3.2.2.1,(),()),()),(v3.1,v3.2.1,v3.2.2.2,()))
def yiB (v0:Int) (v1:Int) (v2:Bool) (v3:Bool) (v4:List (List Int)) (v5:List dW) (v6:List Int):Option ((yaq).X ⊕ ((ycC).X ⊕ (ye2).X)) :=
  bif (ltb 0 v1) then
    bif (inb (IntKind.i64.wrap (v1 - 1)) v6.length) then
      bif (ltb v0 (nth v6 (IntKind.i64.wrap (v1 - 1)) 0)) then
        bif (inb (IntKind.i64.wrap (v1 - 1)) v6.length) then
          bif (inb v1 v6.length) then
            some (.inl (((v0,()),((),()),((),()),((IntKind.i64.wrap (v1 - 1)),()),()),(((),(),v2,(),()),((),(),v3,(),()),()),(v4,v5,(v6.set (v1).toNat (nth v6 (IntKind.i64.wrap (v1 - 1)) 0)),())))
          else none
        else none
      else
        some (.inr (.inl (((v0,()),((),()),((),()),(v1,()),()),(((),(),v2,(),()),((),(),v3,(),()),()),(v4,v5,v6,()))))
    else none
  else
    some (.inr (.inl (((v0,()),((),()),((),()),(v1,()),()),(((),(),v2,(),()),((),(),v3,(),()),()),(v4,v5,v6,()))))
def yaA (x:(yaq).X):=yiB x.1.1.1 x.1.2.2.2.1.1 x.2.1.1.2.2.1 x.2.1.2.1.2.2.1 x.2.2.1 x.2.2.2.1 x.2.2.2.2.1
def yp1 (x:(ycF).X):(yaq).X:=(((x.1.1.1,()),((),()),((),()),(x.1.2.2.2.1.1,()),()),(((),(),x.2.1.1.2.2.1,(),()),((),(),x.2.1.2.1.2.2.1,(),()),()),(x.2.2.1,x.2.2.2.1,x.2.2.2.2.1,()))
def yqD:Code:=(zdI yfv 64 504).getD .skip
theorem yAx:zdI yfv 64 126=some (.block 0 (.loop yqD)):=by kernel_rfl
theorem yAQ (x:(yaq).X):zg7 ⟨yjI,68,ysx⟩ 0 yqD 504 yaq ycC ye2 x=yaA x:=by kernel_rfl
def yp5 (x:(ycF).X):Nat:=(fun (u0:Int) (u1:Int) (u2:Bool) (u3:Bool) (u4:List (List Int)) (u5:List dW) (u6:List Int)=>18446744073709551616) x.1.1.1 x.1.2.2.2.1.1 x.2.1.1.2.2.1 x.2.1.2.1.2.2.1 x.2.2.1 x.2.2.2.1 x.2.2.2.2.1
def yjz (x:(ycF).X):Option ((ycC).X ⊕ (ye2).X):=zr yaA (yp5 x) (yp1 x)
def yqx:Seg:=⟨ycF,ycC,ye2,yjz⟩
def ysy:Nat→Option Seg:=fun q=>bif Nat.beq q 126 then some yqx else ysx q
theorem yBL:FrOk Tryz.prog ⟨yjI,68,ysy⟩ yfv:=(yBK).loop (sg:=yqx) yaq yp1 (by decide) yAx yaA yp5 (by decide) (fun _=>rfl) (fun x r _ h=>h) yAQ
abbrev ydi:List Par:= [.rd tM,.rd tI]
abbrev yjR:List OT:= [⟨false,tM,(.pr (.ow .fz) (.pr (.ow (.pr .fz .fz)) (.pr .fz (.ow .fz))))⟩]
def ygY (a0:dM) (a1:Int):Option (ResD yjR×MutD ydi) :=
  let r1:=yX a0
  let r2:=y5 a0
  bif (!(!r2)) then
    let r3:=yb a1 0 (IntKind.i64.wrap ((a0.1.length:Int) - 1))
    bif (!(!r3)) then
      let r4:=yeZ a0.2.2.2 a1
      bif r4 then
        some ((r1,()),())
      else
        bif (zj4 r1.2.2.2.length ([a1]:List Int).length 8) then
          zjw (yjz (((a1,()),((),()),((),()),((IntKind.i64.wrap (((r1.2.2.2++([a1]:List Int)).length:Int) - 1)),()),()),(((),(),false,(),()),((),(),r1.2.2.1,(),()),()),(r1.1,r1.2.1,(r1.2.2.2++([a1]:List Int)),()))) (fun y4 =>
            bif (inb y4.1.2.2.2.1.1 y4.2.2.2.2.1.length) then
              some (((y4.2.2.1,y4.2.2.2.1,y4.2.1.2.1.2.2.1,(y4.2.2.2.2.1.set (y4.1.2.2.2.1.1).toNat y4.1.1.1)),()),())
            else none) (fun y4 =>
            none)
        else none
    else
      some ((r1,()),())
  else
    some ((r1,()),())
theorem yHH (x:InD ydi):zjH ⟨yjI,68,ysy⟩ Tryz.f120.results.toList yfv ydi yjR x=ygY x.1 x.2.1:=by kernel_rfl
theorem yDD:ConOk Tryz.prog 120 ⟨ydi,yjR,fun x=>ygY x.1 x.2.1⟩:=zkh (yBL) Tryz.func120 (by kernel_rfl) (by kernel_rfl) Tryz.ntmps120.symm (by decide) (fun x r h=>(yHH x).trans h)
def yi (a0:dM) (a1:Int):dM:=yrv a0 a1
theorem yKg (n:Int) (m:dM) (p:List Int) (hp: ∀ x∈p,x < n): ∀ (j:Nat) (q1 q2:List Int) (x:Int) (fuel:Nat),q1.length=j→j < fuel→(∀ y∈q1,n < y)→p.length+q1.length≤1000 →
    ∃ (x':Int) (q':List Int),q1++q2=q'∧zr yaA fuel (yim n ((p.length+q1.length:Nat):Int) yg (m.1,m.2.1,m.2.2.1,(p++q1)++x::q2))=some (.inl (yzd n (p.length:Nat) yg (m.1,m.2.1,m.2.2.1,p++x'::q')))
  | 0,q1,q2,x,fuel+1,hj,hf,hq,hb=>by
    have:q1= []:=List.length_eq_zero_iff.1 hj
    subst this
    refine ⟨x,q2,rfl,?_⟩
    simp only [zr,yaA,yim,yiB,List.length_nil,Nat.add_zero,List.append_nil]
    rcases List.eq_nil_or_concat p with rfl | ⟨P,y,rfl⟩
    · rfl
    · have hy:=hp y (by simp)
      simp only [List.concat_eq_append,List.length_append,List.length_cons,List.length_nil,List.append_assoc,List.cons_append,List.nil_append]at hb ⊢
      rw [zjI (show (0:Int) < ((P.length+(0+1):Nat):Int) by omega),wr (show -9223372036854775808≤((P.length+(0+1):Nat):Int) - 1 by omega) (by omega),show ((P.length+(0+1):Nat):Int) - 1=(P.length:Nat) by omega,
        zkO (by simp),zjW,yPv,zkm (show y≤n by omega)]
      rfl
  | j+1,q1,q2,x,fuel+1,hj,hf,hq,hb=>by
    rcases List.eq_nil_or_concat q1 with rfl | ⟨Q,y,rfl⟩
    · cases hj
    · rw [List.concat_eq_append]at hj hq hb ⊢
      have hQ:Q.length=j:=by simpa using hj
      have hy:=hq y (by simp)
      obtain ⟨x',q',e1,e2⟩:=yKg n m p hp j Q (y::q2) y fuel hQ (by omega) (fun z hz=>hq z (by simp [hz])) (by simp at hb; omega)
      refine ⟨x',q',by rw [← e1]; simp,?_⟩
      rw [← e2]
      have ea:((p++(Q++ [y]))++x::q2)=(p++Q)++y::x::q2:=by simp
      have el:p.length+(Q++ [y]).length=(p++Q).length+1:=by simp; omega
      have el2:p.length+Q.length=(p++Q).length:=by simp
      have hb2:(p++Q).length≤1000:=by simp at hb ⊢; omega
      rw [ea,el,el2]
      generalize p++Q=A at hb2
      rw [zr]
      simp only [yaA,yim,yiB]
      have es:(A++y::x::q2).set (A.length+1) y=A++y::y::q2:=by
        have:=yPA (A++ [y]) x y q2
        simp at this ⊢
      rw [zjI (show (0:Int) < ((A.length+1:Nat):Int) by omega),wr (show -9223372036854775808≤((A.length+1:Nat):Int) - 1 by omega) (by omega),show ((A.length+1:Nat):Int) - 1=(A.length:Nat) by omega,zkO (show A.length < (A++y::x::q2).length by simp),zjW,yPv,zjI hy,
        zkO (show A.length+1 < (A++y::x::q2).length by simp),Int.toNat_natCast,es]
      rfl
theorem yF4 (a0:dM) (a1:Int) (hk:zi9 ydi (a0,a1,())):ygY a0 a1=(fun n=>some ((n,()),())) (yi a0 a1):=by
  unfold ygY yi yrv
  simp only [yX,y5,yaL,yeZ]
  cases hm:yz a0
  · rfl
  obtain ⟨h1,h2,h3,h4,h5,h6⟩:=yaI hm
  rw [yh1]at h3
  have hlen:=yyj h3.2 (lo:=0) (n:=a0.1.length) h3.1 (by omega)
  rw [wr (show -9223372036854775808≤(a0.1.length:Int) - 1 by omega) (by omega)]
  have hi:(leb 0 a1&&leb a1 ((a0.1.length:Int) - 1))=inb a1 a0.1.length:=by
    rw [Bool.eq_iff_iff,Bool.and_eq_true,zjQ,zjQ,zjP]; omega
  rw [hi]
  cases hin:inb a1 a0.1.length
  · rfl
  cases hh:a0.2.2.2.any (· ==a1)
  · have hn:a1∉a0.2.2.2:=fun h=>by
      have:=List.any_eq_false.1 hh a1 h
      simp at this
    have hsp:=yO4 h3.2 hn
    have hp: ∀ x∈a0.2.2.2.filter (fun x=>ltb x a1),x < a1:=fun x hx=>zjT.1 (List.mem_filter.1 hx).2
    have hq: ∀ x∈a0.2.2.2.filter (fun x=>ltb a1 x),a1 < x:=fun x hx=>zjT.1 (List.mem_filter.1 hx).2
    unfold yIE
    generalize a0.2.2.2.filter (fun x=>ltb x a1)=P at hsp hp
    generalize a0.2.2.2.filter (fun x=>ltb a1 x)=Q at hsp hq
    have hPQ:P.length+Q.length=a0.2.2.2.length:=by rw [hsp,List.length_append]
    obtain ⟨x',q',e1,e2⟩:=yKg a1 a0 P hp Q.length Q [] a1 18446744073709551616 rfl (by omega) hq (by omega)
    rw [List.append_nil]at e1
    subst e1
    simp only [cond_true,cond_false,Bool.not_true,Bool.not_false,Bool.and_self]
    rw [zkw.2 (show (a0.2.2.2.length+ [a1].length) * 8≤140737488355328 by simp only [List.length_cons,List.length_nil]; omega),wr (show -9223372036854775808≤((a0.2.2.2++ [a1]).length:Int) - 1 by omega) (by simp only [List.length_append,List.length_cons,List.length_nil]; omega),
      show ((a0.2.2.2++ [a1]).length:Int) - 1=((P.length+Q.length:Nat):Int) by simp only [List.length_append,List.length_cons,List.length_nil]; omega,hsp,cond_true]
    refine (congrArg (fun z=>zjw z _ _) (show yjz (yzg a1 ((P.length+Q.length:Nat):Int) yg (a0.1,a0.2.1,a0.2.2.1,(P++Q)++ [a1]))=_ from e2)).trans ?_
    simp only [zkJ]
    show (bif inb (P.length:Int) (P++x'::Q).length then some (((a0.1,a0.2.1,a0.2.2.1,(P++x'::Q).set (P.length:Int).toNat a1),()),()) else none)=_
    rw [zkO (by simp),Int.toNat_natCast,yPA]; rfl
  · rfl
def ymm:Con:=⟨ydi,yjR,fun x=>(fun n=>some ((n,()),())) (yi x.1 x.2.1)⟩
theorem yvc:ConOk Tryz.prog 120 ymm:=(yDD).mono (fun x r hk h=>(yF4 x.1 x.2.1 hk).trans h)
end
section
def yzM:Code:=(Tryz.f132.body).getD .skip
def yAd:Env:=zki TT [(124,yD)] []
theorem yEZ:FrOk Tryz.prog ⟨yAd,9,fun _=>none⟩ yzM:=zkp ye yf ⟨yL,trivial⟩
def yG8:Nat→Option Seg:=fun _=>none
abbrev yi0:List Par:= [.pt tU .fz,.rd tI]
abbrev ynA:List OT:= [⟨false,tB,.fz⟩]
def yc (a0:dU) (a1:Int):Option (ResD ynA×MutD yi0) :=
  bnd (ya a0 a1) fun r1 =>
  some (((r1.1.1==0),()),(r1.2.1,()))
theorem yNf (x:InD yi0):zjH ⟨yAd,9,yG8⟩ Tryz.f132.results.toList yzM yi0 ynA x=yc x.1 x.2.1:=by kernel_rfl
theorem yJr:ConOk Tryz.prog 132 ⟨yi0,ynA,fun x=>yc x.1 x.2.1⟩:=zkh (yEZ) Tryz.func132 (by kernel_rfl) (by kernel_rfl) Tryz.ntmps132.symm (by decide) (fun x r h=>(yNf x).trans h)
def ywW:Con:=⟨yi0,ynA,fun x=>yc x.1 x.2.1⟩
theorem yMc:ConOk Tryz.prog 132 ywW:=yJr
theorem yPu (u:dU) (n:Int) (h:yM u): ∃ (r:Bool) (u':dU),yc u n=some ((r,()),(u',()))∧yM u':=by
  unfold yc
  obtain ⟨r,u1,e1,_,d1⟩:=yB u n h
  simp only [e1,zky]
  exact ⟨_,_,rfl,d1⟩
end
end
end Go.Tf
