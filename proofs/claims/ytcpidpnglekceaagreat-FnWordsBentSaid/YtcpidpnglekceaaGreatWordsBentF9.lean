/- Functions of the program, and what they come to. -/
import Derived.Test.YtcpidpnglekceaaGreatWordsBentF8
namespace Go.Tf
noncomputable section
open Go.Proofs
set_option synthInstance.maxHeartbeats 400000
set_option synthInstance.maxSize 10000
set_option linter.unusedVariables false
set_option linter.unusedSimpArgs false
set_option maxRecDepth 100000
section
def ykG:Code:=(Tryz.f227.body).getD .skip
def yo8:Env:=zki TT [(138,ywU),(249,yhJ),(251,yj9),(258,ywT)] []
theorem yIv:FrOk Tryz.prog ⟨yo8,24,fun _=>none⟩ ykG:=zkp ye yf ⟨yMa,ynR,yrb,yL9,trivial⟩
def yx1:Nat→Option Seg:=fun _=>none
def yb0:Shape:=⟨[(0,false,[.ptr 1000000000 0]),(3,false,[.ptr 0 0]),(4,false,[.int .i64])],[(0,[.int .i64,.int .i64,.br tI]),(1000000000,[.int .i64,.int .i64,.int .i64,.at 800000000,.int .i64,.int .i64,.int .i64,.int .i64,.int .i64,.at 800000001,.int .i64,.bool,.bool])],[(800000000,tM,(.pr (.ow .fz) (.pr (.ow (.pr .fz .fz)) (.pr .fz (.ow .fz))))),(800000001,tW,(.pr .fz .fz))]⟩
def yf5:Shape:=⟨[(0,false,[.ptr 1000000000 0]),(3,false,[.ptr 0 0]),(4,false,[.ci .i64 0])],[(0,[.int .i64,.int .i64,.br tI]),(1000000000,[.int .i64,.int .i64,.int .i64,.at 800000000,.int .i64,.int .i64,.int .i64,.int .i64,.int .i64,.at 800000001,.int .i64,.bool,.bool])],[(800000000,tM,(.pr (.ow .fz) (.pr (.ow (.pr .fz .fz)) (.pr .fz (.ow .fz))))),(800000001,tW,(.pr .fz .fz))]⟩
def yfO:Shape:=⟨[(0,false,[.ptr 1000000000 0])],[(1000000000,[.int .i64,.int .i64,.int .i64,.at 800000000,.int .i64,.int .i64,.int .i64,.int .i64,.int .i64,.at 800000001,.int .i64,.bool,.bool])],[(800000000,tM,(.pr (.ow .fz) (.pr (.ow (.pr .fz .fz)) (.pr .fz (.ow .fz))))),(800000001,tW,(.pr .fz .fz))]⟩
def yj0:Shape:=⟨[],[],[]⟩
abbrev yon (v0:Int) (v1:dN) (v2:dA):(yb0).X:=((((),()),((),()),(v0,()),()),((v1.1,v1.2.1,v1.2.2,()),(v2.1,v2.2.1.1,v2.2.1.2,(),v2.2.2.2.1,v2.2.2.2.2.1,v2.2.2.2.2.2.1,v2.2.2.2.2.2.2.1,v2.2.2.2.2.2.2.2.1,(),v2.2.2.2.2.2.2.2.2.2.1,v2.2.2.2.2.2.2.2.2.2.2.1,v2.2.2.2.2.2.2.2.2.2.2.2,()),()),(v2.2.2.1,v2.2.2.2.2.2.2.2.2.1,()))
abbrev yFK (v0:dN) (v1:dA):(yf5).X:=((((),()),((),()),((),()),()),((v0.1,v0.2.1,v0.2.2,()),(v1.1,v1.2.1.1,v1.2.1.2,(),v1.2.2.2.1,v1.2.2.2.2.1,v1.2.2.2.2.2.1,v1.2.2.2.2.2.2.1,v1.2.2.2.2.2.2.2.1,(),v1.2.2.2.2.2.2.2.2.2.1,v1.2.2.2.2.2.2.2.2.2.2.1,v1.2.2.2.2.2.2.2.2.2.2.2,()),()),(v1.2.2.1,v1.2.2.2.2.2.2.2.2.1,()))
abbrev yu7 (v0:dA):(yfO).X:=((((),()),()),((v0.1,v0.2.1.1,v0.2.1.2,(),v0.2.2.2.1,v0.2.2.2.2.1,v0.2.2.2.2.2.1,v0.2.2.2.2.2.2.1,v0.2.2.2.2.2.2.2.1,(),v0.2.2.2.2.2.2.2.2.2.1,v0.2.2.2.2.2.2.2.2.2.2.1,v0.2.2.2.2.2.2.2.2.2.2.2,()),()),(v0.2.2.1,v0.2.2.2.2.2.2.2.2.1,()))
def yoH (v0:Int) (v1:Int) (v2:Int) (v3:List Int) (v4:Int) (v5:Int) (v6:Int) (v7:Int) (v8:Int) (v9:Int) (v10:Int) (v11:Int) (v12:Int) (v13:Bool) (v14:Bool) (v15:List dM) (v16:List dW):Option ((yb0).X ⊕ ((yfO).X ⊕ (yj0).X)) :=
  bif (ltb v0 (v15.length:Int)) then
    let r4:=yjn v1
    let r5:=yjm (v1,v2,v3)
    bnd (ydb (v4,(v5,v6),v15,v7,v8,v9,v10,v11,v16,v12,v13,v14) v0 r4 r5) fun r6 =>
    some (.inl ((((),()),((),()),((IntKind.i64.wrap (v0+1)),()),()),((v1,v2,v3,()),(r6.2.1.1,r6.2.1.2.1.1,r6.2.1.2.1.2,(),r6.2.1.2.2.2.1,r6.2.1.2.2.2.2.1,r6.2.1.2.2.2.2.2.1,r6.2.1.2.2.2.2.2.2.1,r6.2.1.2.2.2.2.2.2.2.1,(),r6.2.1.2.2.2.2.2.2.2.2.2.1,r6.2.1.2.2.2.2.2.2.2.2.2.2.1,r6.2.1.2.2.2.2.2.2.2.2.2.2.2,()),()),(r6.2.1.2.2.1,r6.2.1.2.2.2.2.2.2.2.2.1,())))
  else
    some (.inr (.inl ((((),()),()),((v4,v5,v6,(),v7,v8,v9,v10,v11,(),v12,v13,v14,()),()),(v15,v16,()))))
def ycq (x:(yb0).X):=yoH x.1.2.2.1.1 x.2.1.1.1 x.2.1.1.2.1 x.2.1.1.2.2.1 x.2.1.2.1.1 x.2.1.2.1.2.1 x.2.1.2.1.2.2.1 x.2.1.2.1.2.2.2.2.1 x.2.1.2.1.2.2.2.2.2.1 x.2.1.2.1.2.2.2.2.2.2.1 x.2.1.2.1.2.2.2.2.2.2.2.1 x.2.1.2.1.2.2.2.2.2.2.2.2.1 x.2.1.2.1.2.2.2.2.2.2.2.2.2.2.1 x.2.1.2.1.2.2.2.2.2.2.2.2.2.2.2.1 x.2.1.2.1.2.2.2.2.2.2.2.2.2.2.2.2.1 x.2.2.1 x.2.2.2.1
def yuE (x:(yf5).X):(yb0).X:=((((),()),((),()),(0,()),()),((x.2.1.1.1,x.2.1.1.2.1,x.2.1.1.2.2.1,()),(x.2.1.2.1.1,x.2.1.2.1.2.1,x.2.1.2.1.2.2.1,(),x.2.1.2.1.2.2.2.2.1,x.2.1.2.1.2.2.2.2.2.1,x.2.1.2.1.2.2.2.2.2.2.1,x.2.1.2.1.2.2.2.2.2.2.2.1,x.2.1.2.1.2.2.2.2.2.2.2.2.1,(),x.2.1.2.1.2.2.2.2.2.2.2.2.2.2.1,x.2.1.2.1.2.2.2.2.2.2.2.2.2.2.2.1,x.2.1.2.1.2.2.2.2.2.2.2.2.2.2.2.2.1,()),()),(x.2.2.1,x.2.2.2.1,()))
def ywE:Code:=(zdI ykG 64 52).getD .skip
theorem yHu:zdI ykG 64 13=some (.block 0 (.loop ywE)):=by kernel_rfl
theorem yKa (x:(yb0).X):zg7 ⟨yo8,24,yx1⟩ 0 ywE 52 yb0 yfO yj0 x=ycq x:=by kernel_rfl
def yuW (x:(yf5).X):Nat:=(fun (u0:Int) (u1:Int) (u2:List Int) (u3:Int) (u4:Int) (u5:Int) (u6:Int) (u7:Int) (u8:Int) (u9:Int) (u10:Int) (u11:Int) (u12:Bool) (u13:Bool) (u14:List dM) (u15:List dW)=>18446744073709551616) x.2.1.1.1 x.2.1.1.2.1 x.2.1.1.2.2.1 x.2.1.2.1.1 x.2.1.2.1.2.1 x.2.1.2.1.2.2.1 x.2.1.2.1.2.2.2.2.1 x.2.1.2.1.2.2.2.2.2.1 x.2.1.2.1.2.2.2.2.2.2.1 x.2.1.2.1.2.2.2.2.2.2.2.1 x.2.1.2.1.2.2.2.2.2.2.2.2.1 x.2.1.2.1.2.2.2.2.2.2.2.2.2.2.1 x.2.1.2.1.2.2.2.2.2.2.2.2.2.2.2.1 x.2.1.2.1.2.2.2.2.2.2.2.2.2.2.2.2.1 x.2.2.1 x.2.2.2.1
def ypp (x:(yf5).X):Option ((yfO).X ⊕ (yj0).X):=zr ycq (yuW x) (yuE x)
def yvx:Seg:=⟨yf5,yfO,yj0,ypp⟩
def yx2:Nat→Option Seg:=fun q=>bif Nat.beq q 13 then some yvx else yx1 q
theorem yIw:FrOk Tryz.prog ⟨yo8,24,yx2⟩ ykG:=(yIv).loop (sg:=yvx) yb0 yuE (by decide) yHu ycq yuW (by decide) (fun _=>rfl) (fun x r _ h=>h) yKa
abbrev yhu:List Par:= [.pt tA (.pr .fz (.pr (.pr .fz .fz) (.pr (.ow (.pr (.ow .fz) (.pr (.ow (.pr .fz .fz)) (.pr .fz (.ow .fz))))) (.pr .fz (.pr .fz (.pr .fz (.pr .fz (.pr .fz (.pr (.ow (.pr .fz .fz)) (.pr .fz (.pr .fz .fz))))))))))),.rd tN]
abbrev ypS:List OT:= []
def yl5 (a0:dA) (a1:dN):Option (ResD ypS×MutD yhu) :=
  zjw (ypp ((((),()),((),()),((),()),()),((a1.1,a1.2.1,a1.2.2,()),(a0.1,a0.2.1.1,a0.2.1.2,(),a0.2.2.2.1,a0.2.2.2.2.1,a0.2.2.2.2.2.1,a0.2.2.2.2.2.2.1,a0.2.2.2.2.2.2.2.1,(),a0.2.2.2.2.2.2.2.2.2.1,a0.2.2.2.2.2.2.2.2.2.2.1,a0.2.2.2.2.2.2.2.2.2.2.2,()),()),(a0.2.2.1,a0.2.2.2.2.2.2.2.2.1,()))) (fun y6 =>
    let r8:=ycx (y6.2.1.1.1,(y6.2.1.1.2.1,y6.2.1.1.2.2.1),y6.2.2.1,y6.2.1.1.2.2.2.2.1,y6.2.1.1.2.2.2.2.2.1,y6.2.1.1.2.2.2.2.2.2.1,y6.2.1.1.2.2.2.2.2.2.2.1,y6.2.1.1.2.2.2.2.2.2.2.2.1,y6.2.2.2.1,y6.2.1.1.2.2.2.2.2.2.2.2.2.2.1,y6.2.1.1.2.2.2.2.2.2.2.2.2.2.2.1,y6.2.1.1.2.2.2.2.2.2.2.2.2.2.2.2.1)
    some ((),(r8,()))) (fun y6 =>
    none)
theorem yOM (x:InD yhu):zjH ⟨yo8,24,yx2⟩ Tryz.f227.results.toList ykG yhu ypS x=yl5 x.1 x.2.1:=by kernel_rfl
theorem yLT:ConOk Tryz.prog 227 ⟨yhu,ypS,fun x=>yl5 x.1 x.2.1⟩:=zkh (yIw) Tryz.func227 (by kernel_rfl) (by kernel_rfl) Tryz.ntmps227.symm (by decide) (fun x r h=>(yOM x).trans h)
def yhV (a0:dA) (a1:dN):dA:=ygD a0 a1
theorem yNN (a0:dA) (a1:dN) (hk:zi9 yhu (a0,a1,())):yl5 a0 a1=(fun n=>some ((),(n,()))) (yhV a0 a1):=by
  have hb:a0.2.2.1.length * 80≤2 ^ 47:=hk.1.2.2.1.1
  have h1:ypp (yFK a1 a0)=some (.inl (yu7 ((List.range a0.2.2.1.length).foldl (yr8 a1) a0))) :=
    zks (step:=ycq) a0.2.2.1.length (fun i s=>yon i a1 s) (yr8 a1) (fun _ s=>s.2.2.1.length=a0.2.2.1.length) (fun s=> .inl (yu7 s)) (fun i s hi hs=>⟨by
      simp only [ycq,yon,yoH,hs,zjI (show (i:Int) < a0.2.2.1.length by omega),cond_true,wr (show -9223372036854775808≤(i:Int)+1 by omega) (by omega),Int.natCast_add,Int.natCast_one,Int.toNat_natCast,zkV,yjm]
      rw [yjs s i (yjn a1.1) (yJV a1) (zkO (by rw [hs]; exact hi))]
      rfl,(yqu a1 s i).trans hs⟩) (fun s hs=>by simp only [ycq,yon,yoH,hs,zkm (Int.le_refl _),cond_false]) a0 rfl _ (by show _ < 18446744073709551616; omega)
  unfold yl5 yhV ygD
  exact (congrArg (fun z=>zjw z _ _) h1).trans rfl
def yyz:Con:=⟨yhu,ypS,fun x=>(fun n=>some ((),(n,()))) (yhV x.1 x.2.1)⟩
theorem yN6:ConOk Tryz.prog 227 yyz:=(yLT).mono (fun x r hk h=>(yNN x.1 x.2.1 hk).trans h)
end
section
def ykB:Code:=(Tryz.f278.body).getD .skip
def yo3:Env:=zki TT [] []
theorem yIe:FrOk Tryz.prog ⟨yo3,18,fun _=>none⟩ ykB:=zkp ye yf trivial
def yxR:Nat→Option Seg:=fun _=>none
def ybW:Shape:=⟨[(0,false,[.br tI]),(3,false,[.int .i64]),(4,false,[.int .i64])],[],[]⟩
def yf1:Shape:=⟨[(0,false,[.br tI]),(3,false,[.ci .i64 0]),(4,false,[.ci .i64 0])],[],[]⟩
def yfK:Shape:=⟨[(3,false,[.int .i64])],[],[]⟩
def yjW:Shape:=⟨[],[],[]⟩
abbrev yoj (v0:List Int) (v1:Int) (v2:Int):(ybW).X:=(((v0,()),(v1,()),(v2,()),()),(),())
abbrev yFG (v0:List Int):(yf1).X:=(((v0,()),((),()),((),()),()),(),())
abbrev yu5 (v0:Int):(yfK).X:=(((v0,()),()),(),())
def yoD (v0:List Int) (v1:Int) (v2:Int):Option ((ybW).X ⊕ ((yfK).X ⊕ (yjW).X)) :=
  bif (ltb v2 (v0.length:Int)) then
    bif (inb v2 v0.length) then
      some (.inl (((v0,()),((IntKind.i64.wrap ((BitVec.ofInt IntKind.i64.bits v1 ^^^ BitVec.ofInt IntKind.i64.bits (nth v0 v2 0)).toNat:Int)),()),((IntKind.i64.wrap (v2+1)),()),()),(),()))
    else none
  else
    some (.inr (.inl (((v1,()),()),(),())))
def ycm (x:(ybW).X):=yoD x.1.1.1 x.1.2.1.1 x.1.2.2.1.1
def yuz (x:(yf1).X):(ybW).X:=(((x.1.1.1,()),(0,()),(0,()),()),(),())
def ywz:Code:=(zdI ykB 64 116).getD .skip
theorem yHp:zdI ykB 64 29=some (.block 0 (.loop ywz)):=by kernel_rfl
theorem yJ5 (x:(ybW).X):zg7 ⟨yo3,18,yxR⟩ 0 ywz 116 ybW yfK yjW x=ycm x:=by kernel_rfl
def yuR (x:(yf1).X):Nat:=(fun (u0:List Int)=>18446744073709551616) x.1.1.1
def ypk (x:(yf1).X):Option ((yfK).X ⊕ (yjW).X):=zr ycm (yuR x) (yuz x)
def yvs:Seg:=⟨yf1,yfK,yjW,ypk⟩
def yxS:Nat→Option Seg:=fun q=>bif Nat.beq q 29 then some yvs else yxR q
theorem yIf:FrOk Tryz.prog ⟨yo3,18,yxS⟩ ykB:=(yIe).loop (sg:=yvs) ybW yuz (by decide) yHp ycm yuR (by decide) (fun _=>rfl) (fun x r _ h=>h) yJ5
abbrev yhp:List Par:= [.rd tL]
abbrev ypH:List OT:= [⟨false,tI,.fz⟩]
def yl2 (a0:List Int):Option (ResD ypH×MutD yhp) :=
  zjw (ypk (((a0,()),((),()),((),()),()),(),())) (fun y0 =>
    some ((y0.1.1.1,()),())) (fun y0 =>
    none)
theorem yOA (x:InD yhp):zjH ⟨yo3,18,yxS⟩ Tryz.f278.results.toList ykB yhp ypH x=yl2 x.1:=by kernel_rfl
theorem yLH:ConOk Tryz.prog 278 ⟨yhp,ypH,fun x=>yl2 x.1⟩:=zkh (yIf) Tryz.func278 (by kernel_rfl) (by kernel_rfl) Tryz.ntmps278.symm (by decide) (fun x r h=>(yOA x).trans h)
def yhS (a0:List Int):Int:=yiD a0
theorem yNJ (a0:List Int) (hk:zi9 yhp (a0,())):yl2 a0=(fun n=>some ((n,()),())) (yhS a0):=by
  have hb:a0.length * 8≤2 ^ 47:=hk.1.1
  have h1:ypk (yFG a0)=some (.inl (yu5 (yiD a0))) :=
    zkk (step:=ycm) a0 0 (fun i s=>yoj a0 s i) xw (fun _ _=>True) (fun s=> .inl (yu5 s)) (fun i s hi _=>⟨by
      simp only [ycm,yoj,yoD,zjI (show (i:Int) < a0.length by omega),cond_true,wr (show -9223372036854775808≤(i:Int)+1 by omega) (by omega),Int.natCast_add,Int.natCast_one,Int.toNat_natCast,zkO hi,zjW]; rfl,trivial⟩) (fun s _=>by simp only [ycm,yoj,yoD,zkm (Int.le_refl _),cond_false]) 0 trivial _ (by show _ < 18446744073709551616; omega)
  unfold yl2 yhS
  rw [h1]; rfl
def yys:Con:=⟨yhp,ypH,fun x=>(fun n=>some ((n,()),())) (yhS x.1)⟩
theorem yNZ:ConOk Tryz.prog 278 yys:=(yLH).mono (fun x r hk h=>(yNJ x.1 hk).trans h)
end
section
def yss:Code:=(Tryz.f260.body).getD .skip
def ysz:Env:=zki TT [(278,yys)] []
theorem yy7:FrOk Tryz.prog ⟨ysz,5,fun _=>none⟩ yss:=zkp ye yf ⟨yNZ,trivial⟩
def yAv:Nat→Option Seg:=fun _=>none
abbrev ydy:List Par:= [.rd tL]
abbrev ygL:List OT:= [⟨false,tI,.fz⟩]
def yjC (a0:List Int):Option (ResD ygL×MutD ydy) :=
  let r1:=yhS a0
  some ((r1,()),())
theorem yCJ (x:InD ydy):zjH ⟨ysz,5,yAv⟩ Tryz.f260.results.toList yss ydy ygL x=yjC x.1:=by kernel_rfl
theorem yAK:ConOk Tryz.prog 260 ⟨ydy,ygL,fun x=>yjC x.1⟩:=zkh (yy7) Tryz.func260 (by kernel_rfl) (by kernel_rfl) Tryz.ntmps260.symm (by decide) (fun x r h=>(yCJ x).trans h)
def ygS (a0:List Int):Int :=
  let r1:=yhS a0
  r1
def yqF:Con:=⟨ydy,ygL,fun x=>(fun n=>some ((n,()),())) (ygS x.1)⟩
theorem yB7 (a0:List Int):yjC a0=(fun n=>some ((n,()),())) (ygS a0):=zkS (p:=fun (n:Int)=>((n,()),())) rfl
theorem yCc:ConOk Tryz.prog 260 yqF:=(yAK).mono (fun x r _ h=>(yB7 x.1).trans h)
end
section
def yiM:Code:=(Tryz.f228.body).getD .skip
def ynb:Env:=zki TT [(85,ypW),(121,yb3),(249,yhJ),(259,ymk),(260,yqF)] []
theorem yFh:FrOk Tryz.prog ⟨ynb,61,fun _=>none⟩ yiM:=zkp ye yf ⟨yyR,yea,ynR,yva,yCc,trivial⟩
def yv8:Nat→Option Seg:=fun _=>none
def ybZ:Shape:=⟨[(0,false,[.ptr 1000000000 0]),(1,false,[.int .i64]),(2,false,[.br tI]),(6,false,[.int .i64]),(7,false,[.int .i64])],[(1000000000,[.int .i64,.int .i64,.int .i64,.at 800000000,.int .i64,.int .i64,.int .i64,.int .i64,.int .i64,.at 800000001,.int .i64,.bool,.bool])],[(800000000,tM,(.pr (.ow .fz) (.pr (.ow (.pr .fz .fz)) (.pr .fz (.ow .fz))))),(800000001,tW,(.pr .fz .fz))]⟩
def yf4:Shape:=⟨[(0,false,[.ptr 1000000000 0]),(1,false,[.int .i64]),(2,false,[.br tI]),(6,false,[.int .i64]),(7,false,[.ci .i64 0])],[(1000000000,[.int .i64,.int .i64,.int .i64,.at 800000000,.int .i64,.int .i64,.int .i64,.int .i64,.int .i64,.at 800000001,.int .i64,.bool,.bool])],[(800000000,tM,(.pr (.ow .fz) (.pr (.ow (.pr .fz .fz)) (.pr .fz (.ow .fz))))),(800000001,tW,(.pr .fz .fz))]⟩
def yfN:Shape:=⟨[],[(1000000000,[.int .i64,.int .i64,.int .i64,.at 800000000,.int .i64,.int .i64,.int .i64,.int .i64,.int .i64,.at 800000001,.int .i64,.bool,.bool])],[(800000000,tM,(.pr (.ow .fz) (.pr (.ow (.pr .fz .fz)) (.pr .fz (.ow .fz))))),(800000001,tW,(.pr .fz .fz))]⟩
def yjZ:Shape:=⟨[],[],[]⟩
abbrev yom (v0:Int) (v1:List Int) (v2:Int) (v3:Int) (v4:dA):(ybZ).X:=((((),()),(v0,()),(v1,()),(v2,()),(v3,()),()),((v4.1,v4.2.1.1,v4.2.1.2,(),v4.2.2.2.1,v4.2.2.2.2.1,v4.2.2.2.2.2.1,v4.2.2.2.2.2.2.1,v4.2.2.2.2.2.2.2.1,(),v4.2.2.2.2.2.2.2.2.2.1,v4.2.2.2.2.2.2.2.2.2.2.1,v4.2.2.2.2.2.2.2.2.2.2.2,()),()),(v4.2.2.1,v4.2.2.2.2.2.2.2.2.1,()))
abbrev yFJ (v0:Int) (v1:List Int) (v2:Int) (v3:dA):(yf4).X:=((((),()),(v0,()),(v1,()),(v2,()),((),()),()),((v3.1,v3.2.1.1,v3.2.1.2,(),v3.2.2.2.1,v3.2.2.2.2.1,v3.2.2.2.2.2.1,v3.2.2.2.2.2.2.1,v3.2.2.2.2.2.2.2.1,(),v3.2.2.2.2.2.2.2.2.2.1,v3.2.2.2.2.2.2.2.2.2.2.1,v3.2.2.2.2.2.2.2.2.2.2.2,()),()),(v3.2.2.1,v3.2.2.2.2.2.2.2.2.1,()))
abbrev yu6 (v0:dA):(yfN).X:=((),((v0.1,v0.2.1.1,v0.2.1.2,(),v0.2.2.2.1,v0.2.2.2.2.1,v0.2.2.2.2.2.1,v0.2.2.2.2.2.2.1,v0.2.2.2.2.2.2.2.1,(),v0.2.2.2.2.2.2.2.2.2.1,v0.2.2.2.2.2.2.2.2.2.2.1,v0.2.2.2.2.2.2.2.2.2.2.2,()),()),(v0.2.2.1,v0.2.2.2.2.2.2.2.2.1,()))
def yoG (v0:Int) (v1:List Int) (v2:Int) (v3:Int) (v4:Int) (v5:Int) (v6:Int) (v7:Int) (v8:Int) (v9:Int) (v10:Int) (v11:Int) (v12:Int) (v13:Bool) (v14:Bool) (v15:List dM) (v16:List dW):Option ((ybZ).X ⊕ ((yfN).X ⊕ (yjZ).X)) :=
  bif (ltb v3 (v15.length:Int)) then
    let r9:=ygS v1
    bif (v3 !=v2) then
      bif (v5 !=0) then
        bif (inb ((IntKind.i64.wrap ((IntKind.i64.wrap ((IntKind.i64.wrap (v3 - v2)) - 1))+v5)).tmod v5) v1.length) then
          let r10:=ycw (v4,(v5,v6),v15,v7,v8,v9,v10,v11,v16,v12,v13,v14) v3 v0
          bif r10 then
            let r11:=yh v0
            bnd (ydb (v4,(v5,v6),v15,v7,v8,v9,v10,v11,v16,v12,v13,v14) v3 r11 ([(nth v1 ((IntKind.i64.wrap ((IntKind.i64.wrap ((IntKind.i64.wrap (v3 - v2)) - 1))+v5)).tmod v5) 0)]:List Int)) fun r12 =>
            some (.inl ((((),()),(v0,()),(v1,()),(v2,()),((IntKind.i64.wrap (v3+1)),()),()),((r12.2.1.1,r12.2.1.2.1.1,r12.2.1.2.1.2,(),r12.2.1.2.2.2.1,r12.2.1.2.2.2.2.1,r12.2.1.2.2.2.2.2.1,r12.2.1.2.2.2.2.2.2.1,r12.2.1.2.2.2.2.2.2.2.1,(),r12.2.1.2.2.2.2.2.2.2.2.2.1,r12.2.1.2.2.2.2.2.2.2.2.2.2.1,r12.2.1.2.2.2.2.2.2.2.2.2.2.2,()),()),(r12.2.1.2.2.1,r12.2.1.2.2.2.2.2.2.2.2.1,())))
          else
            some (.inl ((((),()),(v0,()),(v1,()),(v2,()),((IntKind.i64.wrap (v3+1)),()),()),((v4,v5,v6,(),v7,v8,v9,v10,v11,(),v12,v13,v14,()),()),(v15,v16,())))
        else none
      else none
    else
      let r13:=ycw (v4,(v5,v6),v15,v7,v8,v9,v10,v11,v16,v12,v13,v14) v3 v0
      bif r13 then
        let r14:=yh v0
        bnd (ydb (v4,(v5,v6),v15,v7,v8,v9,v10,v11,v16,v12,v13,v14) v3 r14 ([r9]:List Int)) fun r15 =>
        some (.inl ((((),()),(v0,()),(v1,()),(v2,()),((IntKind.i64.wrap (v3+1)),()),()),((r15.2.1.1,r15.2.1.2.1.1,r15.2.1.2.1.2,(),r15.2.1.2.2.2.1,r15.2.1.2.2.2.2.1,r15.2.1.2.2.2.2.2.1,r15.2.1.2.2.2.2.2.2.1,r15.2.1.2.2.2.2.2.2.2.1,(),r15.2.1.2.2.2.2.2.2.2.2.2.1,r15.2.1.2.2.2.2.2.2.2.2.2.2.1,r15.2.1.2.2.2.2.2.2.2.2.2.2.2,()),()),(r15.2.1.2.2.1,r15.2.1.2.2.2.2.2.2.2.2.1,())))
      else
        some (.inl ((((),()),(v0,()),(v1,()),(v2,()),((IntKind.i64.wrap (v3+1)),()),()),((v4,v5,v6,(),v7,v8,v9,v10,v11,(),v12,v13,v14,()),()),(v15,v16,())))
  else
    some (.inr (.inl ((),((v4,v5,v6,(),v7,v8,v9,v10,v11,(),v12,v13,v14,()),()),(v15,v16,()))))
def ycp (x:(ybZ).X):=yoG x.1.2.1.1 x.1.2.2.1.1 x.1.2.2.2.1.1 x.1.2.2.2.2.1.1 x.2.1.1.1 x.2.1.1.2.1 x.2.1.1.2.2.1 x.2.1.1.2.2.2.2.1 x.2.1.1.2.2.2.2.2.1 x.2.1.1.2.2.2.2.2.2.1 x.2.1.1.2.2.2.2.2.2.2.1 x.2.1.1.2.2.2.2.2.2.2.2.1 x.2.1.1.2.2.2.2.2.2.2.2.2.2.1 x.2.1.1.2.2.2.2.2.2.2.2.2.2.2.1 x.2.1.1.2.2.2.2.2.2.2.2.2.2.2.2.1 x.2.2.1 x.2.2.2.1
def yuD (x:(yf4).X):(ybZ).X:=((((),()),(x.1.2.1.1,()),(x.1.2.2.1.1,()),(x.1.2.2.2.1.1,()),(0,()),()),((x.2.1.1.1,x.2.1.1.2.1,x.2.1.1.2.2.1,(),x.2.1.1.2.2.2.2.1,x.2.1.1.2.2.2.2.2.1,x.2.1.1.2.2.2.2.2.2.1,x.2.1.1.2.2.2.2.2.2.2.1,x.2.1.1.2.2.2.2.2.2.2.2.1,(),x.2.1.1.2.2.2.2.2.2.2.2.2.2.1,x.2.1.1.2.2.2.2.2.2.2.2.2.2.2.1,x.2.1.1.2.2.2.2.2.2.2.2.2.2.2.2.1,()),()),(x.2.2.1,x.2.2.2.1,()))
def ywD:Code:=(zdI yiM 64 28).getD .skip
theorem yHt:zdI yiM 64 7=some (.block 0 (.loop ywD)):=by kernel_rfl
theorem yJ9 (x:(ybZ).X):zg7 ⟨ynb,61,yv8⟩ 0 ywD 28 ybZ yfN yjZ x=ycp x:=by kernel_rfl
def yuV (x:(yf4).X):Nat:=(fun (u0:Int) (u1:List Int) (u2:Int) (u3:Int) (u4:Int) (u5:Int) (u6:Int) (u7:Int) (u8:Int) (u9:Int) (u10:Int) (u11:Int) (u12:Bool) (u13:Bool) (u14:List dM) (u15:List dW)=>18446744073709551616) x.1.2.1.1 x.1.2.2.1.1 x.1.2.2.2.1.1 x.2.1.1.1 x.2.1.1.2.1 x.2.1.1.2.2.1 x.2.1.1.2.2.2.2.1 x.2.1.1.2.2.2.2.2.1 x.2.1.1.2.2.2.2.2.2.1 x.2.1.1.2.2.2.2.2.2.2.1 x.2.1.1.2.2.2.2.2.2.2.2.1 x.2.1.1.2.2.2.2.2.2.2.2.2.2.1 x.2.1.1.2.2.2.2.2.2.2.2.2.2.2.1 x.2.1.1.2.2.2.2.2.2.2.2.2.2.2.2.1 x.2.2.1 x.2.2.2.1
def ypo (x:(yf4).X):Option ((yfN).X ⊕ (yjZ).X):=zr ycp (yuV x) (yuD x)
def yvw:Seg:=⟨yf4,yfN,yjZ,ypo⟩
def yv9:Nat→Option Seg:=fun q=>bif Nat.beq q 7 then some yvw else yv8 q
theorem yFi:FrOk Tryz.prog ⟨ynb,61,yv9⟩ yiM:=(yFh).loop (sg:=yvw) ybZ yuD (by decide) yHt ycp yuV (by decide) (fun _=>rfl) (fun x r _ h=>h) yJ9
abbrev ydw:List Par:= [.pt tA (.pr .fz (.pr (.pr .fz .fz) (.pr (.ow (.pr (.ow .fz) (.pr (.ow (.pr .fz .fz)) (.pr .fz (.ow .fz))))) (.pr .fz (.pr .fz (.pr .fz (.pr .fz (.pr .fz (.pr (.ow (.pr .fz .fz)) (.pr .fz (.pr .fz .fz))))))))))),.rd tI,.rd tL]
abbrev yja:List OT:= []
def ykt (a0:dA) (a1:Int) (a2:List Int):Option (ResD yja×MutD ydw) :=
  let r1:=yb7 a0.2.1 a1
  zjw (ypo ((((),()),(a1,()),(a2,()),(r1,()),((),()),()),((a0.1,a0.2.1.1,a0.2.1.2,(),a0.2.2.2.1,a0.2.2.2.2.1,a0.2.2.2.2.2.1,a0.2.2.2.2.2.2.1,a0.2.2.2.2.2.2.2.1,(),a0.2.2.2.2.2.2.2.2.2.1,a0.2.2.2.2.2.2.2.2.2.2.1,a0.2.2.2.2.2.2.2.2.2.2.2,()),()),(a0.2.2.1,a0.2.2.2.2.2.2.2.2.1,()))) (fun y15 =>
    some ((),((y15.2.1.1.1,(y15.2.1.1.2.1,y15.2.1.1.2.2.1),y15.2.2.1,y15.2.1.1.2.2.2.2.1,y15.2.1.1.2.2.2.2.2.1,y15.2.1.1.2.2.2.2.2.2.1,y15.2.1.1.2.2.2.2.2.2.2.1,y15.2.1.1.2.2.2.2.2.2.2.2.1,y15.2.2.2.1,y15.2.1.1.2.2.2.2.2.2.2.2.2.2.1,y15.2.1.1.2.2.2.2.2.2.2.2.2.2.2.1,y15.2.1.1.2.2.2.2.2.2.2.2.2.2.2.2.1),()))) (fun y15 =>
    none)
theorem yNr (x:InD ydw):zjH ⟨ynb,61,yv9⟩ Tryz.f228.results.toList yiM ydw yja x=ykt x.1 x.2.1 x.2.2.1:=by kernel_rfl
theorem yJD:ConOk Tryz.prog 228 ⟨ydw,yja,fun x=>ykt x.1 x.2.1 x.2.2.1⟩:=zkh (yFi) Tryz.func228 (by kernel_rfl) (by kernel_rfl) Tryz.ntmps228.symm (by decide) (fun x r h=>(yNr x).trans h)
def ynO (a0:dA) (a1:Int) (a2:List Int):dA:=ycc a0 a1 a2
def yjt (a0:dA) (a1:Int) (a2:List Int):Bool:=yS a0.2.1 a1&&((a2.length:Int)==a0.2.1.1 - 1&&(a0.2.2.1.length:Int)==a0.2.1.1)
theorem yLq (a0:dA) (a1:Int) (a2:List Int) (hk:zi9 ydw (a0,a1,a2,())) (hq:yjt a0 a1 a2=true):ykt a0 a1 a2=(fun n=>some ((),(n,()))) (ynO a0 a1 a2):=by
  simp only [yjt,Bool.and_eq_true,beq_iff_eq]at hq
  have hg:=yn.1 (ycy.1 hq.1).1
  have hp:=yoP hq.1
  have h1:ypo (yFJ a1 a2 (yp a0.2.1 a1) a0)=some (.inl (yu6 (ycc a0 a1 a2))) :=
    zks (step:=ycp) a0.2.2.1.length (fun i s=>yom a1 a2 (yp a0.2.1 a1) i s) (ydo (yp a0.2.1 a1) a0.2.1.1 a1 a2) (fun _ s=>s.2.2.1.length=a0.2.2.1.length∧s.2.1=a0.2.1) (fun s=> .inl (yu6 s)) (fun i s hi hs=>⟨by
      have hN:s.2.1.1=a0.2.1.1:=by rw [hs.2]
      simp only [ycp,yom,yoG,hs.1,zjI (show (i:Int) < a0.2.2.1.length by omega),cond_true,wr (show -9223372036854775808≤(i:Int)+1 by omega) (by omega),Int.natCast_add,Int.natCast_one,Int.toNat_natCast,zkV,yhS,ygS,ycw,ycV,ydo,yCm]
      rw [← hN]
      by_cases he:(i:Int)=yp a0.2.1 a1
      · rw [show ((i:Int) !=yp a0.2.1 a1)=false by simp [he],show ((i:Int)==yp a0.2.1 a1)=true from beq_iff_eq.2 he]
        rw [yjs s i (ycH a1) [yiD a2] (zkO (by rw [hs.1]; exact hi))]
        cases yb4 s i a1<;>rfl
      · have hd:=yRM (N:=s.2.1.1) (i:=i) (p:=yp a0.2.1 a1) ⟨by omega,by omega⟩ ⟨by omega,by omega⟩ ⟨hp.1,by omega⟩ he
        rw [show ((i:Int) !=yp a0.2.1 a1)=true from bne_iff_ne.2 he,show ((i:Int)==yp a0.2.1 a1)=false from beq_eq_false_iff_ne.2 he,show (s.2.1.1 !=0)=true from bne_iff_ne.2 (by omega),
          wr (show -9223372036854775808≤(i:Int) - yp a0.2.1 a1 by omega) (by omega),wr (show -9223372036854775808≤(i:Int) - yp a0.2.1 a1 - 1 by omega) (by omega),wr (show -9223372036854775808≤(i:Int) - yp a0.2.1 a1 - 1+s.2.1.1 by omega) (by omega),zjP.2 (show 0≤((i:Int) - yp a0.2.1 a1 - 1+s.2.1.1).tmod s.2.1.1∧((i:Int) - yp a0.2.1 a1 - 1+s.2.1.1).tmod s.2.1.1 < a2.length by omega)]
        rw [yjs s i (ycH a1) [nth a2 (((i:Int) - yp a0.2.1 a1 - 1+s.2.1.1).tmod s.2.1.1) 0] (zkO (by rw [hs.1]; exact hi))]
        cases yb4 s i a1<;>rfl,(ymR _ _ _ _ s i).trans hs.1,(ygy (yBt _ _ _ _ s i)).trans hs.2⟩) (fun s hs=>by simp only [ycp,yom,yoG,hs.1,zkm (Int.le_refl _),cond_false]) a0 ⟨rfl,rfl⟩ _ (by show _ < 18446744073709551616; omega)
  unfold ykt ynO yb7
  exact (congrArg (fun z=>zjw z _ _) h1).trans rfl
def yfr (a0:dA) (a1:Int) (a2:List Int):Option (ResD yja×MutD ydw):=bif yjt a0 a1 a2 then (fun n=>some ((),(n,()))) (ynO a0 a1 a2) else none
theorem yMm (a0:dA) (a1:Int) (a2:List Int) (h:yjt a0 a1 a2=true):yfr a0 a1 a2=(fun n=>some ((),(n,()))) (ynO a0 a1 a2):=by unfold yfr; rw [h]; rfl
def yw4:Con:=⟨ydw,yja,fun x=>yfr x.1 x.2.1 x.2.2.1⟩
theorem yMk:ConOk Tryz.prog 228 yw4:=(yJD).mono (fun x r hk h=>zkW h (fun hq=>yLq x.1 x.2.1 x.2.2.1 hk hq))
end
section
def yxA:Code:=(Tryz.f229.body).getD .skip
def yye:Env:=zki TT [(210,yj8),(251,yj9)] []
theorem yC5:FrOk Tryz.prog ⟨yye,17,fun _=>none⟩ yxA:=zkp ye yf ⟨yra,yrb,trivial⟩
def yD9:Nat→Option Seg:=fun _=>none
abbrev yht:List Par:= [.pt tA (.pr .fz (.pr (.pr .fz .fz) (.pr (.ow (.pr (.ow .fz) (.pr (.ow (.pr .fz .fz)) (.pr .fz (.ow .fz))))) (.pr .fz (.pr .fz (.pr .fz (.pr .fz (.pr .fz (.pr (.ow (.pr .fz .fz)) (.pr .fz (.pr .fz .fz)))))))))))]
abbrev ylH:List OT:= []
def yot (a0:dA):Option (ResD ylH×MutD yht) :=
  let r1:=ycx a0
  bif r1.2.2.2.2.2.2.2.2.2.2.1 then
    some ((),(r1,()))
  else
    let r2:=yam (r1.1,r1.2.1,r1.2.2.1,r1.2.2.2.1,r1.2.2.2.2.1,r1.2.2.2.2.2.1,r1.2.2.2.2.2.1,r1.2.2.2.2.2.2.2)
    some ((),(r2,()))
theorem yKN (x:InD yht):zjH ⟨yye,17,yD9⟩ Tryz.f229.results.toList yxA yht ylH x=yot x.1:=by kernel_rfl
theorem yGo:ConOk Tryz.prog 229 ⟨yht,ylH,fun x=>yot x.1⟩:=zkh (yC5) Tryz.func229 (by kernel_rfl) (by kernel_rfl) Tryz.ntmps229.symm (by decide) (fun x r h=>(yKN x).trans h)
def yj (a0:dA):dA :=
  let r1:=ycx a0
  bif r1.2.2.2.2.2.2.2.2.2.2.1 then
    r1
  else
    let r2:=yam (r1.1,r1.2.1,r1.2.2.1,r1.2.2.2.1,r1.2.2.2.2.1,r1.2.2.2.2.2.1,r1.2.2.2.2.2.1,r1.2.2.2.2.2.2.2)
    r2
def yn8:Con:=⟨yht,ylH,fun x=>(fun n=>some ((),(n,()))) (yj x.1)⟩
theorem yI1 (a0:dA):yot a0=(fun n=>some ((),(n,()))) (yj a0):=zkS (p:=fun (n:dA)=>((),(n,()))) (zkx (p:=fun (n:dA)=>((),(n,()))) rfl rfl)
theorem yxe:ConOk Tryz.prog 229 yn8:=(yGo).mono (fun x r _ h=>(yI1 x.1).trans h)
theorem yAs (a:dA):yj a=yC a:=by
  unfold yj yC ycx yam
  show (bif yo (yab a) then yab a else yau (yju (yab a)))=_
  rfl
end
section
def yxB:Code:=(Tryz.f237.body).getD .skip
def yyf:Env:=zki TT [(227,yyz),(228,yw4),(229,yn8)] []
theorem yC6:FrOk Tryz.prog ⟨yyf,54,fun _=>none⟩ yxB:=zkp ye yf ⟨yN6,yMk,yxe,trivial⟩
def yEa:Nat→Option Seg:=fun _=>none
abbrev ycQ:List Par:= [.pt tA (.pr .fz (.pr (.pr .fz .fz) (.pr (.ow (.pr (.ow .fz) (.pr (.ow (.pr .fz .fz)) (.pr .fz (.ow .fz))))) (.pr .fz (.pr .fz (.pr .fz (.pr .fz (.pr .fz (.pr (.ow (.pr .fz .fz)) (.pr .fz (.pr .fz .fz))))))))))),.rd tI,.rd tL]
abbrev yhE:List OT:= [⟨false,tI,.fz⟩]
def yiy (a0:dA) (a1:Int) (a2:List Int):Option (ResD yhE×MutD ycQ) :=
  bif (leb 4 (IntKind.i64.wrap (a0.2.2.2.2.2.1 - a0.2.2.2.2.2.2.1))) then
    let r1:=yj a0
    bif r1.2.2.2.2.2.2.2.2.2.2.1 then
      some ((6,()),(r1,()))
    else
      bif (zj4 ([]:List Int).length a2.length 8) then
        let r2:=yhV r1 (r1.2.2.2.2.2.1,a1,(([]:List Int)++a2))
        bif r2.2.2.2.2.2.2.2.2.2.2.1 then
          some ((6,()),(r2,()))
        else
          bnd (yfr (r2.1,r2.2.1,r2.2.2.1,r2.2.2.2.1,r2.2.2.2.2.1,(IntKind.i64.wrap (r2.2.2.2.2.2.1+1)),r2.2.2.2.2.2.2) a1 a2) fun r3 =>
          bif r3.2.1.2.2.2.2.2.2.2.2.2.2.1 then
            some ((6,()),(r3.2.1,()))
          else
            some ((0,()),(r3.2.1,()))
      else none
  else
    bif a0.2.2.2.2.2.2.2.2.2.2.1 then
      some ((6,()),(a0,()))
    else
      bif (zj4 ([]:List Int).length a2.length 8) then
        let r4:=yhV a0 (a0.2.2.2.2.2.1,a1,(([]:List Int)++a2))
        bif r4.2.2.2.2.2.2.2.2.2.2.1 then
          some ((6,()),(r4,()))
        else
          bnd (yfr (r4.1,r4.2.1,r4.2.2.1,r4.2.2.2.1,r4.2.2.2.2.1,(IntKind.i64.wrap (r4.2.2.2.2.2.1+1)),r4.2.2.2.2.2.2) a1 a2) fun r5 =>
          bif r5.2.1.2.2.2.2.2.2.2.2.2.2.1 then
            some ((6,()),(r5.2.1,()))
          else
            some ((0,()),(r5.2.1,()))
      else none
theorem yKO (x:InD ycQ):zjH ⟨yyf,54,yEa⟩ Tryz.f237.results.toList yxB ycQ yhE x=yiy x.1 x.2.1 x.2.2.1:=by kernel_rfl
theorem yGp:ConOk Tryz.prog 237 ⟨ycQ,yhE,fun x=>yiy x.1 x.2.1 x.2.2.1⟩:=zkh (yC6) Tryz.func237 (by kernel_rfl) (by kernel_rfl) Tryz.ntmps237.symm (by decide) (fun x r h=>(yKO x).trans h)
def yhW (a0:dA) (a1:Int) (a2:List Int):Int×dA:=ydS a0 a1 a2
def yhZ (a0:dA) (a1:Int) (a2:List Int):Bool:=yS a0.2.1 a1&&((a2.length:Int)==a0.2.1.1 - 1&&(a0.2.2.1.length:Int)==a0.2.1.1)
theorem yI2 (a0:dA) (a1:Int) (a2:List Int) (hk:zi9 ycQ (a0,a1,a2,())) (hq:yhZ a0 a1 a2=true):yiy a0 a1 a2=(fun n=>some ((n.1,()),(n.2,()))) (yhW a0 a1 a2):=by
  have hq':=hq
  simp only [yhZ,Bool.and_eq_true,beq_iff_eq]at hq
  have hg:=yn.1 (ycy.1 hq.1).1
  have hap:zj4 ([]:List Int).length a2.length 8=true:=zkw.2 (by simp only [List.length_nil]; omega)
  have key: ∀ b:dA,b.2.1=a0.2.1→b.2.2.1.length=a0.2.2.1.length→yfr (ye5 (ygD b (b.2.2.2.2.2.1,a1,a2))) a1 a2=some ((),(ycc (ye5 (ygD b (b.2.2.2.2.2.1,a1,a2))) a1 a2,())):=fun b h1 h2=>yMm _ _ _ (by
    unfold yjt
    rw [show (ye5 (ygD b (b.2.2.2.2.2.1,a1,a2))).2.1=a0.2.1 from (ygy (yro _ _)).trans h1,show (ye5 (ygD b (b.2.2.2.2.2.1,a1,a2))).2.2.1.length=a0.2.2.1.length from (yQV _ _).trans h2]
    exact hq')
  unfold yiy yhW ydS yah
  simp only [yAs,yhV,List.nil_append,hap,cond_true]
  cases leb 4 (IntKind.i64.wrap (a0.2.2.2.2.2.1 - a0.2.2.2.2.2.2.1))
  · have hd:=key a0 rfl rfl
    simp only [cond_false]
    generalize ygD a0 (a0.2.2.2.2.2.1,a1,a2)=R at hd ⊢
    generalize ycc (ye5 R) a1 a2=Q at hd ⊢
    unfold ye5 at hd
    simp only [cond_false,hd,zky]
    unfold yo
    cases a0.2.2.2.2.2.2.2.2.2.2.1
    · cases R.2.2.2.2.2.2.2.2.2.2.1
      · cases Q.2.2.2.2.2.2.2.2.2.2.1<;>rfl
      · rfl
    · rfl
  · have hd:=key (yC a0) (yMt a0) (yrH a0)
    simp only [cond_true]
    generalize yC a0=C at hd ⊢
    generalize ygD C (C.2.2.2.2.2.1,a1,a2)=R at hd ⊢
    generalize ycc (ye5 R) a1 a2=Q at hd ⊢
    unfold ye5 at hd
    simp only [cond_true,hd,zky]
    unfold yo
    cases C.2.2.2.2.2.2.2.2.2.2.1
    · cases R.2.2.2.2.2.2.2.2.2.2.1
      · cases Q.2.2.2.2.2.2.2.2.2.2.1<;>rfl
      · rfl
    · rfl
def ylR (a0:dA) (a1:Int) (a2:List Int):Option (ResD yhE×MutD ycQ):=bif yhZ a0 a1 a2 then (fun n=>some ((n.1,()),(n.2,()))) (yhW a0 a1 a2) else none
theorem yJU (a0:dA) (a1:Int) (a2:List Int) (h:yhZ a0 a1 a2=true):ylR a0 a1 a2=(fun n=>some ((n.1,()),(n.2,()))) (yhW a0 a1 a2):=by unfold ylR; rw [h]; rfl
def yuo:Con:=⟨ycQ,yhE,fun x=>ylR x.1 x.2.1 x.2.2.1⟩
theorem yJP:ConOk Tryz.prog 237 yuo:=(yGp).mono (fun x r hk h=>zkW h (fun hq=>yI2 x.1 x.2.1 x.2.2.1 hk hq))
end
end
end Go.Tf
