/- Functions of the program, and what they come to. -/
import Derived.Test.YtgmadfpnljibhaaWordsF7
namespace Go.Tf
noncomputable section
open Go.Proofs
set_option synthInstance.maxHeartbeats 400000
set_option synthInstance.maxSize 10000
set_option linter.unusedVariables false
set_option linter.unusedSimpArgs false
set_option maxRecDepth 100000
section
def yik:Code:=(Try.f158.body).getD .skip
def ymg:Env:=zki TT [(181,yqQ),(183,yrl)] []
theorem yDg:FrOk Try.prog ⟨ymg,39,fun _=>none⟩ yik:=zkp yc yd ⟨yz7,yEj,trivial⟩
def yuw:Nat→Option Seg:=fun _=>none
def ybP:Shape:=⟨[(0,false,[.ptr 1000000000 0]),(2,false,[.int .i64])],[(1000000000,[.int .i64,.int .i64,.int .i64,.at 800000000,.int .i64,.int .i64,.int .i64,.int .i64,.int .i64,.at 800000001,.int .i64,.bool,.bool])],[(800000000,tM,(.pr (.ow .fz) (.pr (.ow (.pr .fz .fz)) (.pr .fz (.ow .fz))))),(800000001,tW,(.pr .fz .fz))]⟩
def yfD:Shape:=⟨[(0,false,[.ptr 1000000000 0]),(2,false,[.ci .i64 0])],[(1000000000,[.int .i64,.int .i64,.int .i64,.at 800000000,.int .i64,.int .i64,.int .i64,.int .i64,.int .i64,.at 800000001,.int .i64,.bool,.bool])],[(800000000,tM,(.pr (.ow .fz) (.pr (.ow (.pr .fz .fz)) (.pr .fz (.ow .fz))))),(800000001,tW,(.pr .fz .fz))]⟩
def yfq:Shape:=⟨[],[(1000000000,[.int .i64,.int .i64,.int .i64,.at 800000000,.int .i64,.int .i64,.int .i64,.int .i64,.int .i64,.at 800000001,.int .i64,.bool,.bool])],[(800000000,tM,(.pr (.ow .fz) (.pr (.ow (.pr .fz .fz)) (.pr .fz (.ow .fz))))),(800000001,tW,(.pr .fz .fz))]⟩
def yjp:Shape:=⟨[],[],[]⟩
abbrev ynn (v0:Int) (v1:dA):(ybP).X:=((((),()),(v0,()),()),((v1.1,v1.2.1.1,v1.2.1.2,(),v1.2.2.2.1,v1.2.2.2.2.1,v1.2.2.2.2.2.1,v1.2.2.2.2.2.2.1,v1.2.2.2.2.2.2.2.1,(),v1.2.2.2.2.2.2.2.2.2.1,v1.2.2.2.2.2.2.2.2.2.2.1,v1.2.2.2.2.2.2.2.2.2.2.2,()),()),(v1.2.2.1,v1.2.2.2.2.2.2.2.2.1,()))
abbrev yDD (v0:dA):(yfD).X:=((((),()),((),()),()),((v0.1,v0.2.1.1,v0.2.1.2,(),v0.2.2.2.1,v0.2.2.2.2.1,v0.2.2.2.2.2.1,v0.2.2.2.2.2.2.1,v0.2.2.2.2.2.2.2.1,(),v0.2.2.2.2.2.2.2.2.2.1,v0.2.2.2.2.2.2.2.2.2.2.1,v0.2.2.2.2.2.2.2.2.2.2.2,()),()),(v0.2.2.1,v0.2.2.2.2.2.2.2.2.1,()))
abbrev ytx (v0:dA):(yfq).X:=((),((v0.1,v0.2.1.1,v0.2.1.2,(),v0.2.2.2.1,v0.2.2.2.2.1,v0.2.2.2.2.2.1,v0.2.2.2.2.2.2.1,v0.2.2.2.2.2.2.2.1,(),v0.2.2.2.2.2.2.2.2.2.1,v0.2.2.2.2.2.2.2.2.2.2.1,v0.2.2.2.2.2.2.2.2.2.2.2,()),()),(v0.2.2.1,v0.2.2.2.2.2.2.2.2.1,()))
def ynE (v0:Int) (v1:Int) (v2:Int) (v3:Int) (v4:Int) (v5:Int) (v6:Int) (v7:Int) (v8:Int) (v9:Int) (v10:Bool) (v11:Bool) (v12:List dM) (v13:List dW):Option ((ybP).X ⊕ ((yfq).X ⊕ (yjp).X)) :=
  bif (ltb v0 (v12.length:Int)) then
    bif (inb v0 v12.length) then
      bif (!((((nth v12 v0 ([],[],false,[])).2).2).1)) then
        let r3:=yl5 (v1,(v2,v3),v12,v4,v5,v6,v7,v8,v13,v9,v10,v11)
        bif r3.1 then
          bif (inb v0 r3.2.2.2.1.length) then
            let r4:=yfU ((nth r3.2.2.2.1 v0 ([],[],false,[])).1,((nth r3.2.2.2.1 v0 ([],[],false,[])).2).1,(((nth r3.2.2.2.1 v0 ([],[],false,[])).2).2))
            bif (inb v0 r3.2.2.2.1.length) then
              some (.inl ((((),()),((IntKind.i64.wrap (v0+1)),()),()),((r3.2.1,r3.2.2.1.1,r3.2.2.1.2,(),r3.2.2.2.2.1,r3.2.2.2.2.2.1,r3.2.2.2.2.2.2.1,r3.2.2.2.2.2.2.2.1,r3.2.2.2.2.2.2.2.2.1,(),r3.2.2.2.2.2.2.2.2.2.2.1,r3.2.2.2.2.2.2.2.2.2.2.2.1,r3.2.2.2.2.2.2.2.2.2.2.2.2,()),()),((r3.2.2.2.1.set (v0).toNat r4),r3.2.2.2.2.2.2.2.2.2.1,())))
            else none
          else none
        else
          some (.inl ((((),()),((IntKind.i64.wrap (v0+1)),()),()),((r3.2.1,r3.2.2.1.1,r3.2.2.1.2,(),r3.2.2.2.2.1,r3.2.2.2.2.2.1,r3.2.2.2.2.2.2.1,r3.2.2.2.2.2.2.2.1,r3.2.2.2.2.2.2.2.2.1,(),r3.2.2.2.2.2.2.2.2.2.2.1,r3.2.2.2.2.2.2.2.2.2.2.2.1,r3.2.2.2.2.2.2.2.2.2.2.2.2,()),()),(r3.2.2.2.1,r3.2.2.2.2.2.2.2.2.2.1,())))
      else
        some (.inl ((((),()),((IntKind.i64.wrap (v0+1)),()),()),((v1,v2,v3,(),v4,v5,v6,v7,v8,(),v9,v10,v11,()),()),(v12,v13,())))
    else none
  else
    some (.inr (.inl ((),((v1,v2,v3,(),v4,v5,v6,v7,v8,(),v9,v10,v11,()),()),(v12,v13,()))))
def ycc (x:(ybP).X):=ynE x.1.2.1.1 x.2.1.1.1 x.2.1.1.2.1 x.2.1.1.2.2.1 x.2.1.1.2.2.2.2.1 x.2.1.1.2.2.2.2.2.1 x.2.1.1.2.2.2.2.2.2.1 x.2.1.1.2.2.2.2.2.2.2.1 x.2.1.1.2.2.2.2.2.2.2.2.1 x.2.1.1.2.2.2.2.2.2.2.2.2.2.1 x.2.1.1.2.2.2.2.2.2.2.2.2.2.2.1 x.2.1.1.2.2.2.2.2.2.2.2.2.2.2.2.1 x.2.2.1 x.2.2.2.1
def yta (x:(yfD).X):(ybP).X:=((((),()),(0,()),()),((x.2.1.1.1,x.2.1.1.2.1,x.2.1.1.2.2.1,(),x.2.1.1.2.2.2.2.1,x.2.1.1.2.2.2.2.2.1,x.2.1.1.2.2.2.2.2.2.1,x.2.1.1.2.2.2.2.2.2.2.1,x.2.1.1.2.2.2.2.2.2.2.2.1,(),x.2.1.1.2.2.2.2.2.2.2.2.2.2.1,x.2.1.1.2.2.2.2.2.2.2.2.2.2.2.1,x.2.1.1.2.2.2.2.2.2.2.2.2.2.2.2.1,()),()),(x.2.2.1,x.2.2.2.1,()))
def yuW:Code:=(zdI yik 64 12).getD .skip
theorem yFh:zdI yik 64 3=some (.block 0 (.loop yuW)):=by kernel_rfl
theorem yHK (x:(ybP).X):zg7 ⟨ymg,39,yuw⟩ 0 yuW 12 ybP yfq yjp x=ycc x:=by kernel_rfl
def ytp (x:(yfD).X):Nat:=(fun (u0:Int) (u1:Int) (u2:Int) (u3:Int) (u4:Int) (u5:Int) (u6:Int) (u7:Int) (u8:Int) (u9:Bool) (u10:Bool) (u11:List dM) (u12:List dW)=>18446744073709551616) x.2.1.1.1 x.2.1.1.2.1 x.2.1.1.2.2.1 x.2.1.1.2.2.2.2.1 x.2.1.1.2.2.2.2.2.1 x.2.1.1.2.2.2.2.2.2.1 x.2.1.1.2.2.2.2.2.2.2.1 x.2.1.1.2.2.2.2.2.2.2.2.1 x.2.1.1.2.2.2.2.2.2.2.2.2.2.1 x.2.1.1.2.2.2.2.2.2.2.2.2.2.2.1 x.2.1.1.2.2.2.2.2.2.2.2.2.2.2.2.1 x.2.2.1 x.2.2.2.1
def yom (x:(yfD).X):Option ((yfq).X ⊕ (yjp).X):=zr ycc (ytp x) (yta x)
def ytW:Seg:=⟨yfD,yfq,yjp,yom⟩
def yux:Nat→Option Seg:=fun q=>bif Nat.beq q 3 then some ytW else yuw q
theorem yDh:FrOk Try.prog ⟨ymg,39,yux⟩ yik:=(yDg).loop (sg:=ytW) ybP yta (by decide) yFh ycc ytp (by decide) (fun _=>rfl) (fun x r _ h=>h) yHK
abbrev ye4:List Par:= [.pt tA (.pr .fz (.pr (.pr .fz .fz) (.pr (.ow (.pr (.ow .fz) (.pr (.ow (.pr .fz .fz)) (.pr .fz (.ow .fz))))) (.pr .fz (.pr .fz (.pr .fz (.pr .fz (.pr .fz (.pr (.ow (.pr .fz .fz)) (.pr .fz (.pr .fz .fz)))))))))))]
abbrev ymK:List OT:= []
def yjQ (a0:dA):Option (ResD ymK×MutD ye4) :=
  zjw (yom ((((),()),((),()),()),((a0.1,a0.2.1.1,a0.2.1.2,(),a0.2.2.2.1,a0.2.2.2.2.1,a0.2.2.2.2.2.1,a0.2.2.2.2.2.2.1,a0.2.2.2.2.2.2.2.1,(),a0.2.2.2.2.2.2.2.2.2.1,a0.2.2.2.2.2.2.2.2.2.2.1,a0.2.2.2.2.2.2.2.2.2.2.2,()),()),(a0.2.2.1,a0.2.2.2.2.2.2.2.2.1,()))) (fun y4 =>
    some ((),((y4.2.1.1.1,(y4.2.1.1.2.1,y4.2.1.1.2.2.1),y4.2.2.1,y4.2.1.1.2.2.2.2.1,y4.2.1.1.2.2.2.2.2.1,y4.2.1.1.2.2.2.2.2.2.1,y4.2.1.1.2.2.2.2.2.2.2.1,y4.2.1.1.2.2.2.2.2.2.2.2.1,y4.2.2.2.1,y4.2.1.1.2.2.2.2.2.2.2.2.2.2.1,y4.2.1.1.2.2.2.2.2.2.2.2.2.2.2.1,y4.2.1.1.2.2.2.2.2.2.2.2.2.2.2.2.1),()))) (fun y4 =>
    none)
theorem yKZ (x:InD ye4):zjH ⟨ymg,39,yux⟩ Try.f158.results.toList yik ye4 ymK x=yjQ x.1:=by kernel_rfl
theorem yHf:ConOk Try.prog 158 ⟨ye4,ymK,fun x=>yjQ x.1⟩:=zkh (yDh) Try.func158 (by kernel_rfl) (by kernel_rfl) Try.ntmps158.symm (by decide) (fun x r h=>(yKZ x).trans h)
def yck (a0:dA):dA:=yy a0
theorem yI1 (a0:dA) (hk:zi9 ye4 (a0,())):yjQ a0=(fun n=>some ((),(n,()))) (yck a0):=by
  have hb:a0.2.2.1.length * 80≤2 ^ 47:=hk.1.2.2.1.1
  have h1:yom (yDD a0)=some (.inl (ytx (yy a0))) :=
    zks (step:=ycc) a0.2.2.1.length (fun i s=>ynn i s) yJ (fun _ s=>s.2.2.1.length=a0.2.2.1.length) (fun s=> .inl (ytx s)) (fun i s hi hs=>⟨by
      simp only [ycc,ynn,ynE,hs,zjI (show (i:Int) < a0.2.2.1.length by omega),cond_true,wr (show -9223372036854775808≤(i:Int)+1 by omega) (by omega),Int.natCast_add,Int.natCast_one,Int.toNat_natCast,zkO hi,zkV,yHN,yT,yfU,yJ,setMem]
      cases (nth s.2.2.1 i noMem).2.2.1<;>cases (yK s).1<;>simp only [cond_true,cond_false,Bool.not_true,Bool.not_false,yT,Int.toNat_natCast],(yiZ s i).trans hs⟩) (fun s hs=>by simp only [ycc,ynn,ynE,hs,zkm (Int.le_refl _),cond_false]) a0 rfl _ (by show _ < 18446744073709551616; omega)
  unfold yjQ yck
  rw [h1]; rfl
def yju:Con:=⟨ye4,ymK,fun x=>(fun n=>some ((),(n,()))) (yck x.1)⟩
theorem ypO:ConOk Try.prog 158 yju:=(yHf).mono (fun x r hk h=>(yI1 x.1 hk).trans h)
end
section
def yij:Code:=(Try.f155.body).getD .skip
def ymf:Env:=zki TT [(119,ylx),(157,yhd),(158,yju)] []
theorem yDe:FrOk Try.prog ⟨ymf,63,fun _=>none⟩ yij:=zkp yc yd ⟨ytB,ymR,ypO,trivial⟩
def yuu:Nat→Option Seg:=fun _=>none
def yba:Shape:=⟨[(0,false,[.ptr 1000000000 0]),(2,false,[.int .i64])],[(1000000000,[.int .i64,.int .i64,.int .i64,.at 800000000,.int .i64,.int .i64,.int .i64,.int .i64,.int .i64,.at 800000001,.int .i64,.bool,.bool])],[(800000000,tM,(.pr (.ow .fz) (.pr (.ow (.pr .fz .fz)) (.pr .fz (.ow .fz))))),(800000001,tW,(.pr .fz .fz))]⟩
def yeB:Shape:=⟨[(0,false,[.ptr 1000000000 0]),(2,false,[.ci .i64 0])],[(1000000000,[.int .i64,.int .i64,.int .i64,.at 800000000,.int .i64,.int .i64,.int .i64,.int .i64,.int .i64,.at 800000001,.int .i64,.bool,.bool])],[(800000000,tM,(.pr (.ow .fz) (.pr (.ow (.pr .fz .fz)) (.pr .fz (.ow .fz))))),(800000001,tW,(.pr .fz .fz))]⟩
def yeq:Shape:=⟨[(0,false,[.ptr 1000000000 0])],[(1000000000,[.int .i64,.int .i64,.int .i64,.at 800000000,.int .i64,.int .i64,.int .i64,.int .i64,.int .i64,.at 800000001,.int .i64,.bool,.bool])],[(800000000,tM,(.pr (.ow .fz) (.pr (.ow (.pr .fz .fz)) (.pr .fz (.ow .fz))))),(800000001,tW,(.pr .fz .fz))]⟩
def yhO:Shape:=⟨[],[],[]⟩
abbrev ylH (v0:Int) (v1:dA):(yba).X:=((((),()),(v0,()),()),((v1.1,v1.2.1.1,v1.2.1.2,(),v1.2.2.2.1,v1.2.2.2.2.1,v1.2.2.2.2.2.1,v1.2.2.2.2.2.2.1,v1.2.2.2.2.2.2.2.1,(),v1.2.2.2.2.2.2.2.2.2.1,v1.2.2.2.2.2.2.2.2.2.2.1,v1.2.2.2.2.2.2.2.2.2.2.2,()),()),(v1.2.2.1,v1.2.2.2.2.2.2.2.2.1,()))
abbrev yBr (v0:dA):(yeB).X:=((((),()),((),()),()),((v0.1,v0.2.1.1,v0.2.1.2,(),v0.2.2.2.1,v0.2.2.2.2.1,v0.2.2.2.2.2.1,v0.2.2.2.2.2.2.1,v0.2.2.2.2.2.2.2.1,(),v0.2.2.2.2.2.2.2.2.2.1,v0.2.2.2.2.2.2.2.2.2.2.1,v0.2.2.2.2.2.2.2.2.2.2.2,()),()),(v0.2.2.1,v0.2.2.2.2.2.2.2.2.1,()))
abbrev yrQ (v0:dA):(yeq).X:=((((),()),()),((v0.1,v0.2.1.1,v0.2.1.2,(),v0.2.2.2.1,v0.2.2.2.2.1,v0.2.2.2.2.2.1,v0.2.2.2.2.2.2.1,v0.2.2.2.2.2.2.2.1,(),v0.2.2.2.2.2.2.2.2.2.1,v0.2.2.2.2.2.2.2.2.2.2.1,v0.2.2.2.2.2.2.2.2.2.2.2,()),()),(v0.2.2.1,v0.2.2.2.2.2.2.2.2.1,()))
def ylU (v0:Int) (v1:Int) (v2:Int) (v3:Int) (v4:Int) (v5:Int) (v6:Int) (v7:Int) (v8:Int) (v9:Int) (v10:Bool) (v11:Bool) (v12:List dM) (v13:List dW):Option ((yba).X ⊕ ((yeq).X ⊕ (yhO).X)) :=
  bif (ltb v0 (v12.length:Int)) then
    let r3:=yA (v1,v8,v0,v2,v3,v7,v4,v5)
    bnd (ycZ (v1,(v2,v3),v12,v4,v5,v6,v7,v8,v13,v9,v10,v11) v0 (v8.tmod 2) r3) fun r4 =>
    some (.inl ((((),()),((IntKind.i64.wrap (v0+1)),()),()),((r4.2.1.1,r4.2.1.2.1.1,r4.2.1.2.1.2,(),r4.2.1.2.2.2.1,r4.2.1.2.2.2.2.1,r4.2.1.2.2.2.2.2.1,r4.2.1.2.2.2.2.2.2.1,r4.2.1.2.2.2.2.2.2.2.1,(),r4.2.1.2.2.2.2.2.2.2.2.2.1,r4.2.1.2.2.2.2.2.2.2.2.2.2.1,r4.2.1.2.2.2.2.2.2.2.2.2.2.2,()),()),(r4.2.1.2.2.1,r4.2.1.2.2.2.2.2.2.2.2.1,())))
  else
    some (.inr (.inl ((((),()),()),((v1,v2,v3,(),v4,v5,v6,v7,v8,(),v9,v10,v11,()),()),(v12,v13,()))))
def ybz (x:(yba).X):=ylU x.1.2.1.1 x.2.1.1.1 x.2.1.1.2.1 x.2.1.1.2.2.1 x.2.1.1.2.2.2.2.1 x.2.1.1.2.2.2.2.2.1 x.2.1.1.2.2.2.2.2.2.1 x.2.1.1.2.2.2.2.2.2.2.1 x.2.1.1.2.2.2.2.2.2.2.2.1 x.2.1.1.2.2.2.2.2.2.2.2.2.2.1 x.2.1.1.2.2.2.2.2.2.2.2.2.2.2.1 x.2.1.1.2.2.2.2.2.2.2.2.2.2.2.2.1 x.2.2.1 x.2.2.2.1
def yrB (x:(yeB).X):(yba).X:=((((),()),(0,()),()),((x.2.1.1.1,x.2.1.1.2.1,x.2.1.1.2.2.1,(),x.2.1.1.2.2.2.2.1,x.2.1.1.2.2.2.2.2.1,x.2.1.1.2.2.2.2.2.2.1,x.2.1.1.2.2.2.2.2.2.2.1,x.2.1.1.2.2.2.2.2.2.2.2.1,(),x.2.1.1.2.2.2.2.2.2.2.2.2.2.1,x.2.1.1.2.2.2.2.2.2.2.2.2.2.2.1,x.2.1.1.2.2.2.2.2.2.2.2.2.2.2.2.1,()),()),(x.2.2.1,x.2.2.2.1,()))
def ysK:Code:=(zdI yij 64 52).getD .skip
theorem yCr:zdI yij 64 13=some (.block 0 (.loop ysK)):=by kernel_rfl
theorem yEB (x:(yba).X):zg7 ⟨ymf,63,yuu⟩ 0 ysK 52 yba yeq yhO x=ybz x:=by kernel_rfl
def yrM (x:(yeB).X):Nat:=(fun (u0:Int) (u1:Int) (u2:Int) (u3:Int) (u4:Int) (u5:Int) (u6:Int) (u7:Int) (u8:Int) (u9:Bool) (u10:Bool) (u11:List dM) (u12:List dW)=>18446744073709551616) x.2.1.1.1 x.2.1.1.2.1 x.2.1.1.2.2.1 x.2.1.1.2.2.2.2.1 x.2.1.1.2.2.2.2.2.1 x.2.1.1.2.2.2.2.2.2.1 x.2.1.1.2.2.2.2.2.2.2.1 x.2.1.1.2.2.2.2.2.2.2.2.1 x.2.1.1.2.2.2.2.2.2.2.2.2.2.1 x.2.1.1.2.2.2.2.2.2.2.2.2.2.2.1 x.2.1.1.2.2.2.2.2.2.2.2.2.2.2.2.1 x.2.2.1 x.2.2.2.1
def ym3 (x:(yeB).X):Option ((yeq).X ⊕ (yhO).X):=zr ybz (yrM x) (yrB x)
def yr2:Seg:=⟨yeB,yeq,yhO,ym3⟩
def yuv:Nat→Option Seg:=fun q=>bif Nat.beq q 13 then some yr2 else yuu q
theorem yDf:FrOk Try.prog ⟨ymf,63,yuv⟩ yij:=(yDe).loop (sg:=yr2) yba yrB (by decide) yCr ybz yrM (by decide) (fun _=>rfl) (fun x r _ h=>h) yEB
abbrev ye3:List Par:= [.pt tA (.pr .fz (.pr (.pr .fz .fz) (.pr (.ow (.pr (.ow .fz) (.pr (.ow (.pr .fz .fz)) (.pr .fz (.ow .fz))))) (.pr .fz (.pr .fz (.pr .fz (.pr .fz (.pr .fz (.pr (.ow (.pr .fz .fz)) (.pr .fz (.pr .fz .fz)))))))))))]
abbrev ymJ:List OT:= []
def yjP (a0:dA):Option (ResD ymJ×MutD ye3) :=
  zjw (ym3 ((((),()),((),()),()),((a0.1,a0.2.1.1,a0.2.1.2,(),a0.2.2.2.1,a0.2.2.2.2.1,a0.2.2.2.2.2.1,a0.2.2.2.2.2.2.1,(IntKind.i64.wrap (a0.2.2.2.2.2.2.2.1+1)),(),a0.2.2.2.2.2.2.2.2.2.1,a0.2.2.2.2.2.2.2.2.2.2.1,a0.2.2.2.2.2.2.2.2.2.2.2,()),()),(a0.2.2.1,a0.2.2.2.2.2.2.2.2.1,()))) (fun y4 =>
    let r6:=yck (y4.2.1.1.1,(y4.2.1.1.2.1,y4.2.1.1.2.2.1),y4.2.2.1,y4.2.1.1.2.2.2.2.1,y4.2.1.1.2.2.2.2.2.1,y4.2.1.1.2.2.2.2.2.2.1,y4.2.1.1.2.2.2.2.2.2.2.1,y4.2.1.1.2.2.2.2.2.2.2.2.1,y4.2.2.2.1,y4.2.1.1.2.2.2.2.2.2.2.2.2.2.1,y4.2.1.1.2.2.2.2.2.2.2.2.2.2.2.1,y4.2.1.1.2.2.2.2.2.2.2.2.2.2.2.2.1)
    some ((),(r6,()))) (fun y4 =>
    none)
theorem yKY (x:InD ye3):zjH ⟨ymf,63,yuv⟩ Try.f155.results.toList yij ye3 ymJ x=yjP x.1:=by kernel_rfl
theorem yHe:ConOk Try.prog 155 ⟨ye3,ymJ,fun x=>yjP x.1⟩:=zkh (yDf) Try.func155 (by kernel_rfl) (by kernel_rfl) Try.ntmps155.symm (by decide) (fun x r h=>(yKY x).trans h)
def yaa (a0:dA):dA:=markA a0
theorem yMO (a:dA) (i:Nat):(ybn a i).2.2.1.length=a.2.2.1.length:=yiY _ _ _ _
theorem yI0 (a0:dA) (hk:zi9 ye3 (a0,())):yjP a0=(fun n=>some ((),(n,()))) (yaa a0):=by
  have hb:a0.2.2.1.length * 80≤2 ^ 47:=hk.1.2.2.1.1
  have h1:ym3 (yBr (yaz a0))=some (.inl (yrQ ((List.range a0.2.2.1.length).foldl ybn (yaz a0)))) :=
    zks (step:=ybz) a0.2.2.1.length (fun i s=>ylH i s) ybn (fun _ s=>s.2.2.1.length=a0.2.2.1.length) (fun s=> .inl (yrQ s)) (fun i s hi hs=>⟨by
      simp only [ybz,ylH,ylU,hs,zjI (show (i:Int) < a0.2.2.1.length by omega),cond_true,wr (show -9223372036854775808≤(i:Int)+1 by omega) (by omega),Int.natCast_add,Int.natCast_one,Int.toNat_natCast,zkV]
      rw [yiU s i (s.2.2.2.2.2.2.2.1.tmod 2) (yA (s.1,s.2.2.2.2.2.2.2.1,(i:Int),s.2.1.1,s.2.1.2,s.2.2.2.2.2.2.1,s.2.2.2.1,s.2.2.2.2.1)) (zkO (by rw [hs]; exact hi))]
      rfl,(yMO s i).trans hs⟩) (fun s hs=>by simp only [ybz,ylH,ylU,hs,zkm (Int.le_refl _),cond_false]) (yaz a0) rfl _ (by show _ < 18446744073709551616; omega)
  unfold yjP yaa markA
  exact (congrArg (fun z=>zjw z _ _) h1).trans rfl
def yjt:Con:=⟨ye3,ymJ,fun x=>(fun n=>some ((),(n,()))) (yaa x.1)⟩
theorem ypN:ConOk Try.prog 155 yjt:=(yHe).mono (fun x r hk h=>(yI0 x.1 hk).trans h)
end
section
def yv0:Code:=(Try.f127.body).getD .skip
def ywx:Env:=zki TT [(155,yjt),(158,yju)] []
theorem yA9:FrOk Try.prog ⟨ywx,17,fun _=>none⟩ yv0:=zkp yc yd ⟨ypN,ypO,trivial⟩
def yCd:Nat→Option Seg:=fun _=>none
abbrev ygY:List Par:= [.pt tA (.pr .fz (.pr (.pr .fz .fz) (.pr (.ow (.pr (.ow .fz) (.pr (.ow (.pr .fz .fz)) (.pr .fz (.ow .fz))))) (.pr .fz (.pr .fz (.pr .fz (.pr .fz (.pr .fz (.pr (.ow (.pr .fz .fz)) (.pr .fz (.pr .fz .fz)))))))))))]
abbrev ykU:List OT:= []
def yns (a0:dA):Option (ResD ykU×MutD ygY) :=
  let r1:=yck a0
  bif r1.2.2.2.2.2.2.2.2.2.2.1 then
    some ((),(r1,()))
  else
    let r2:=yaa (r1.1,r1.2.1,r1.2.2.1,r1.2.2.2.1,r1.2.2.2.2.1,r1.2.2.2.2.2.1,r1.2.2.2.2.2.1,r1.2.2.2.2.2.2.2)
    some ((),(r2,()))
theorem yIo (x:InD ygY):zjH ⟨ywx,17,yCd⟩ Try.f127.results.toList yv0 ygY ykU x=yns x.1:=by kernel_rfl
theorem yEf:ConOk Try.prog 127 ⟨ygY,ykU,fun x=>yns x.1⟩:=zkh (yA9) Try.func127 (by kernel_rfl) (by kernel_rfl) Try.ntmps127.symm (by decide) (fun x r h=>(yIo x).trans h)
def yd4 (a0:dA):dA :=
  let r1:=yck a0
  bif r1.2.2.2.2.2.2.2.2.2.2.1 then
    r1
  else
    let r2:=yaa (r1.1,r1.2.1,r1.2.2.1,r1.2.2.2.1,r1.2.2.2.2.1,r1.2.2.2.2.2.1,r1.2.2.2.2.2.1,r1.2.2.2.2.2.2.2)
    r2
def ym9:Con:=⟨ygY,ykU,fun x=>(fun n=>some ((),(n,()))) (yd4 x.1)⟩
theorem yGE (a0:dA):yns a0=(fun n=>some ((),(n,()))) (yd4 a0):=zkS (p:=fun (n:dA)=>((),(n,()))) (zkx (p:=fun (n:dA)=>((),(n,()))) rfl rfl)
theorem yvy:ConOk Try.prog 127 ym9:=(yEf).mono (fun x r _ h=>(yGE x.1).trans h)
theorem yyB (a:dA):yd4 a=checkA a:=by
  unfold yd4 checkA yck yaa
  show (bif downA (yy a) then yy a else markA (yc1 (yy a)))=_
  rfl
end
section
def yxW:Code:=(Try.f191.body).getD .skip
def yym:Env:=zki TT [] []
theorem yCT:FrOk Try.prog ⟨yym,8,fun _=>none⟩ yxW:=zkp yc yd trivial
def yEU:Nat→Option Seg:=fun _=>none
abbrev yit:List Par:= [.rd tI]
abbrev ymy:List OT:= [⟨false,tI,.fz⟩]
def ypc (a0:Int):Option (ResD ymy×MutD yit) :=
  bif (ltb a0 0) then
    some (((-1),()),())
  else
    some (((IntKind.i64.wrap (2+(a0.tmod 4))),()),())
theorem yKJ (x:InD yit):zjH ⟨yym,8,yEU⟩ Try.f191.results.toList yxW yit ymy x=ypc x.1:=by kernel_rfl
theorem yGZ:ConOk Try.prog 191 ⟨yit,ymy,fun x=>ypc x.1⟩:=zkh (yCT) Try.func191 (by kernel_rfl) (by kernel_rfl) Try.ntmps191.symm (by decide) (fun x r h=>(yKJ x).trans h)
def yM (a0:Int):Int :=
  bif (ltb a0 0) then
    (-1)
  else
    (IntKind.i64.wrap (2+(a0.tmod 4)))
def yu9:Con:=⟨yit,ymy,fun x=>(fun n=>some ((n,()),())) (yM x.1)⟩
theorem yIQ (a0:Int):ypc a0=(fun n=>some ((n,()),())) (yM a0):=zkS (p:=fun (n:Int)=>((n,()),())) (zkx (p:=fun (n:Int)=>((n,()),())) rfl rfl)
theorem yJx:ConOk Try.prog 191 yu9:=(yGZ).mono (fun x r _ h=>(yIQ x.1).trans h)
end
section
def yy1:Code:=(Try.f200.body).getD .skip
def yzc:Env:=zki TT [(60,yp),(136,yeF)] []
theorem yFT:FrOk Try.prog ⟨yzc,22,fun _=>none⟩ yy1:=zkp yc yd ⟨yx,yjz,trivial⟩
def yHW:Nat→Option Seg:=fun _=>none
abbrev yj4:List Par:= [.rd tN]
abbrev yoy:List OT:= [⟨false,tB,.fz⟩]
def ypX (a0:dN):Option (ResD yoy×MutD yj4) :=
  let r1:=ya a0.1 0 60000
  bif r1 then
    let r2:=ya a0.2.1 0 7
    bif r2 then
      let r3:=ya (a0.2.2.length:Int) 2 4
      bif r3 then
        let r4:=yC a0.2.2
        some ((r4,()),())
      else
        some ((false,()),())
    else
      some ((false,()),())
  else
    some ((false,()),())
theorem yLW (x:InD yj4):zjH ⟨yzc,22,yHW⟩ Try.f200.results.toList yy1 yj4 yoy x=ypX x.1:=by kernel_rfl
theorem yJb:ConOk Try.prog 200 ⟨yj4,yoy,fun x=>ypX x.1⟩:=zkh (yFT) Try.func200 (by kernel_rfl) (by kernel_rfl) Try.ntmps200.symm (by decide) (fun x r h=>(yLW x).trans h)
def ycY (a0:dN):Bool :=
  let r1:=ya a0.1 0 60000
  bif r1 then
    let r2:=ya a0.2.1 0 7
    bif r2 then
      let r3:=ya (a0.2.2.length:Int) 2 4
      bif r3 then
        let r4:=yC a0.2.2
        r4
      else
        false
    else
      false
  else
    false
def ywH:Con:=⟨yj4,yoy,fun x=>(fun n=>some ((n,()),())) (ycY x.1)⟩
theorem yLa (a0:dN):ypX a0=(fun n=>some ((n,()),())) (ycY a0):=zkS (p:=fun (n:Bool)=>((n,()),())) (zkx (p:=fun (n:Bool)=>((n,()),())) (zkx (p:=fun (n:Bool)=>((n,()),())) (zkx (p:=fun (n:Bool)=>((n,()),())) rfl rfl) rfl) rfl)
theorem yLp:ConOk Try.prog 200 ywH:=(yJb).mono (fun x r _ h=>(yLa x.1).trans h)
abbrev yPv:dN:=(0,0,[])
def ytD (r:dN):List Int:=bif ycY r then 21322::r.1::r.2.1::(r.2.2.length:Int)::r.2.2 else []
def yOB (l:List Int):dN:=(nth l 1 0,nth l 2 0,l.drop 4)
def yP6 (l:List Int):dN×Bool:=bif leb 4 (l.length:Int)&&(nth l 0 0==21322&&(nth l 3 0==(l.length:Int) - 4&&ycY (yOB l))) then (yOB l,true) else (yPv,false)
theorem yNR {r:dN}:ycY r=true↔(0≤r.1∧r.1≤60000)∧(0≤r.2.1∧r.2.1≤7)∧(2≤(r.2.2.length:Int)∧(r.2.2.length:Int)≤4)∧r.2.2.all isW=true:=by
  unfold ycY
  simp only [yq1,← ytr]
  cases ya r.1 0 60000<;>cases ya r.2.1 0 7<;>cases ya (r.2.2.length:Int) 2 4<;>simp
def yhA (r:dN) (a:dA) (i:Nat):dA:=ycm a i (yM r.1) (ytD r)
def ybb (a:dA) (r:dN):dA:=yy ((List.range a.2.2.1.length).foldl (yhA r) a)
theorem ylk (r:dN) (a:dA) (i:Nat):(yhA r a i).2.2.1.length=a.2.2.1.length:=yiY _ _ _ _
theorem yMU (r:dN) {a:dA} (i:Nat) (h:downA a=true):yhA r a i=a:=ytE h _ _ _
theorem yOT (a:dA) (r:dN):(ybb a r).2.2.1.length=a.2.2.1.length:=(ytZ _).trans (yf5 (ylk r) _ _)
theorem yf9 (a:dA) (r:dN):yl (ybb a r)=yl a:=(yf3 _).trans (yqq (one:=yhA r) (fun _ _=>yko _ _ _ _) _ _)
theorem yzZ {one:dA→Nat→dA} {d:List dW} (hl: ∀ a i,(one a i).2.2.1.length=a.2.2.1.length) (ho: ∀ a i,yay d a→i < a.2.2.1.length→yay d (one a i)): ∀ (n:Nat) (a:dA),n≤a.2.2.1.length→yay d a→yay d ((List.range n).foldl one a)
  | 0,_,_,h=>h
  | n+1,a,hn,h=>by
    rw [List.range_succ,List.foldl_append]
    exact ho _ _ (yzZ hl ho n a (by omega) h) (by rw [yf5 hl]; exact hn)
theorem yPX {d:List dW} {a:dA} (r:dN) (h:yay d a):yay d (ybb a r):=yNP (yzZ (ylk r) (fun _ _ h hi=>yDN h (zkO hi)) _ a (Nat.le_refl _) h)
def ydM (p N x:Int) (data:List Int) (i:Int):Int:=bif i==p then x else nth data ((i - p - 1+N).tmod N) 0
def yb0 (p N s:Int) (data:List Int) (a:dA) (i:Nat):dA:=bif yaV a i s then ycm a i (dataAt s) [ydM p N (xorOf data) data i] else a
def yao (a:dA) (s:Int) (data:List Int):dA:=(List.range a.2.2.1.length).foldl (yb0 (yf a.2.1 s) a.2.1.1 s data) a
theorem ylY (p N s:Int) (data:List Int) (a:dA) (i:Nat):(yb0 p N s data a i).2.2.1.length=a.2.2.1.length:=by
  unfold yb0; cases yaV a i s
  · rfl
  · exact yiY _ _ _ _
theorem yLL (p N s:Int) (data:List Int) {a:dA} (i:Nat) (h:downA a=true):yb0 p N s data a i=a:=by
  unfold yb0; cases yaV a i s
  · rfl
  · exact ytE h _ _ _
theorem yzn (p N s:Int) (data:List Int) (a:dA) (i:Nat):yl (yb0 p N s data a i)=yl a:=by
  unfold yb0; cases yaV a i s
  · rfl
  · exact yko _ _ _ _
theorem yPQ (a:dA) (s:Int) (data:List Int):(yao a s data).2.2.1.length=a.2.2.1.length:=yf5 (ylY _ _ _ _) _ _
theorem yvn (a:dA) (s:Int) (data:List Int):yl (yao a s data)=yl a:=yqq (yzn _ _ _ _) _ _
theorem yPN {d:List dW} {a:dA} (s:Int) (data:List Int) (h:yay d a):yay d (yao a s data):=yzZ (ylY _ _ _ _) (fun a i h hi=>by
  unfold yb0; cases yaV a i s
  · exact h
  · exact yDN h (zkO hi)) _ a (Nat.le_refl _) h
theorem yPR {N i p:Int} (h:3≤N∧N≤5) (hi:0≤i∧i < N) (hp:0≤p∧p≤N - 1) (hne:i≠p):0≤(i - p - 1+N).tmod N∧(i - p - 1+N).tmod N < N - 1:=by
  rw [Int.tmod_eq_emod_of_nonneg (by omega)]
  have:N=3∨N=4∨N=5:=by omega
  rcases this with rfl | rfl | rfl<;>omega
theorem yPH {N p x:Int} {data:List Int} (h:3≤N∧N≤5) (hp:0≤p∧p≤N - 1) (hd:(data.length:Int)=N - 1) :
    (List.range data.length).foldl (fun l (i:Nat)=>l.set ((p+1+i).tmod N).toNat (nth data i 0)) ((List.replicate N.toNat 0).set p.toNat x)=(List.range N.toNat).map (fun (i:Nat)=>ydM p N x data i):=by
  have:N=3∨N=4∨N=5:=by omega
  rcases this with rfl | rfl | rfl
  · match data,hd with
    | [a,b],_ =>
      have:p=0∨p=1∨p=2:=by omega
      rcases this with rfl | rfl | rfl<;>simp [ydM,nth,List.range_succ,List.replicate_succ]
    | [],hd=>simp at hd
    | [_],hd=>simp at hd
    | _::_::_::_,hd=>simp only [List.length_cons]at hd; omega
  · match data,hd with
    | [a,b,c],_ =>
      have:p=0∨p=1∨p=2∨p=3:=by omega
      rcases this with rfl | rfl | rfl | rfl<;>simp [ydM,nth,List.range_succ,List.replicate_succ]
    | [],hd=>simp at hd
    | [_],hd=>simp at hd
    | [_,_],hd=>simp at hd
    | _::_::_::_::_,hd=>simp only [List.length_cons]at hd; omega
  · match data,hd with
    | [a,b,c,d],_ =>
      have:p=0∨p=1∨p=2∨p=3∨p=4:=by omega
      rcases this with rfl | rfl | rfl | rfl | rfl<;>simp [ydM,nth,List.range_succ,List.replicate_succ]
    | [],hd=>simp at hd
    | [_],hd=>simp at hd
    | [_,_],hd=>simp at hd
    | [_,_,_],hd=>simp at hd
    | _::_::_::_::_::_,hd=>simp only [List.length_cons]at hd; omega
def dsk (a:dA) (i:Int):dM:=nth a.2.2.1 i noMem
theorem yH7 {a:dA} {m i:Int} {x:dM} (hm:inb m a.2.2.1.length=true) (hi:0≤i):dsk (setMem a m x) i=bif m==i then x else dsk a i:=yty hm hi
def yeP (n:Int) (s:List Int) (m:dM):dM:=bif m.2.2.1 then m else (yB m n s).1
def Did (g:dM→dM) (i:Int) (a r:dA):Prop:=yl r=yl a∧r.2.2.1.length=a.2.2.1.length ∧
  ((downA r=false∧ ∀ j,0≤j→dsk r j=bif i==j then g (dsk a j) else dsk a j)∨(downA r=true∧ ∀ j,dsk r j=dsk a j))
theorem yAo {a:dA} {m:Int} (n:Int) (s:List Int) (h:downA a=false) (hm:inb m a.2.2.1.length=true):Did (yeP n s) m a (ycm a m n s):=by
  refine ⟨yko _ _ _ _,yiY _ _ _ _,?_⟩
  have hd:=yOl h m n s
  unfold ycm at hd ⊢
  cases hf:(nth a.2.2.1 m noMem).2.2.1
  · rw [hf]at hd
    cases ho:(yK a).1
    · rw [ho]at hd
      refine .inr ⟨hd,fun j=> ?_⟩
      show nth (yK a).2.2.2.1 j noMem=dsk a j
      rw [yT]; rfl
    · rw [ho]at hd
      refine .inl ⟨hd,fun j hj=> ?_⟩
      show dsk (setMem (yK a).2 m (yB (nth a.2.2.1 m noMem) n s).1) j=_
      rw [yH7 (by rw [yT]; exact hm) hj]
      cases hj2:(m==j)
      · show nth (yK a).2.2.2.1 j noMem=dsk a j
        rw [yT]; rfl
      · have:=beq_iff_eq.1 hj2
        subst this
        show _=yeP n s (dsk a m)
        unfold yeP dsk
        rw [hf]; rfl
  · refine .inl ⟨h,fun j hj=> ?_⟩
    cases hj2:(m==j)
    · rfl
    · have:=beq_iff_eq.1 hj2
      subst this
      show dsk a m=yeP n s (dsk a m)
      unfold yeP dsk
      rw [hf]; rfl
theorem yOp {a:dA} {i:Nat} (h:downA a=false) (hm:i < a.2.2.1.length):Did yq i a (yJ a i):=by
  refine ⟨yAb _ _,yiZ _ _,?_⟩
  have hd:=yMw h i
  unfold yJ at hd ⊢
  cases hf:(nth a.2.2.1 i noMem).2.2.1
  · rw [hf]at hd
    cases ho:(yK a).1
    · rw [ho]at hd
      refine .inr ⟨hd,fun j=> ?_⟩
      show nth (yK a).2.2.2.1 j noMem=dsk a j
      rw [yT]; rfl
    · rw [ho]at hd
      refine .inl ⟨hd,fun j hj=> ?_⟩
      show dsk (setMem (yK a).2 i (yq (nth a.2.2.1 i noMem))) j=_
      rw [yH7 (by rw [yT]; exact zkO hm) hj]
      cases hj2:((i:Int)==j)
      · show nth (yK a).2.2.2.1 j noMem=dsk a j
        rw [yT]; rfl
      · have:=beq_iff_eq.1 hj2
        subst this; rfl
  · refine .inl ⟨h,fun j hj=> ?_⟩
    cases hj2:((i:Int)==j)
    · rfl
    · have:=beq_iff_eq.1 hj2
      subst this
      show dsk a i=yq (dsk a i)
      unfold yq dsk
      rw [hf,Bool.not_true,Bool.and_false]; rfl
def Adv (g:Int→dM→dM) (a r:dA) (n:Nat):Prop:=yl r=yl a∧r.2.2.1.length=a.2.2.1.length ∧
  ∃ k:Nat,k≤n∧(∀ j:Int,0≤j→dsk r j=bif ltb j k then g j (dsk a j) else dsk a j)∧(downA r=false→k=n)
theorem ysy {one:dA→Nat→dA} {g:Int→dM→dM} {a:dA} (hs: ∀ b i,downA b=true→one b i=b)
    (ho: ∀ (b:dA) (i:Nat),yl b=yl a→b.2.2.1.length=a.2.2.1.length→i < a.2.2.1.length→downA b=false→dsk b i=dsk a i→Did (g i) i b (one b i)) (hd:downA a=false) :
    ∀ n,n≤a.2.2.1.length→Adv g a ((List.range n).foldl one a) n
  | 0,_=>⟨rfl,rfl,0,Nat.le_refl _,fun j hj=>by rw [zkm (show ((0:Nat):Int)≤j by omega)]; rfl,fun _=>rfl⟩
  | n+1,hn=>by
    obtain ⟨h1,h2,k,h3,h4,h5⟩:=ysy hs ho hd n (by omega)
    rw [List.range_succ,List.foldl_append,List.foldl_cons,List.foldl_nil]
    generalize (List.range n).foldl one a=R at h1 h2 h4 h5 ⊢
    cases hR:downA R
    · have hk:=h5 hR
      subst hk
      have e:dsk R k=dsk a k:=by rw [h4 k (by omega),zkm (Int.le_refl _)]; rfl
      obtain ⟨g1,g2,g3⟩:=ho R k h1 h2 (by omega) hR e
      refine ⟨g1.trans h1,g2.trans h2,?_⟩
      rcases g3 with ⟨g3,g4⟩ | ⟨g3,g4⟩
      · refine ⟨k+1,Nat.le_refl _,fun j hj=> ?_,fun _=>rfl⟩
        rw [g4 j hj]
        by_cases hj2:(k:Int)=j
        · subst hj2
          rw [show ((k:Int)==(k:Int))=true from beq_self_eq_true _,zjI (show (k:Int) < ((k+1:Nat):Int) by omega),e]; try rfl
        · rw [show ((k:Int)==j)=false from beq_eq_false_iff_ne.2 hj2,cond_false,h4 j hj,show ltb j ((k+1:Nat):Int)=ltb j k by rw [Bool.eq_iff_iff,zjT,zjT]; omega]
      · refine ⟨k,by omega,fun j hj=>by rw [g4 j,h4 j hj],fun h=> ?_⟩
        rw [g3]at h; cases h
    · rw [hs R n hR]
      exact ⟨h1,h2,k,by omega,h4,fun h=>by rw [hR]at h; cases h⟩
theorem yOo {a:dA} (hd:downA a=false):Adv (fun _=>yq) a (yy a) a.2.2.1.length :=
  ysy (one:=yJ) (g:=fun _=>yq) (fun _ i h=>yAc i h) (fun b i _ h2 hi hb _=>yOp hb (by omega)) hd _ (Nat.le_refl _)
theorem yLK {a b:dA} (h:yl b=yl a) (i:Int):yAp b i=yAp a i:=by
  unfold yl at h
  simp only [Prod.mk.injEq]at h
  obtain ⟨h1,h2,h3,h4,h5,h6,h7,h8,h9⟩:=h
  unfold yAp
  rw [h1,h2,h3,h4,h6,h7]
theorem ysX {a b:dA} (h:yl b=yl a):b.2.2.2.2.2.2.2.1=a.2.2.2.2.2.2.2.1:=congrArg (fun x=>x.2.2.2.2.2.2.1) h
theorem yCt {a b:dA} (h:yl b=yl a):b.2.2.2.2.2.2.2.2.2.2.2=a.2.2.2.2.2.2.2.2.2.2.2:=congrArg (fun x=>x.2.2.2.2.2.2.2.2) h
theorem yP3 {a b:dA} (h:yl b=yl a):b.1=a.1:=congrArg (fun x=>x.1) h
def yLE (a:dA) (i:Int) (m:dM):dM:=yeP (a.2.2.2.2.2.2.2.1.tmod 2) (yA (yAp a i)) m
theorem yOi {a:dA} (hd:downA a=false):Adv (yLE a) a ((List.range a.2.2.1.length).foldl ybn a) a.2.2.1.length :=
  ysy (one:=ybn) (g:=yLE a) (fun _ i h=>ytE h _ _ _) (fun b i h1 h2 hi hb _=>by
    have:=yAo (b.2.2.2.2.2.2.2.1.tmod 2) (yA (yAp b i)) hb (show inb (i:Int) b.2.2.1.length=true from zkO (by omega))
    rw [ysX h1,yLK h1]at this
    unfold yLE ybn
    rw [ysX h1,yLK h1]
    exact this) hd _ (Nat.le_refl _)
theorem yOS {a:dA} (r:dN) (hd:downA a=false):Adv (fun _=>yeP (yM r.1) (ytD r)) a ((List.range a.2.2.1.length).foldl (yhA r) a) a.2.2.1.length :=
  ysy (one:=yhA r) (g:=fun _=>yeP (yM r.1) (ytD r)) (fun _ i h=>yMU r i h) (fun b i _ h2 hi hb _=>yAo _ _ hb (zkO (by omega))) hd _ (Nat.le_refl _)
def yak (L B i s:Int) (m:dM):Bool:= !m.2.2.1&&(i !=L||ltb s B)
theorem yM5 {a:dA} {i s:Int} (hi:inb i a.2.2.1.length=true):yaV a i s=yak a.2.2.2.1 a.2.2.2.2.1 i s (dsk a i):=by
  unfold yaV yak dsk
  rw [hi]; rfl
def yjv (L B p N s:Int) (d:List Int) (i:Int) (m:dM):dM:=bif yak L B i s m then (yB m (dataAt s) [ydM p N (xorOf d) d i]).1 else m
theorem yN7 {a:dA} (s:Int) (d:List Int) (hd:downA a=false):Adv (yjv a.2.2.2.1 a.2.2.2.2.1 (yf a.2.1 s) a.2.1.1 s d) a (yao a s d) a.2.2.1.length :=
  ysy (one:=yb0 (yf a.2.1 s) a.2.1.1 s d) (g:=yjv a.2.2.2.1 a.2.2.2.2.1 (yf a.2.1 s) a.2.1.1 s d) (fun _ i h=>yLL _ _ _ _ i h) (fun b i h1 h2 hi hb _=>by
    have hib:inb (i:Int) b.2.2.1.length=true:=zkO (by omega)
    unfold yb0
    rw [yM5 hib,ynM h1,ydL h1]
    cases hl:yak a.2.2.2.1 a.2.2.2.2.1 i s (dsk b i)
    · refine ⟨rfl,rfl,.inl ⟨hb,fun j hj=> ?_⟩⟩
      by_cases hj2:(i:Int)=j
      · subst hj2
        rw [beq_self_eq_true]
        show dsk b i=yjv _ _ _ _ _ _ _ (dsk b i)
        unfold yjv
        rw [hl]; rfl
      · rw [show ((i:Int)==j)=false from beq_eq_false_iff_ne.2 hj2]; rfl
    · obtain ⟨g1,g2,g3⟩:=yAo (dataAt s) [ydM (yf a.2.1 s) a.2.1.1 (xorOf d) d i] hb hib
      refine ⟨g1,g2,g3.imp (fun ⟨g3,g4⟩=>⟨g3,fun j hj=> ?_⟩) id⟩
      show dsk (ycm b i (dataAt s) _) j=_
      rw [g4 j hj]
      by_cases hj2:(i:Int)=j
      · subst hj2
        rw [beq_self_eq_true,cond_true,cond_true]
        unfold yjv yeP
        rw [hl,cond_true]
        simp only [yak,Bool.and_eq_true,Bool.not_eq_true'] at hl
        rw [hl.1]; rfl
      · rw [show ((i:Int)==j)=false from beq_eq_false_iff_ne.2 hj2]; rfl) hd _ (Nat.le_refl _)
def yw (a:dA):dA:=bif leb 4 (IntKind.i64.wrap (a.2.2.2.2.2.1 - a.2.2.2.2.2.2.1)) then checkA a else a
def yaY (a:dA) (s:Int) (d:List Int):Int×dA :=
  bif downA (yw a) then (6,yw a) else
  bif downA (ybb (yw a) ((yw a).2.2.2.2.2.1,s,d)) then (6,ybb (yw a) ((yw a).2.2.2.2.2.1,s,d)) else
  (bif downA (yao (ydg (ybb (yw a) ((yw a).2.2.2.2.2.1,s,d))) s d) then 6 else 0,yao (ydg (ybb (yw a) ((yw a).2.2.2.2.2.1,s,d))) s d)
theorem yJW (a:dA):(checkA a).2.1=a.2.1:=by
  unfold checkA
  cases downA (yy a)
  · exact (yah (ynR (yc1 (yy a)))).trans (show (yy a).2.1=a.2.1 from yah (yf3 a))
  · exact yah (yf3 a)
theorem yH5 (a:dA):(yw a).2.1=a.2.1:=by
  unfold yw
  cases leb 4 (IntKind.i64.wrap (a.2.2.2.2.2.1 - a.2.2.2.2.2.2.1))
  · rfl
  · exact yJW a
theorem yP2 (a:dA):(yw a).2.2.1.length=a.2.2.1.length:=by
  unfold yw
  cases leb 4 (IntKind.i64.wrap (a.2.2.2.2.2.1 - a.2.2.2.2.2.2.1))
  · rfl
  · exact yqd a
def yAi (l:List dW) (k:Nat):List dW:=l.take k++l.drop (k+1)
def flushE (a:dA) (s:Int):Int×dA :=
  bif ltb (yE a.2.2.2.2.2.2.2.2.1 s) 0 then (0,a) else
  bif yH a s (nth a.2.2.2.2.2.2.2.2.1 (yE a.2.2.2.2.2.2.2.2.1 s) (0,[])).2 !=0 then (yH a s (nth a.2.2.2.2.2.2.2.2.1 (yE a.2.2.2.2.2.2.2.2.1 s) (0,[])).2,a) else
  bif (yaY a s (nth a.2.2.2.2.2.2.2.2.1 (yE a.2.2.2.2.2.2.2.2.1 s) (0,[])).2).1==0 then
    (0,ytJ (yaY a s (nth a.2.2.2.2.2.2.2.2.1 (yE a.2.2.2.2.2.2.2.2.1 s) (0,[])).2).2 (yAi a.2.2.2.2.2.2.2.2.1 (yE a.2.2.2.2.2.2.2.2.1 s).toNat))
  else yaY a s (nth a.2.2.2.2.2.2.2.2.1 (yE a.2.2.2.2.2.2.2.2.1 s) (0,[])).2
theorem yuY {a:dA} {s:Int} {d:List Int} (h:yH a s d=0):yu a=true∧(d.length:Int)=a.2.1.1 - 1∧d.all isW=true∧downA a=false∧yV a.2.1 s=true∧a.2.2.2.2.2.2.2.2.2.2.2=false∧a.2.2.2.2.2.1 < 60000∧a.2.2.2.2.2.2.2.1 < 59990:=by
  unfold yH at h
  simp only [yhk,yq1,ybB]at h
  cases ha:yu a
  · rw [ha]at h; exact absurd (show (1:Int)=0 from h) (by decide)
  have hg:=yk.1 (ycT ha)
  rw [ha,wr (show -9223372036854775808≤a.2.1.1 - 1 by omega) (by omega),wr (show -9223372036854775808≤a.2.1.2 - 1 by omega) (by omega)] at h
  cases hl:((d.length:Int) !=a.2.1.1 - 1)
  · cases hw:d.all isW
    · rw [hl,hw]at h; exact absurd (show (1:Int)=0 from h) (by decide)
    cases hd:a.2.2.2.2.2.2.2.2.2.2.1
    · cases hs:(leb 0 s&&leb s (a.2.1.2 - 1))
      · rw [hl,hw,hd,hs]at h; exact absurd (show (2:Int)=0 from h) (by decide)
      cases hb:a.2.2.2.2.2.2.2.2.2.2.2
      · cases h6:leb 60000 a.2.2.2.2.2.1
        · cases h7:leb 59990 a.2.2.2.2.2.2.2.1
          · have e6: ¬ (60000≤a.2.2.2.2.2.1):=fun g=>by rw [zk0 g]at h6; cases h6
            have e7: ¬ (59990≤a.2.2.2.2.2.2.2.1):=fun g=>by rw [zk0 g]at h7; cases h7
            exact ⟨rfl,bne_eq_false_iff_eq.1 hl,rfl,hd,by unfold yV; rw [ycT ha,hs]; rfl,rfl,by omega,by omega⟩
          · rw [hl,hw,hd,hs,hb,h6,h7]at h; exact absurd (show (7:Int)=0 from h) (by decide)
        · rw [hl,hw,hd,hs,hb,h6]at h; exact absurd (show (7:Int)=0 from h) (by decide)
      · rw [hl,hw,hd,hs,hb]at h; exact absurd (show (5:Int)=0 from h) (by decide)
    · rw [hl,hw,hd]at h; exact absurd (show (6:Int)=0 from h) (by decide)
  · rw [hl]at h; exact absurd (show (1:Int)=0 from h) (by decide)
theorem yJX (a:dA):(yw a).2.2.2.2.2.2.2.2.1=a.2.2.2.2.2.2.2.2.1:=by
  unfold yw
  cases leb 4 (IntKind.i64.wrap (a.2.2.2.2.2.1 - a.2.2.2.2.2.2.1))
  · rfl
  · exact yp3 a
theorem yMV (a:dA):(ydg a).2.2.2.2.2.2.2.2.1=a.2.2.2.2.2.2.2.2.1:=rfl
theorem yMZ (a:dA) (s:Int) (d:List Int):(yaY a s d).2.2.2.2.2.2.2.2.2.1=a.2.2.2.2.2.2.2.2.1:=by
  unfold yaY
  have h2:=(yFm (yf9 (yw a) ((yw a).2.2.2.2.2.1,s,d))).trans (yJX a)
  generalize ybb (yw a) ((yw a).2.2.2.2.2.1,s,d)=R at h2 ⊢
  have h3:=(yFm (yvn (ydg R) s d)).trans ((yMV R).trans h2)
  generalize yao (ydg R) s d=Q at h3 ⊢
  cases downA (yw a)
  · cases downA R
    · exact h3
    · exact h2
  · exact yJX a
theorem yNB {l:List dW} {k:Int} (h0:0≤k) (h1:k < (l.length:Int)):(([]:List dW)++((l.drop (0:Int).toNat).take (k - 0).toNat))++((l.drop (k+1).toNat).take ((l.length:Int) - (k+1)).toNat)=yAi l k.toNat:=by
  unfold yAi
  rw [List.nil_append,show (0:Int).toNat=0 from rfl,List.drop_zero,Int.sub_zero,show (k+1).toNat=k.toNat+1 by omega,List.take_of_length_le (l:=l.drop (k.toNat+1)) (by rw [List.length_drop]; omega)]
def ypB (_:Nat) (a:dA):dA ⊕ (Int×dA):=bif (flushE a (nth a.2.2.2.2.2.2.2.2.1 0 (0,[])).1).1 !=0 then .inr (flushE a (nth a.2.2.2.2.2.2.2.2.1 0 (0,[])).1) else .inl (flushE a (nth a.2.2.2.2.2.2.2.2.1 0 (0,[])).1).2
def allE (a:dA):Int×dA:=goE ypB (fun b=>(0,b)) a.2.2.2.2.2.2.2.2.1.length 0 a
theorem yNi {e:dW} {l:List dW}:yE (e::l) e.1=0:=by
  unfold yE
  rw [yr6,show (e.1==e.1)=true from beq_self_eq_true _]; rfl
theorem yNk {a:dA} (h:0 < a.2.2.2.2.2.2.2.2.1.length) (h0:(flushE a (nth a.2.2.2.2.2.2.2.2.1 0 (0,[])).1).1=0):(flushE a (nth a.2.2.2.2.2.2.2.2.1 0 (0,[])).1).2.2.2.2.2.2.2.2.2.1=a.2.2.2.2.2.2.2.2.1.drop 1:=by
  unfold flushE at h0 ⊢
  have hk:yE a.2.2.2.2.2.2.2.2.1 (nth a.2.2.2.2.2.2.2.2.1 0 (0,[])).1=0:=by
    cases hl:a.2.2.2.2.2.2.2.2.1 with
    | nil=>rw [hl]at h; exact absurd h (Nat.lt_irrefl 0)
    | cons e l=>exact yNi
  rw [hk]at h0 ⊢
  generalize (nth a.2.2.2.2.2.2.2.2.1 0 (0,[])).2=D at h0 ⊢
  generalize (nth a.2.2.2.2.2.2.2.2.1 0 (0,[])).1=s at h0 ⊢
  cases hc:(yH a s D !=0)
  · rw [hc]at h0
    cases hr:((yaY a s D).1==0)
    · rw [hr]at h0
      exact absurd (show (yaY a s D).1=0 from h0) (beq_eq_false_iff_ne.1 hr)
    · rfl
  · rw [hc]at h0
    exact absurd (show yH a s D=0 from h0) (bne_iff_ne.1 hc)
inductive Turned (a:dA):dA→Prop where
  | same:Turned a a
  | put (b x:Int):blkOk a.2.1 b=true→isW x=true→Turned a (setOne a b x).2
  | flush (s:Int):Turned a (flushE a s).2
  | all:Turned a (allE a).2
  | fail (m:Int):a.2.2.2.1= -1→inb m a.2.2.1.length=true→Turned a (failOne a m)
  | spare:inb a.2.2.2.1 a.2.2.1.length=true→(nth a.2.2.1 a.2.2.2.1 noMem).2.2.1=true→Turned a (markA (spareNew a))
  | step:inb a.2.2.2.1 a.2.2.1.length=true→(nth a.2.2.1 a.2.2.2.1 noMem).2.2.1=false→a.2.2.2.2.1 < a.2.1.2→Turned a (stepOne a).2
  | check:Turned a (checkA a)
  | spoil (m s:Int):inb m a.2.2.1.length=true→0≤s→s < a.2.1.2→Turned a (setMem a m (spoil (nth a.2.2.1 m noMem) (dataAt s)))
def yLD (g:dG) (e:dW):Prop:=(0≤e.1∧e.1≤g.2 - 1)∧(e.2.length:Int)=g.1 - 1∧e.2.all isW=true
theorem yqf {g:dG} {l:List dW}:yab g l=true↔(∀ e∈l,yLD g e)∧l.Pairwise (fun x y=>x.1 < y.1):=by
  have bad: ∀ i,ye5 g l i=false↔yLD g (nth l i (0,[]))∧(0 < i→(nth l ((i - 1:Nat):Int) (0,[])).1 < (nth l i (0,[])).1):=by
    intro i
    unfold ye5 yLD
    simp only [Bool.or_eq_false_iff,Bool.not_eq_false',bne_eq_false_iff_eq,Bool.and_eq_true,Bool.and_eq_false_iff,decide_eq_false_iff_not,zjQ]
    constructor
    · rintro ⟨h1,h2,h3,h4⟩
      refine ⟨⟨h1,h2,h3⟩,fun h0=> ?_⟩
      rcases h4 with h4 | h4
      · exact absurd h0 h4
      · have:=mt zk0 (by rw [h4]; simp: ¬ leb (nth l i (0,[])).1 (nth l ((i - 1:Nat):Int) (0,[])).1=true)
        omega
    · rintro ⟨⟨h1,h2,h3⟩,h4⟩
      refine ⟨h1,h2,h3,?_⟩
      by_cases h0:0 < i
      · exact .inr (zkZ (by have:=h4 h0; omega))
      · exact .inl h0
  unfold yab
  simp only [Bool.not_eq_true',List.any_eq_false,List.mem_range,Bool.not_eq_true,bad]
  constructor
  · intro h
    refine ⟨fun e he=> ?_,?_⟩
    · obtain ⟨i,hi,rfl⟩:=List.getElem_of_mem he
      have:=(h i hi).1
      rwa [zjW,zcq hi]at this
    · rw [List.pairwise_iff_getElem]
      have step: ∀ (d i:Nat) (hi:i < l.length) (hj:i+d+1 < l.length),l[i].1 < l[i+d+1].1:=by
        intro d
        induction d with
        | zero =>
          intro i hi hj
          have:=(h (i+1) hj).2 (by omega)
          rwa [Nat.add_sub_cancel,zjW,zjW,zcq hi,zcq hj]at this
        | succ d ih =>
          intro i hi hj
          have h1:=ih i hi (by omega)
          have:=(h (i+d+1+1) hj).2 (by omega)
          rw [Nat.add_sub_cancel,zjW,zjW,zcq (show i+d+1 < l.length by omega),zcq (show i+d+1+1 < l.length from hj)] at this
          exact Int.lt_trans h1 this
      intro i j hi hj hij
      have:=step (j - i - 1) i hi (by omega)
      have e:i+(j - i - 1)+1=j:=by omega
      simp only [e]at this
      exact this
  · rintro ⟨h1,h2⟩ i hi
    rw [List.pairwise_iff_getElem]at h2
    refine ⟨by rw [zjW,zcq hi]; exact h1 _ (List.getElem_mem hi),fun h0=> ?_⟩
    rw [zjW,zjW,zcq hi,zcq (show i - 1 < l.length by omega)]
    exact h2 (i - 1) i (by omega) hi (by omega)
theorem yJ1 {g:dG} {l:List dW} (k:Nat) (h:yab g l=true):yab g (yAi l k)=true:=by
  rw [yqf]at h ⊢
  have hs:(yAi l k).Sublist l:=by
    unfold yAi
    have:(l.take k++l.drop (k+1)).Sublist (l.take k++l.drop k):=List.Sublist.append_left (by rw [← List.drop_drop]; exact List.drop_sublist _ _) _
    rwa [List.take_append_drop]at this
  exact ⟨fun e he=>h.1 e (hs.subset he),h.2.sublist hs⟩
theorem yMr (e:dW): ∀ (l acc:List dW),l.foldl (yaX e) (true,acc)=(true,acc++l.filter (fun x=>x.1 !=e.1))
  | [],acc=>by simp
  | x::t,acc=>by
    rw [List.foldl_cons]
    have:yaX e (true,acc) x=(true,acc++(bif x.1 !=e.1 then [x] else [])):=rfl
    rw [this,yMr e t,List.filter_cons]
    cases x.1 !=e.1<;>simp
theorem yNQ {e:dW} {l:List dW} (h:l.Pairwise (fun x y=>x.1 < y.1)):yz9 l e=l.filter (fun x=>ltb x.1 e.1)++e::l.filter (fun x=>ltb e.1 x.1):=by
  have: ∀ (l acc:List dW),l.Pairwise (fun x y=>x.1 < y.1)→(bif (l.foldl (yaX e) (false,acc)).1 then (l.foldl (yaX e) (false,acc)).2 else (l.foldl (yaX e) (false,acc)).2++ [e])=acc++(l.filter (fun x=>ltb x.1 e.1)++e::l.filter (fun x=>ltb e.1 x.1)):=by
    intro l
    induction l with
    | nil=>intro acc _; simp
    | cons x t ih =>
      intro acc h
      obtain ⟨hx,ht⟩:=List.pairwise_cons.1 h
      rw [List.foldl_cons]
      by_cases hle:e.1≤x.1
      · have h1:yaX e (false,acc) x=(true,(acc++ [e])++(bif x.1 !=e.1 then [x] else [])):=by
          unfold yaX; rw [zk0 hle]; rfl
        have h2:t.filter (fun x=>x.1 !=e.1)=t:=List.filter_eq_self.2 (fun y hy=>bne_iff_ne.2 (by have:=hx y hy; omega))
        have h3:t.filter (fun x=>ltb x.1 e.1)= []:=List.filter_eq_nil_iff.2 (fun y hy=>by rw [zkm (by have:=hx y hy; omega)]; simp)
        have h4:t.filter (fun x=>ltb e.1 x.1)=t:=List.filter_eq_self.2 (fun y hy=>zjI (by have:=hx y hy; omega))
        rw [h1,yMr,h2,List.filter_cons,List.filter_cons,h3,h4,zkm (show e.1≤x.1 by omega)]
        by_cases he:x.1=e.1
        · rw [show (x.1 !=e.1)=false from bne_eq_false_iff_eq.2 he,zkm (show x.1≤e.1 by omega)]; simp
        · rw [show (x.1 !=e.1)=true from bne_iff_ne.2 he,zjI (show e.1 < x.1 by omega)]; simp
      · have h1:yaX e (false,acc) x=(false,acc++ [x]):=by
          unfold yaX; rw [zkZ (show x.1 < e.1 by omega),show (x.1 !=e.1)=true from bne_iff_ne.2 (by omega)]; rfl
        rw [h1,ih _ ht,List.filter_cons,List.filter_cons,zjI (show x.1 < e.1 by omega),zkm (show x.1≤e.1 by omega)]
        simp
  have:=this l [] h
  rw [List.nil_append]at this
  exact this
theorem yJ2 {g:dG} {l:List dW} {e:dW} (h:yab g l=true) (he:yLD g e):yab g (yz9 l e)=true:=by
  rw [yqf]at h ⊢
  rw [yNQ h.2]
  refine ⟨fun x hx=> ?_,?_⟩
  · rcases List.mem_append.1 hx with h1 | h1
    · exact h.1 x (List.mem_filter.1 h1).1
    · rcases List.mem_cons.1 h1 with rfl | h1
      · exact he
      · exact h.1 x (List.mem_filter.1 h1).1
  · rw [List.pairwise_append,List.pairwise_cons]
    refine ⟨h.2.filter _,⟨fun y hy=>zjT.1 (List.mem_filter.1 hy).2,h.2.filter _⟩,fun x hx y hy=> ?_⟩
    have h1:=zjT.1 (List.mem_filter.1 hx).2
    rcases List.mem_cons.1 hy with rfl | hy
    · exact h1
    · exact Int.lt_trans h1 (zjT.1 (List.mem_filter.1 hy).2)
theorem yqg {g:dG} {l:List dW} (h:yab g l=true) (hg:yb g=true):l.length≤8:=by
  rw [yqf]at h
  have hg:=yk.1 hg
  have:=yAg (l:=l.map (fun e=>e.1)) (lo:=0) (n:=g.2) (by rw [List.pairwise_map]; exact h.2) (fun x hx=>by
    obtain ⟨e,he,rfl⟩:=List.mem_map.1 hx
    have:=(h.1 e he).1; omega) (by omega)
  rw [List.length_map]at this
  omega
theorem yMh {a:dA} (r:dN) (h:Keep a):Keep (ybb a r) :=
  ynQ (yhQ (P:=Keep) (one:=yhA r) (ylk r) (fun _ _ h hi=>yts h (zkO hi)) _ a (Nat.le_refl _) h)
theorem yOc {a:dA} (r:dN) (h:yea a):yea (ybb a r) :=
  yqs (yhQ (P:=yea) (one:=yhA r) (ylk r) (fun _ _ h _=>yxl h _ _ _) _ a (Nat.le_refl _) h)
theorem yJ7 {a:dA} (s:Int) (d:List Int) (h:Keep a):Keep (yao a s d) :=
  yhQ (P:=Keep) (one:=yb0 (yf a.2.1 s) a.2.1.1 s d) (ylY _ _ _ _) (fun b i h hi=>by
    unfold yb0
    cases yaV b i s
    · exact h
    · exact yts h (zkO hi)) _ a (Nat.le_refl _) h
theorem yNG {a:dA} (s:Int) (d:List Int) (h:yea a):yea (yao a s d) :=
  yhQ (P:=yea) (one:=yb0 (yf a.2.1 s) a.2.1.1 s d) (ylY _ _ _ _) (fun b i h hi=>by
    unfold yb0
    cases yaV b i s
    · exact h
    · exact yxl h _ _ _) _ a (Nat.le_refl _) h
theorem yPo {k:Int} {a:dA} (r:dN) (h:Wk k a):Wk k (ybb a r):=ysc (yf9 _ _) (yMh r h.2.1) (yOc r h.2.2.1) h
theorem yOW {k:Int} {a:dA} (s:Int) (d:List Int) (h:Wk k a):Wk k (yao a s d):=ysc (yvn _ _ _) (yJ7 s d h.2.1) (yNG s d h.2.2.1) h
theorem yOt {k:Int} {a:dA} (h:Wk k a) (h1:a.2.2.2.2.2.1 < 60000) (h2:a.2.2.2.2.2.1 - a.2.2.2.2.2.2.1≤3):Wk k (ydg a):=by
  obtain ⟨⟨c1,c2,c3,c4,c5,c6,c7,c8,c9,c10,c11⟩,g2,g3,g4,g5⟩:=h
  have e:IntKind.i64.wrap (a.2.2.2.2.2.1+1)=a.2.2.2.2.2.1+1:=wr (by omega) (by omega)
  refine ⟨⟨c1,c2,c3,c4,c5,c6,c7,⟨?_,?_⟩,?_,c10,c11⟩,g2,g3,g4,g5⟩
  · show a.2.2.2.2.2.2.1≤IntKind.i64.wrap (a.2.2.2.2.2.1+1); omega
  · show IntKind.i64.wrap (a.2.2.2.2.2.1+1)≤60000; omega
  · show IntKind.i64.wrap (a.2.2.2.2.2.1+1)≤a.2.2.2.2.2.2.1+4; omega
theorem yhP {a b:dA} (h:yl a=yl b):a.2.2.2.2.2.1=b.2.2.2.2.2.1:=congrArg (fun x=>x.2.2.2.2.1) h
theorem yJY {a b:dA} (h:yl a=yl b):a.2.2.2.2.2.2.1=b.2.2.2.2.2.2.1:=congrArg (fun x=>x.2.2.2.2.2.1) h
theorem yFk {a:dA} (h:yea a):yl (checkA a)=yl (yaz (yc1 a)):=by
  rw [yxf h,ynR]
  have:=yf3 a
  unfold yl at this ⊢
  simp only [Prod.mk.injEq]at this
  obtain ⟨h1,h2,h3,h4,h5,h6,h7,h8,h9⟩:=this
  unfold yaz yc1
  simp only [h1,h2,h3,h4,h5,h7,h8,h9]
theorem yPm {k:Int} {a:dA} (h:Wk k a) (hk:k+1≤60000):Wk (k+1) (yw a)∧(yw a).2.2.2.2.2.1=a.2.2.2.2.2.1∧(yw a).2.2.2.2.2.1 - (yw a).2.2.2.2.2.2.1≤3:=by
  have c:=h.1
  unfold coreOk at c
  unfold yw
  rw [wr (by omega) (by omega)]
  cases h4:leb 4 (a.2.2.2.2.2.1 - a.2.2.2.2.2.2.1)
  · refine ⟨yaU h (by omega),rfl,?_⟩
    have: ¬ (4≤a.2.2.2.2.2.1 - a.2.2.2.2.2.2.1):=fun g=>by rw [zk0 g]at h4; cases h4
    show a.2.2.2.2.2.1 - a.2.2.2.2.2.2.1≤3; omega
  · have e1:(checkA a).2.2.2.2.2.1=a.2.2.2.2.2.1:=(yhP (yFk h.2.2.1)).trans rfl
    have e2:(checkA a).2.2.2.2.2.2.1=a.2.2.2.2.2.1:=(yJY (yFk h.2.2.1)).trans rfl
    rw [cond_true]
    exact ⟨yMC h hk,e1,by omega⟩
theorem yOw {k:Int} {a:dA} (s:Int) (d:List Int) (h:Wk k a) (hs:a.2.2.2.2.2.1 < 60000) (hk:k+1≤60000):Wk (k+1) (yaY a s d).2∧(yaY a s d).1=0:=by
  obtain ⟨h1,h2,h3⟩:=yPm h hk
  have h4:=yPo ((yw a).2.2.2.2.2.1,s,d) h1
  have e1:=yhP (yf9 (yw a) ((yw a).2.2.2.2.2.1,s,d))
  have e2:=yJY (yf9 (yw a) ((yw a).2.2.2.2.2.1,s,d))
  unfold yaY
  generalize ybb (yw a) ((yw a).2.2.2.2.2.1,s,d)=R at h4 e1 e2 ⊢
  have h5:=yOW s d (yOt h4 (by omega) (by omega))
  generalize yao (ydg R) s d=Q at h5 ⊢
  rw [h1.2.2.1.1,h4.2.2.1.1,h5.2.2.1.1]
  exact ⟨h5,rfl⟩
theorem yB4 {k:Int} {a:dA} {l:List dW} (h:Wk k a) (hd:yab a.2.1 l=true):Wk k (ytJ a l):=by
  obtain ⟨⟨c1,c2,c3,c4,c5,c6,c7,c8,c9,c10,c11⟩,g2,g3,g4,g5⟩:=h
  exact ⟨⟨c1,c2,hd,c4,c5,c6,c7,c8,c9,c10,c11⟩,g2,g3,g4,g5⟩
theorem yKk (a:dA) (s:Int) (d:List Int):(yaY a s d).2.2.1=a.2.1:=by
  unfold yaY
  have h2:=(yah (yf9 (yw a) ((yw a).2.2.2.2.2.1,s,d))).trans (yH5 a)
  generalize ybb (yw a) ((yw a).2.2.2.2.2.1,s,d)=R at h2 ⊢
  have h3:=(yah (yvn (ydg R) s d)).trans (show (ydg R).2.1=a.2.1 from h2)
  generalize yao (ydg R) s d=Q at h3 ⊢
  cases downA (yw a)
  · cases downA R
    · exact h3
    · exact h2
  · exact yH5 a
theorem yMD {k:Int} {a:dA} (s:Int) (h:Wk k a) (hk:k+1≤60000):Wk (k+1) (flushE a s).2:=by
  unfold flushE
  cases ltb (yE a.2.2.2.2.2.2.2.2.1 s) 0
  · generalize hD:(nth a.2.2.2.2.2.2.2.2.1 (yE a.2.2.2.2.2.2.2.2.1 s) (0,[])).2=D
    cases hc:(yH a s D !=0)
    · have hz:=yuY (bne_eq_false_iff_eq.1 hc)
      obtain ⟨h1,h2⟩:=yOw s D h hz.2.2.2.2.2.2.1 hk
      rw [show ((yaY a s D).1==0)=true from beq_iff_eq.2 h2]
      exact yB4 h1 (by rw [yKk]; exact yJ1 _ h.1.2.2.1)
    · exact yaU h (by omega)
  · exact yaU h (by omega)
theorem yME {k:Int}: ∀ (n i:Nat) (j:Int) (a:dA),Wk j a→j+n≤k→k≤60000→Wk k (goE ypB (fun b=>((0:Int),b)) n i a).2
  | 0,_,j,a,h,h1,_=>yaU h (by omega)
  | n+1,i,j,a,h,h1,h2=>by
    have h3:=yMD (nth a.2.2.2.2.2.2.2.2.1 0 (0,[])).1 h (by omega)
    unfold goE ypB
    cases ((flushE a (nth a.2.2.2.2.2.2.2.2.1 0 (0,[])).1).1 !=0)
    · exact yME n (i+1) (j+1) _ h3 (by omega) h2
    · exact yaU h3 (by omega)
theorem yPk {k:Int} {a:dA} (h:Wk k a) (hk:k+8≤60000):Wk (k+8) (allE a).2:=by
  have:=yqg h.1.2.2.1 h.1.1
  exact yME _ 0 k a h (by omega) hk
theorem yPp {k:Int} {a:dA} {b n:Int} (h:Wk k a) (hb:blkOk a.2.1 b=true) (hn:isW n=true):Wk k (setOne a b n).2:=by
  unfold setOne
  cases hs:(yav a (yaK a.2.1 b)).2
  · exact h
  · have hstr:=yvR hb
    have hl:=yq2 (yPl h) hstr hs
    refine yB4 h (yJ2 h.1.2.2.1 ⟨(yX.1 hstr).2,by rw [List.length_set]; exact hl,yJP ?_ hn⟩)
    unfold yav
    cases hk:leb 0 (yE a.2.2.2.2.2.2.2.2.1 (yaK a.2.1 b))
    · rw [h.2.2.2.1]; exact yJZ _ _
    · have:=(ypI (d:=((0:Int),([]:List Int))) hk).1
      exact ysb (P:=fun e:dW=>e.2.all isW=true) this (fun e he=>((yqf.1 h.1.2.2.1).1 e he).2.2)
theorem ypH {a:dA} (h:Keep a) {i:Int} (h0:0≤i) (h1:i < a.2.1.1):ym (dsk a i)=true∧((dsk a i).1.length:Int)=6+a.2.1.2∧((dsk a i).2.2.1=true→i=a.2.2.2.1∨a.2.2.2.2.2.2.2.2.2.2.2=true):=by
  have:=h.1.1 i.toNat (by have:=h.1.2; omega)
  unfold yqT at this
  rw [Int.toNat_of_nonneg h0]at this
  exact this
theorem yxg {s:Int} (h0:0≤s) (h1:s≤1000):dataAt s=s+6:=by
  unfold dataAt
  rw [zk0 h0,zk0 (show s≤1099511627776 by omega)]; rfl
def ycH (a:dA) (s i:Int):Bool:=yak a.2.2.2.1 a.2.2.2.2.1 i s (dsk a i)&& !(ym5 (dsk a i) (s+6))
def View (V:Int→Int→Int) (a:dA):Prop:= ∀ i s,0≤i→i < a.2.1.1→0≤s→s < a.2.1.2→ycH a s i=true→ykd (dsk a i) (s+6)= [V s i]
def vlist (V:Int→Int→Int) (N:Int) (s:Int):List Int:=(List.range N.toNat).map (fun (i:Nat)=>V s i)
structure EvV (g:dG) (V:Int→Int→Int):Prop where
  ev: ∀ s,0≤s→s < g.2→xorOf (vlist V g.1 s)=0
  ew: ∀ s i,0≤s→s < g.2→0≤i→i < g.1→isW (V s i)=true
theorem yvG {V:Int→Int→Int} {a:dA} {i s:Int} (hg:yb a.2.1=true) (hk:Keep a) (hv:View V a) (i0:0≤i) (i1:i < a.2.1.1) (s0:0≤s) (s1:s < a.2.1.2):yj a i s=ycH a s i∧(ycH a s i=true→ykB a i s=V s i):=by
  have hge:=yk.1 hg
  have hin:inb i a.2.2.1.length=true:=zjP.2 (by have:=hk.1.2; omega)
  obtain ⟨d1,d2,d3⟩:=ypH hk i0 i1
  have key:yak a.2.2.2.1 a.2.2.2.2.1 i s (dsk a i)=true→ybA a i s=bif ym5 (dsk a i) (s+6) then ([],false) else (ykd (dsk a i) (s+6),true):=fun hl=>by
    simp only [yak,Bool.and_eq_true,Bool.not_eq_true'] at hl
    unfold ybA
    rw [yxg s0 (by omega)]
    exact yOm d1 hl.1 (zjP.2 (show 0≤s+6∧s+6 < ((dsk a i).1.length:Int) by omega))
  have hw:yj a i s=ycH a s i:=by
    unfold yj
    rw [yM5 hin]
    cases hl:yak a.2.2.2.1 a.2.2.2.2.1 i s (dsk a i)
    · unfold ycH; rw [hl]; rfl
    · rw [key hl]
      cases hb:ym5 (dsk a i) (s+6)
      · have hh:ycH a s i=true:=by unfold ycH; rw [hl,hb]; rfl
        rw [hh,cond_false,hv i s i0 i1 s0 s1 hh]; rfl
      · unfold ycH; rw [hl,hb]; rfl
  refine ⟨hw,fun hh=> ?_⟩
  unfold ykB
  rw [hw,hh,cond_true]
  have hh':=hh
  unfold ycH at hh'
  rw [Bool.and_eq_true,Bool.not_eq_true'] at hh'
  rw [key hh'.1,hh'.2,cond_false,hv i s i0 i1 s0 s1 hh]; rfl
theorem yOy: ∀ (l:List Int) (k:Nat) (x:Int),k < l.length→ycn (l.set k x)=ycn l ^^^ bv (nth l k 0) ^^^ bv x:=by
  intro l k x hk
  have e1:l=l.take k++nth l k 0::l.drop (k+1):=by
    rw [zjW,zcq hk,← List.drop_eq_getElem_cons hk,List.take_append_drop]
  have e2:l.set k x=l.take k++x::l.drop (k+1):=by
    rw [List.set_eq_take_append_cons_drop,if_pos hk]
  have fo: ∀ (l:List Int) (v:BitVec 64),l.foldl (fun v x=>v ^^^ bv x) v=v ^^^ ycn l:=by
    intro l
    induction l with
    | nil=>intro v; show v=v ^^^ 0#64; rw [BitVec.xor_zero]
    | cons y t ih =>
      intro v
      unfold ycn
      rw [List.foldl_cons,List.foldl_cons,ih,ih (0#64 ^^^ bv y),BitVec.zero_xor,BitVec.xor_assoc]
  have cut: ∀ (A:List Int) (y:Int) (B:List Int),ycn (A++y::B)=ycn A ^^^ bv y ^^^ ycn B:=fun A y B=>by
    show (A++y::B).foldl _ _=_
    rw [List.foldl_append,List.foldl_cons,fo]; rfl
  rw [e2,cut]
  conv=>rhs; rw [e1]
  rw [cut]
  have hn:nth (List.take k l++nth l (↑k) 0::List.drop (k+1) l) (k:Int) 0=nth l k 0:=by rw [← e1]
  rw [hn,BitVec.xor_assoc (ycn (l.take k)),BitVec.xor_assoc (ycn (l.take k)),BitVec.xor_comm (bv (nth l k 0)),BitVec.xor_assoc (ycn (l.take k)),yKn,BitVec.xor_comm (bv x),BitVec.xor_assoc]
theorem yHQ {l:List Int} (h:xorOf l=0):ycn l=0#64:=by
  rw [yib]at h
  have:=congrArg bv h
  rw [ym6]at this
  rw [this]; rfl
theorem yKa {p:Nat→Bool}: ∀ {n:Nat},ycM p n=false→ ∀ j,j < n→p j=true∨(j:Int)=yn p n
  | 0,_,j,hj=>absurd hj (Nat.not_lt_zero _)
  | n+1,h,j,hj=>by
    have h':ycM p n=false:=by
      unfold ycM at h ⊢
      rw [List.range_succ,List.any_append,Bool.or_eq_false_iff]at h
      exact h.1
    have hl:(!p n&&leb 0 (yn p n))=false:=by
      unfold ycM at h
      rw [List.range_succ,List.any_append,Bool.or_eq_false_iff]at h
      simpa using h.2
    unfold yn
    rcases Nat.lt_succ_iff_lt_or_eq.1 hj with hj | rfl
    · rcases yKa h' j hj with h1 | h1
      · exact .inl h1
      · cases hp:p n
        · rw [hp,← h1]at hl
          rw [zk0 (show (0:Int)≤j by omega)] at hl; cases hl
        · exact .inr h1
    · cases hp:p j
      · exact .inr rfl
      · exact .inl rfl
theorem yJ9 {p:Nat→Bool}: ∀ {n:Nat},leb 0 (yn p n)=false→ ∀ j,j < n→p j=true
  | 0,_,j,hj=>absurd hj (Nat.not_lt_zero _)
  | n+1,h,j,hj=>by
    unfold yn at h
    cases hp:p n
    · rw [hp,cond_false,zk0 (show (0:Int)≤n by omega)] at h; cases h
    · rw [hp,cond_true]at h
      rcases Nat.lt_succ_iff_lt_or_eq.1 hj with hj | rfl
      · exact yJ9 h j hj
      · exact hp
theorem ynU (V:Int→Int→Int) (N s:Int):(vlist V N s).length=N.toNat:=by unfold vlist; rw [List.length_map,List.length_range]
theorem yNW (V:Int→Int→Int) (N s:Int) {j:Nat} (h:j < (vlist V N s).length):(vlist V N s)[j]=V s j:=by simp [vlist]
theorem yMB (V:Int→Int→Int) {N s i:Int} (h0:0≤i) (h1:i < N):nth (vlist V N s) i 0=V s i:=by
  unfold vlist nth
  rw [zcq (by rw [List.length_map,List.length_range]; omega),List.getElem_map,List.getElem_range,Int.toNat_of_nonneg h0]
theorem yHP {V:Int→Int→Int} {a:dA} {s:Int} (hg:yb a.2.1=true) (hk:Keep a) (he:EvV a.2.1 V) (hv:View V a) (s0:0≤s) (s1:s < a.2.1.2) :
    yv a s=bif ycM (fun (i:Nat)=>ycH a s i) a.2.1.1.toNat then ([],false) else (vlist V a.2.1.1 s,true):=by
  have hw: ∀ i:Nat,i < a.2.1.1.toNat→yj a i s=ycH a s i:=fun i hi=>(yvG hg hk hv (by omega) (by omega) s0 s1).1
  have hm: ∀ n,n≤a.2.1.1.toNat→yn (fun (i:Nat)=>yj a i s) n=yn (fun (i:Nat)=>ycH a s i) n:=by
    intro n
    induction n with
    | zero=>intro _; rfl
    | succ n ih=>intro hn; unfold yn; rw [hw n (by omega),ih (by omega)]
  have h2:ycM (fun (i:Nat)=>yj a i s) a.2.1.1.toNat=ycM (fun (i:Nat)=>ycH a s i) a.2.1.1.toNat:=by
    unfold ycM
    rw [Bool.eq_iff_iff,List.any_eq_true,List.any_eq_true]
    constructor
    · rintro ⟨i,hi,h⟩
      have hi':=List.mem_range.1 hi
      exact ⟨i,hi,by dsimp only at h ⊢; rw [hw i hi',hm i (by omega)] at h; exact h⟩
    · rintro ⟨i,hi,h⟩
      have hi':=List.mem_range.1 hi
      exact ⟨i,hi,by dsimp only at h ⊢; rw [hw i hi',hm i (by omega)]; exact h⟩
  unfold yv
  rw [h2,hm _ (Nat.le_refl _)]
  cases hc:ycM (fun (i:Nat)=>ycH a s i) a.2.1.1.toNat
  · simp only [cond_false]
    cases hn:leb 0 (yn (fun (i:Nat)=>ycH a s i) a.2.1.1.toNat)
    · simp only [cond_false]
      congr 1
      refine List.map_congr_left fun i hi=> ?_
      have hi':=List.mem_range.1 hi
      exact (yvG hg hk hv (by omega) (by omega) s0 s1).2 (yJ9 hn i hi')
    · simp only [cond_true]
      congr 1
      rcases yzK (fun (i:Nat)=>ycH a s i) a.2.1.1.toNat with h3 | ⟨k0,k1,k2⟩
      · rw [h3]at hn; cases hn
      · have hu:=yKa hc
        generalize yn (fun (i:Nat)=>ycH a s i) a.2.1.1.toNat=k at *
        obtain ⟨k,rfl⟩: ∃ m:Nat,k=m:=⟨k.toNat,by omega⟩
        rw [Int.toNat_natCast]at k2 ⊢
        have hkl:k < (vlist V a.2.1.1 s).length:=by rw [ynU]; omega
        have e:yz a s a.2.1.1.toNat=(vlist V a.2.1.1 s).set k 0:=by
          refine List.ext_getElem (by rw [yc2,List.length_set,ynU]) fun j h3 h4=> ?_
          rw [yc2]at h3
          rw [List.getElem_set]
          have e1:(yz a s a.2.1.1.toNat)[j]'(by rw [yc2]; exact h3)=ykB a j s:=by unfold yz; simp
          have e2:(vlist V a.2.1.1 s)[j]'(by rw [ynU]; exact h3)=V s j:=by unfold vlist; simp
          rw [e1]
          by_cases hj:k=j
          · subst hj
            rw [if_pos rfl]
            unfold ykB
            rw [hw k (by omega),k2]; rfl
          · rw [if_neg hj,e2]
            rcases hu j h3 with h5 | h5
            · exact (yvG hg hk hv (by omega) (by omega) s0 s1).2 h5
            · exact absurd h5 (by omega)
        have hx:xorOf (yz a s a.2.1.1.toNat)=V s k:=by
          rw [e,yib,yOy _ _ _ hkl,yHQ (he.ev s s0 s1),BitVec.zero_xor,show bv 0=0#64 by decide,BitVec.xor_zero,yMB V (by omega) (by omega)]
          have:=ypJ.1 (he.ew s k s0 s1 (by omega) (by omega))
          exact yMy (by omega) (by omega)
        rw [hx,e,List.set_set]
        refine List.ext_getElem (by rw [List.length_set]) fun j h3 h4=> ?_
        rw [List.getElem_set]
        by_cases hj:k=j
        · subst hj
          rw [if_pos rfl]
          exact (yNW _ _ _ h4).symm
        · rw [if_neg hj]
  · rfl
theorem yKj {k:Int} {a b:dA} (h:Wk k a) (ht:Turned a b) (hk:k+8≤60000):Wk (k+8) b:=by
  cases ht with
  | same=>exact yaU h (by omega)
  | put b x hb hx=>exact yaU (yPp h hb hx) (by omega)
  | flush s=>exact yaU (yMD s h (by omega)) (by omega)
  | all=>exact yPk h hk
  | fail m hl hm=>exact yaU (yOX h hl hm (by omega)) (by omega)
  | spare hl _=>exact yaU (yOu h hl (by omega)) (by omega)
  | step hl _ hb=>exact yaU (yOY h hl hb) (by omega)
  | check=>exact yaU (yMC h (by omega)) (by omega)
  | spoil m s hm _ _=>exact yaU (yOv h hm) (by omega)
structure Ix (k:Int) (V:Int→Int→Int) (a:dA):Prop where
  xc:coreOk a
  xk:Keep a
  xu:downA a=false
  xb:a.2.2.2.2.2.2.2.2.2.2.2=false
  xg:a.2.2.2.2.2.2.2.1≤k
  xs:a.2.2.2.2.2.1≤k
  xe:EvV a.2.1 V
  xv:View V a
  xn: ∀ i,0≤i→i < a.2.1.1→((dsk a i).2.1.length:Int)≤1+(bif i==a.2.2.2.1 then a.2.2.2.2.1 else 0)
theorem yzG {k:Int} {V:Int→Int→Int} {a:dA} (h:Ix k V a):yu a=true:=yH4.2 ⟨h.xc,h.xk⟩
theorem ycI {k j:Int} {V:Int→Int→Int} {a:dA} (h:Ix k V a) (hj:k≤j):Ix j V a:=⟨h.xc,h.xk,h.xu,h.xb,Int.le_trans h.xg hj,Int.le_trans h.xs hj,h.xe,h.xv,h.xn⟩
def ysv (S:Int) (m x:dM):Prop:=(x.2.2.1=false→m.2.2.1=false∧ ∀ k,6≤k→k < 6+S→ym5 x k=false→ym5 m k=false∧ykd x k=ykd m k)
theorem yvu (S:Int) (m:dM):ysv S m m:=fun h=>⟨h,fun _ _ _ hb=>⟨hb,rfl⟩⟩
theorem yGg {S:Int} {m x y:dM} (h:ysv S m x) (g:ysv S x y):ysv S m y:=fun hy=>by
  obtain ⟨h1,h2⟩:=g hy
  obtain ⟨h3,h4⟩:=h h1
  exact ⟨h3,fun k k0 k1 hb=>⟨(h4 k k0 k1 (h2 k k0 k1 hb).1).1,(h2 k k0 k1 hb).2.trans (h4 k k0 k1 (h2 k k0 k1 hb).1).2⟩⟩
theorem yxn {S:Int} {m:dM} (h:ym m=true):ysv S m (yq m):=fun hf=>by
  rw [(yvq m).2]at hf
  exact ⟨hf,fun k k0 k1 hb=>⟨by rw [yND]at hb; exact hb,yNE h hf (by omega)⟩⟩
theorem yMk {S n:Int} {s:List Int} {m:dM} (hn:n < 6):ysv S m (yeP n s m):=fun hf=>by
  unfold yeP at hf ⊢
  cases hm:m.2.2.1
  · refine ⟨rfl,fun k k0 k1 hb=> ?_⟩
    rw [cond_false]at hb ⊢
    cases hc:yaJ m n s
    · unfold yB at hb ⊢
      rw [hc]at hb ⊢; exact ⟨hb,rfl⟩
    · rw [yzl hc,show (k !=n)=true from bne_iff_ne.2 (by omega),Bool.and_true]at hb
      rw [yvm hc,show (n==k)=false from beq_eq_false_iff_ne.2 (by omega)]
      exact ⟨hb,rfl⟩
  · rw [hm]at hf
    rw [cond_true,hm]at hf; cases hf
theorem yNH (n:Int) (s:List Int) (m:dM):(yeP n s m).2.2.1=m.2.2.1:=by
  unfold yeP
  cases hm:m.2.2.1
  · show (yB m n s).1.2.2.1=false
    rw [(yvH m n s).2]; exact hm
  · exact hm
theorem yPt (n:Int) (s:List Int) (m:dM):(yeP n s m).2.1.length≤m.2.1.length+1:=by
  unfold yeP
  cases m.2.2.1
  · show (yB m n s).1.2.1.length≤_
    unfold yB
    cases yaJ m n s
    · show m.2.1.length≤_; omega
    · show (m.2.1++ [(n,s)]).length≤_; rw [List.length_append]; simp only [List.length_cons,List.length_nil]; omega
  · show m.2.1.length≤_; omega
theorem yAe {V:Int→Int→Int} {a b:dA} (hg:b.2.1=a.2.1) (hl: ∀ i s,0≤i→i < a.2.1.1→0≤s→yak b.2.2.2.1 b.2.2.2.2.1 i s (dsk b i)=true→(i !=a.2.2.2.1||ltb s a.2.2.2.2.1)=true∧ysv a.2.1.2 (dsk a i) (dsk b i)) (h:View V a):View V b:=fun i s i0 i1 s0 s1 hh=>by
  rw [hg]at i1 s1
  unfold ycH at hh
  rw [Bool.and_eq_true,Bool.not_eq_true'] at hh
  obtain ⟨h1,h2⟩:=hl i s i0 i1 s0 hh.1
  have hf:(dsk b i).2.2.1=false:=by
    have:=hh.1
    simp only [yak,Bool.and_eq_true,Bool.not_eq_true'] at this; exact this.1
  obtain ⟨h3,h4⟩:=h2 hf
  obtain ⟨h5,h6⟩:=h4 (s+6) (by omega) (by omega) hh.2
  rw [h6]
  exact h i s i0 i1 s0 s1 (by unfold ycH yak; rw [h3,h1,h5]; rfl)
theorem yNV {V:Int→Int→Int} {a b:dA} (hc:yl b=yl a) (hl: ∀ i,0≤i→i < a.2.1.1→ysv a.2.1.2 (dsk a i) (dsk b i)) (h:View V a):View V b :=
  yAe (yah hc) (fun i s i0 i1 s0 hh=>⟨by
    rw [ynM hc,ydL hc]at hh
    simp only [yak,Bool.and_eq_true]at hh; exact hh.2,hl i i0 i1⟩) h
theorem yAl {k:Int} {V:Int→Int→Int} {a b:dA} (hc:yl b=yl a) (hk:Keep b) (hu:downA b=false) (hl: ∀ i,0≤i→i < a.2.1.1→ysv a.2.1.2 (dsk a i) (dsk b i)∧(dsk b i).2.1.length≤(dsk a i).2.1.length) (h:Ix k V a):Ix k V b:=by
  refine ⟨yAh hc h.xc,hk,hu,(yCt hc).trans h.xb,by rw [ysX hc]; exact h.xg,by rw [yhP hc]; exact h.xs,by rw [yah hc]; exact h.xe,yNV hc (fun i i0 i1=>(hl i i0 i1).1) h.xv,fun i i0 i1=> ?_⟩
  rw [yah hc]at i1
  rw [ynM hc,ydL hc]
  have:=h.xn i i0 i1
  have:=(hl i i0 i1).2
  omega
theorem yxd {g:Int→dM→dM} {a r:dA} (h:Adv g a r a.2.2.1.length) (hu:downA r=false) {i:Int} (i0:0≤i) (i1:i < (a.2.2.1.length:Int)):dsk r i=g i (dsk a i):=by
  obtain ⟨_,_,k,h1,h2,h3⟩:=h
  rw [h2 i i0,h3 hu,zjI i1]; rfl
theorem yED {a:dA} (hu:downA (yy a)=false) {i:Int} (i0:0≤i) (i1:i < (a.2.2.1.length:Int)):dsk (yy a) i=yq (dsk a i):=by
  cases hd:downA a
  · exact yxd (yOo hd) hu i0 i1
  · rw [yKf hd]at hu; rw [hd]at hu; cases hu
theorem yNc {a:dA} (hu:downA (yy a)=false):downA a=false:=by
  cases hd:downA a
  · rfl
  · rw [yKf hd]at hu; rw [hd]at hu; cases hu
theorem yBX {m:dM} (h:ym m=true):(yq m).2.1.length≤m.2.1.length:=by
  unfold yq
  rw [h]
  cases m.2.2.1
  · exact Nat.zero_le _
  · exact Nat.le_refl _
theorem yOO {k:Int} {V:Int→Int→Int} {a:dA} (h:Ix k V a) (hu:downA (yy a)=false):Ix k V (yy a) :=
  yAl (yf3 a) (ynQ h.xk) hu (fun i i0 i1=>by
    obtain ⟨d1,_,_⟩:=ypH h.xk i0 i1
    rw [yED hu i0 (by have:=h.xk.1.2; omega)]
    exact ⟨yxn d1,yBX d1⟩) h
theorem yOR {a:dA} (hu:downA (markA a)=false):downA ((List.range a.2.2.1.length).foldl ybn (yaz a))=false∧downA a=false:=by
  have h1:=yNc hu
  refine ⟨h1,?_⟩
  cases hd:downA a
  · rfl
  · rw [yqr (one:=ybn) (fun _ _ h=>ytE h _ _ _) _ (yaz a) hd]at h1
    exact (hd.symm.trans h1)
theorem yOj {a:dA} (hu:downA (markA a)=false) {i:Int} (i0:0≤i) (i1:i < (a.2.2.1.length:Int)):dsk (markA a) i=yq (yLE (yaz a) i (dsk a i)):=by
  obtain ⟨h1,h2⟩:=yOR hu
  have hl:((List.range a.2.2.1.length).foldl ybn (yaz a)).2.2.1.length=a.2.2.1.length:=yf5 (one:=ybn) (fun _ _=>yiY _ _ _ _) _ (yaz a)
  unfold markA at hu ⊢
  rw [yED hu i0 (by omega)]
  exact congrArg yq (yxd (a:=yaz a) (yOi (a:=yaz a) h2) h1 i0 i1)
theorem yAk {n:Int} {s:List Int} {m:dM} (h:ym m=true):ym (yeP n s m)=true:=by
  unfold yeP
  cases m.2.2.1
  · exact yEE _ _ h
  · exact h
theorem yvr {n:Int} {s:List Int} {m:dM} (h:ym m=true):(yq (yeP n s m)).2.1.length≤m.2.1.length:=by
  cases hf:m.2.2.1
  · rw [(yxh (yAk h) ((yNH n s m).trans hf)).1]; exact Nat.zero_le _
  · have e:yeP n s m=m:=by unfold yeP; rw [hf]; rfl
    rw [e]; exact yBX h
theorem yOV {q:Int} (h:0≤q):2≤yM q∧yM q < 6∧yM q=2+q % 4:=by
  unfold yM
  rw [zkm h,cond_false,Int.tmod_eq_emod_of_nonneg h]
  have:=Int.emod_nonneg q (show (4:Int)≠0 by omega)
  have:=Int.emod_lt_of_pos q (show (0:Int) < 4 by omega)
  rw [wr (by omega) (by omega)]; omega
theorem yOq {g:Int} (h:0≤g):0≤g.tmod 2∧g.tmod 2 < 2:=by
  rw [Int.tmod_eq_emod_of_nonneg h]; omega
theorem yM1 {a b:dA} (h:yl a=yl b):a.2.2.2.2.2.2.1=b.2.2.2.2.2.2.1:=congrArg (fun x=>x.2.2.2.2.2.1) h
theorem yIx {k:Int} {V:Int→Int→Int} {a:dA} (h:Ix k V a) (hk:k+1≤60000) (hu:downA (markA a)=false):Ix (k+1) V (markA a):=by
  have c:=h.xc
  unfold coreOk at c
  have hgk:=h.xg
  have hsk:=h.xs
  have e:IntKind.i64.wrap (a.2.2.2.2.2.2.2.1+1)=a.2.2.2.2.2.2.2.1+1:=wr (by omega) (by omega)
  have hG:Ix (k+1) V (yaz a):=by
    obtain ⟨⟨c1,c2,c3,c4,c5,c6,c7,c8,c9,c10,c11⟩,g2,g3,g4,g5,g6,g7,g8,g9⟩:=h
    refine ⟨⟨c1,c2,c3,c4,c5,c6,c7,c8,c9,?_,?_⟩,g2,g3,g4,?_,?_,g7,g8,g9⟩
    · show 0≤IntKind.i64.wrap (a.2.2.2.2.2.2.2.1+1); omega
    · show IntKind.i64.wrap (a.2.2.2.2.2.2.2.1+1)≤_; omega
    · show IntKind.i64.wrap (a.2.2.2.2.2.2.2.1+1)≤_; omega
    · show a.2.2.2.2.2.1≤k+1; omega
  refine yAl (a:=yaz a) (ynR a) (yzH h.xk) hu (fun i i0 i1=> ?_) hG
  have i1':i < a.2.1.1:=i1
  obtain ⟨d1,_,_⟩:=ypH h.xk i0 i1'
  rw [yOj hu i0 (by have:=h.xk.1.2; omega)]
  have hn:(yaz a).2.2.2.2.2.2.2.1.tmod 2 < 6:=by
    show (IntKind.i64.wrap (a.2.2.2.2.2.2.2.1+1)).tmod 2 < 6
    have:=yOq (g:=IntKind.i64.wrap (a.2.2.2.2.2.2.2.1+1)) (by omega)
    omega
  exact ⟨yGg (yMk hn) (yxn (yAk d1)),yvr d1⟩
theorem yNJ {k:Int} {V:Int→Int→Int} {a:dA} (h:Ix k V a):Ix k V (yc1 a):=by
  obtain ⟨⟨c1,c2,c3,c4,c5,c6,c7,c8,c9,c10,c11⟩,g2,g3,g4,g5,g6,g7,g8,g9⟩:=h
  refine ⟨⟨c1,c2,c3,c4,c5,c6,⟨?_,?_⟩,⟨Int.le_refl _,c8.2⟩,?_,c10,c11⟩,g2,g3,g4,g5,g6,g7,g8,g9⟩
  · show 0≤a.2.2.2.2.2.1; omega
  · show a.2.2.2.2.2.1≤60000; omega
  · show a.2.2.2.2.2.1≤a.2.2.2.2.2.1+4; omega
theorem yLJ {a:dA} (hu:downA (checkA a)=false):downA (yy a)=false∧checkA a=markA (yc1 (yy a)):=by
  unfold checkA at hu ⊢
  cases hd:downA (yy a)
  · exact ⟨rfl,rfl⟩
  · rw [hd]at hu; exact absurd (hd.symm.trans hu) (by simp)
theorem yMb {k:Int} {V:Int→Int→Int} {a:dA} (h:Ix k V a) (hk:k+1≤60000) (hu:downA (checkA a)=false):Ix (k+1) V (checkA a):=by
  obtain ⟨h1,h2⟩:=yLJ hu
  rw [h2]at hu ⊢
  exact yIx (yNJ (yOO h h1)) hk hu
theorem yPe {a:dA} {r:dN} (hu:downA (ybb a r)=false):downA ((List.range a.2.2.1.length).foldl (yhA r) a)=false∧downA a=false:=by
  have h1:=yNc hu
  refine ⟨h1,?_⟩
  cases hd:downA a
  · rfl
  · rw [yqr (one:=yhA r) (fun _ _ h=>ytE h _ _ _) _ a hd]at h1
    exact (hd.symm.trans h1)
theorem yNa {a:dA} {r:dN} (hu:downA (ybb a r)=false) {i:Int} (i0:0≤i) (i1:i < (a.2.2.1.length:Int)):dsk (ybb a r) i=yq (yeP (yM r.1) (ytD r) (dsk a i)):=by
  obtain ⟨h1,h2⟩:=yPe hu
  have hl:((List.range a.2.2.1.length).foldl (yhA r) a).2.2.1.length=a.2.2.1.length:=yf5 (ylk r) _ a
  unfold ybb at hu ⊢
  rw [yED hu i0 (by omega)]
  exact congrArg yq (yxd (yOS r h2) h1 i0 i1)
theorem yPa {k:Int} {V:Int→Int→Int} {a:dA} {r:dN} (h:Ix k V a) (hr:0≤r.1) (hu:downA (ybb a r)=false):Ix k V (ybb a r)∧ ∀ i,0≤i→i < a.2.1.1→(dsk (ybb a r) i).2.2.1=false→(dsk (ybb a r) i).2.1= []:=by
  refine ⟨yAl (yf9 a r) (yMh r h.xk) hu (fun i i0 i1=> ?_) h,fun i i0 i1 hf=> ?_⟩
  · obtain ⟨d1,_,_⟩:=ypH h.xk i0 i1
    rw [yNa hu i0 (by have:=h.xk.1.2; omega)]
    exact ⟨yGg (yMk (yOV hr).2.1) (yxn (yAk d1)),yvr d1⟩
  · obtain ⟨d1,_,_⟩:=ypH h.xk i0 i1
    rw [yNa hu i0 (by have:=h.xk.1.2; omega)] at hf ⊢
    rw [(yvq _).2]at hf
    exact (yxh (yAk d1) hf).1
theorem yOe {k:Int} {V:Int→Int→Int} {a:dA} (h:Ix k V a) (h1:a.2.2.2.2.2.1 < 60000) (h2:a.2.2.2.2.2.1 - a.2.2.2.2.2.2.1≤3):Ix (k+1) V (ydg a):=by
  obtain ⟨⟨c1,c2,c3,c4,c5,c6,c7,c8,c9,c10,c11⟩,g2,g3,g4,g5,g6,g7,g8,g9⟩:=h
  have e:IntKind.i64.wrap (a.2.2.2.2.2.1+1)=a.2.2.2.2.2.1+1:=wr (by omega) (by omega)
  refine ⟨⟨c1,c2,c3,c4,c5,c6,c7,⟨?_,?_⟩,?_,c10,c11⟩,g2,g3,g4,?_,?_,g7,g8,g9⟩
  · show a.2.2.2.2.2.2.1≤IntKind.i64.wrap (a.2.2.2.2.2.1+1); omega
  · show IntKind.i64.wrap (a.2.2.2.2.2.1+1)≤60000; omega
  · show IntKind.i64.wrap (a.2.2.2.2.2.1+1)≤a.2.2.2.2.2.2.1+4; omega
  · show a.2.2.2.2.2.2.2.1≤k+1; omega
  · show IntKind.i64.wrap (a.2.2.2.2.2.1+1)≤k+1; omega
def yJR (V:Int→Int→Int) (g:dG) (s:Int) (d:List Int):Int→Int→Int:=fun t i=>bif t==s then ydM (yf g s) g.1 (xorOf d) d i else V t i
theorem yNf {N p x:Int} {d:List Int} (h:3≤N∧N≤5) (hp:0≤p∧p≤N - 1) (hd:(d.length:Int)=N - 1):((List.range N.toNat).map (fun (i:Nat)=>ydM p N x d i)).Perm (x::d):=by
  have:N=3∨N=4∨N=5:=by omega
  rcases this with rfl | rfl | rfl
  · match d,hd with
    | [a,b],_ =>
      have:p=0∨p=1∨p=2:=by omega
      rcases this with rfl | rfl | rfl<;>simp [ydM,nth,List.range_succ,List.perm_iff_count,List.count_cons]<;>(intro z; omega)
    | [],hd=>simp at hd
    | [_],hd=>simp at hd
    | _::_::_::_,hd=>simp only [List.length_cons]at hd; omega
  · match d,hd with
    | [a,b,c],_ =>
      have:p=0∨p=1∨p=2∨p=3:=by omega
      rcases this with rfl | rfl | rfl | rfl<;>simp [ydM,nth,List.range_succ,List.perm_iff_count,List.count_cons]<;>(intro z; omega)
    | [],hd=>simp at hd
    | [_],hd=>simp at hd
    | [_,_],hd=>simp at hd
    | _::_::_::_::_,hd=>simp only [List.length_cons]at hd; omega
  · match d,hd with
    | [a,b,c,e],_ =>
      have:p=0∨p=1∨p=2∨p=3∨p=4:=by omega
      rcases this with rfl | rfl | rfl | rfl | rfl<;>simp [ydM,nth,List.range_succ,List.perm_iff_count,List.count_cons]<;>(intro z; omega)
    | [],hd=>simp at hd
    | [_],hd=>simp at hd
    | [_,_],hd=>simp at hd
    | [_,_,_],hd=>simp at hd
    | _::_::_::_::_::_,hd=>simp only [List.length_cons]at hd; omega
theorem yf4 (x:Int) (l:List Int):ycn (x::l)=bv x ^^^ ycn l:=by
  have fo: ∀ (l:List Int) (v:BitVec 64),l.foldl (fun v x=>v ^^^ bv x) v=v ^^^ ycn l:=by
    intro l
    induction l with
    | nil=>intro v; show v=v ^^^ 0#64; rw [BitVec.xor_zero]
    | cons y t ih =>
      intro v
      unfold ycn
      rw [List.foldl_cons,List.foldl_cons,ih,ih (0#64 ^^^ bv y),BitVec.zero_xor,BitVec.xor_assoc]
  show l.foldl _ (0#64 ^^^ bv x)=_
  rw [fo,BitVec.zero_xor]
theorem yKm {l m:List Int} (h:l.Perm m):ycn l=ycn m:=by
  induction h with
  | nil=>rfl
  | cons x _ ih=>rw [yf4,yf4,ih]
  | swap x y l=>rw [yf4,yf4,yf4,yf4,← BitVec.xor_assoc,BitVec.xor_comm (bv y),BitVec.xor_assoc]
  | trans _ _ h1 h2=>exact h1.trans h2
theorem yN1 (d:List Int):ycn (xorOf d::d)=0#64:=by rw [yf4,yib,ym6,BitVec.xor_self]
theorem yNe {N p:Int} {d:List Int} (h:3≤N∧N≤5) (hp:0≤p∧p≤N - 1) (hd:(d.length:Int)=N - 1):xorOf ((List.range N.toNat).map (fun (i:Nat)=>ydM p N (xorOf d) d i))=0:=by
  rw [yib,yKm (yNf h hp hd),yN1]; rfl
theorem yJ0 {N p i:Int} {d:List Int} (hd:d.all isW=true):isW (ydM p N (xorOf d) d i)=true:=by
  unfold ydM
  cases (i==p)
  · exact yAn hd
  · exact yKl hd
theorem yOG {V:Int→Int→Int} {g:dG} {s:Int} {d:List Int} (h:EvV g V) (hs:yV g s=true) (hl:(d.length:Int)=g.1 - 1) (hd:d.all isW=true):EvV g (yJR V g s d):=by
  have h1:=yX.1 hs
  have hg:=yk.1 h1.1
  refine ⟨fun t t0 t1=> ?_,fun t i t0 t1 i0 i1=> ?_⟩
  · unfold vlist yJR
    cases ht:(t==s)
    · exact h.ev t t0 t1
    · exact yNe hg.1 (yf0 hs) hl
  · unfold yJR
    cases ht:(t==s)
    · exact h.ew t i t0 t1 i0 i1
    · exact yJ0 hd
theorem yGb {L B p N s i:Int} {d:List Int} {S:Int} {m:dM} (k:Int) (hk:k≠dataAt s):(yjv L B p N s d i m).2.2.1=m.2.2.1∧ym5 (yjv L B p N s d i m) k=ym5 m k∧ykd (yjv L B p N s d i m) k=ykd m k:=by
  unfold yjv
  cases hl:yak L B i s m
  · exact ⟨rfl,rfl,rfl⟩
  · refine ⟨(yvH _ _ _).2,?_⟩
    rw [cond_true]
    cases hc:yaJ m (dataAt s) [ydM p N (xorOf d) d i]
    · unfold yB; rw [hc]; exact ⟨rfl,rfl⟩
    · rw [yzl hc,yvm hc,show (k !=dataAt s)=true from bne_iff_ne.2 hk,show (dataAt s==k)=false from beq_eq_false_iff_ne.2 (fun e=>hk e.symm),Bool.and_true]
      exact ⟨rfl,rfl⟩
theorem yML (L B p N s:Int) (d:List Int) (i:Int) (m:dM):(yjv L B p N s d i m).2.1.length≤m.2.1.length+1∧(m.2.2.1=true→yjv L B p N s d i m=m):=by
  unfold yjv
  cases hl:yak L B i s m
  · exact ⟨Nat.le_succ _,fun _=>rfl⟩
  · simp only [yak,Bool.and_eq_true,Bool.not_eq_true'] at hl
    refine ⟨?_,fun h=>by rw [hl.1]at h; cases h⟩
    rw [cond_true]
    unfold yB
    cases yaJ m (dataAt s) [ydM p N (xorOf d) d i]
    · exact Nat.le_succ _
    · show (m.2.1++ [(dataAt s,[ydM p N (xorOf d) d i])]).length≤_; rw [List.length_append]; simp only [List.length_cons,List.length_nil]; omega
theorem yOK {k:Int} {V:Int→Int→Int} {a:dA} {s:Int} {d:List Int} (h:Ix k V a) (hs:yV a.2.1 s=true) (hl:(d.length:Int)=a.2.1.1 - 1) (hd:d.all isW=true)
    (hz: ∀ i,0≤i→i < a.2.1.1→(dsk a i).2.2.1=false→(dsk a i).2.1= []) (hu:downA (yao a s d)=false):Ix k (yJR V a.2.1 s d) (yao a s d):=by
  have hc:=yvn a s d
  have h1:=yX.1 hs
  have hg:=yk.1 h1.1
  have hlen:=h.xk.1.2
  have hdsk: ∀ i,0≤i→i < a.2.1.1→dsk (yao a s d) i=yjv a.2.2.2.1 a.2.2.2.2.1 (yf a.2.1 s) a.2.1.1 s d i (dsk a i):=fun i i0 i1=>yxd (yN7 s d h.xu) hu i0 (by omega)
  refine ⟨yAh hc h.xc,yJ7 s d h.xk,hu,(yCt hc).trans h.xb,by rw [ysX hc]; exact h.xg,by rw [yhP hc]; exact h.xs,by rw [yah hc]; exact yOG h.xe hs hl hd,fun i t i0 i1 t0 t1 hh=> ?_,fun i i0 i1=> ?_⟩
  · rw [yah hc]at i1 t1
    obtain ⟨d1,d2,d3⟩:=ypH h.xk i0 i1
    unfold ycH at hh
    rw [ynM hc,ydL hc,hdsk i i0 i1,Bool.and_eq_true,Bool.not_eq_true'] at hh
    rw [hdsk i i0 i1]
    have hda:=yxg (s:=s) h1.2.1 (by omega)
    unfold yJR
    by_cases ht:t=s
    · subst ht
      rw [beq_self_eq_true,cond_true]
      have hlv:yak a.2.2.2.1 a.2.2.2.2.1 i t (dsk a i)=true:=by
        have:=hh.1
        unfold yak at this ⊢
        rw [(yGb (S:=0) (-1) (by omega)).1]at this
        exact this
      have hf:(dsk a i).2.2.1=false:=by
        simp only [yak,Bool.and_eq_true,Bool.not_eq_true'] at hlv; exact hlv.1
      unfold yjv
      rw [hlv,cond_true,yvm (yBW d1 hf (by rw [hda]; exact zjP.2 (by omega)) (ykr.2 ⟨by simp,fun x hx=> ?_⟩) (by rw [hz i i0 i1 hf]; decide)),hda,beq_self_eq_true]; rfl
      rw [List.mem_singleton.1 hx]
      exact ypJ.1 (yJ0 hd)
    · rw [show (t==s)=false from beq_eq_false_iff_ne.2 ht]
      obtain ⟨e1,e2,e3⟩:=yGb (L:=a.2.2.2.1) (B:=a.2.2.2.2.1) (p:=yf a.2.1 s) (N:=a.2.1.1) (s:=s) (i:=i) (d:=d) (S:=0) (m:=dsk a i) (t+6) (by omega)
      rw [e3]
      refine h.xv i t i0 i1 t0 t1 ?_
      unfold ycH
      rw [e2]at hh
      have h2:=hh.1
      unfold yak at h2 ⊢
      rw [e1]at h2
      rw [h2,hh.2]; rfl
  · rw [yah hc]at i1
    rw [ynM hc,ydL hc,hdsk i i0 i1]
    obtain ⟨g1,g2⟩:=yML a.2.2.2.1 a.2.2.2.2.1 (yf a.2.1 s) a.2.1.1 s d i (dsk a i)
    have c:=h.xc
    unfold coreOk at c
    cases hf:(dsk a i).2.2.1
    · rw [hz i i0 i1 hf]at g1
      simp only [List.length_nil]at g1
      cases (i==a.2.2.2.1)
      · simp only [cond_false]; omega
      · simp only [cond_true]; omega
    · rw [g2 hf]
      exact h.xn i i0 i1
theorem yO8 {k:Int} {V:Int→Int→Int} {a:dA} (h:Ix k V a) (hk:k+1≤60000) (hu:downA (yw a)=false):Ix (k+1) V (yw a)∧(yw a).2.2.2.2.2.1=a.2.2.2.2.2.1∧(yw a).2.2.2.2.2.1 - (yw a).2.2.2.2.2.2.1≤3:=by
  have c:=h.xc
  unfold coreOk at c
  have e0:yw a=bif leb 4 (a.2.2.2.2.2.1 - a.2.2.2.2.2.2.1) then checkA a else a:=by
    unfold yw
    rw [wr (by omega) (by omega)]
  rw [e0]at hu ⊢
  cases h4:leb 4 (a.2.2.2.2.2.1 - a.2.2.2.2.2.2.1)
  · refine ⟨ycI h (by omega),rfl,?_⟩
    have: ¬ (4≤a.2.2.2.2.2.1 - a.2.2.2.2.2.2.1):=fun g=>by rw [zk0 g]at h4; cases h4
    show a.2.2.2.2.2.1 - a.2.2.2.2.2.2.1≤3; omega
  · rw [h4]at hu
    simp only [cond_true]at hu ⊢
    have hi:=yMb h hk hu
    obtain ⟨_,h2⟩:=yLJ hu
    have e:=ynR (yc1 (yy a))
    have e1:(checkA a).2.2.2.2.2.1=a.2.2.2.2.2.1:=by rw [h2]; exact (yhP e).trans (show (yaz (yc1 (yy a))).2.2.2.2.2.1=_ from yhP (a:=yy a) (b:=a) (yf3 a))
    have e2:(checkA a).2.2.2.2.2.2.1=a.2.2.2.2.2.1:=by rw [h2]; exact (yM1 e).trans (show (yaz (yc1 (yy a))).2.2.2.2.2.2.1=_ from yhP (a:=yy a) (b:=a) (yf3 a))
    exact ⟨hi,e1,by omega⟩
theorem yMf {k:Int} {V:Int→Int→Int} {a:dA} {s:Int} {d:List Int} (h:Ix k V a) (hs:yV a.2.1 s=true) (hl:(d.length:Int)=a.2.1.1 - 1) (hd:d.all isW=true) (hq:a.2.2.2.2.2.1 < 60000) (hk:k+1≤60000)
    (hu:downA (yaY a s d).2=false):Ix (k+2) (yJR V a.2.1 s d) (yaY a s d).2∧(yaY a s d).1=0:=by
  unfold yaY at hu ⊢
  cases hc:downA (yw a)
  · obtain ⟨h1,h2,h3⟩:=yO8 h hk hc
    have eg:(yw a).2.1=a.2.1:=yH5 a
    rw [hc]at hu
    simp only [cond_false]at hu ⊢
    have c:=h.xc
    unfold coreOk at c
    cases hr:downA (ybb (yw a) ((yw a).2.2.2.2.2.1,s,d))
    · rw [hr]at hu
      simp only [cond_false]at hu ⊢
      obtain ⟨h4,h5⟩:=yPa (r:=((yw a).2.2.2.2.2.1,s,d)) h1 (by show 0≤(yw a).2.2.2.2.2.1; omega) hr
      have e1:=yhP (yf9 (yw a) ((yw a).2.2.2.2.2.1,s,d))
      have e2:=yM1 (yf9 (yw a) ((yw a).2.2.2.2.2.1,s,d))
      have e3:=(yah (yf9 (yw a) ((yw a).2.2.2.2.2.1,s,d))).trans eg
      rw [eg]at h5
      generalize ybb (yw a) ((yw a).2.2.2.2.2.1,s,d)=R at h4 h5 e1 e2 e3 hu ⊢
      have h6:=yOe h4 (by omega) (by omega)
      have e4:(ydg R).2.1=a.2.1:=e3
      have h7:=yOK (s:=s) (d:=d) h6 (by rw [e4]; exact hs) (by rw [e4]; exact hl) hd (fun i i0 i1 hf=>h5 i i0 (by rw [e4]at i1; exact i1) hf) hu
      rw [hu,e4]at *
      exact ⟨ycI h7 (by omega),rfl⟩
    · rw [hr]at hu
      exact absurd (hr.symm.trans hu) (by simp)
  · rw [hc]at hu
    exact absurd (hc.symm.trans hu) (by simp)
theorem yBZ {k:Int} {V:Int→Int→Int} {a:dA} {l:List dW} (h:Ix k V a) (hd:yab a.2.1 l=true):Ix k V (ytJ a l):=by
  obtain ⟨⟨c1,c2,c3,c4,c5,c6,c7,c8,c9,c10,c11⟩,g2,g3,g4,g5,g6,g7,g8,g9⟩:=h
  exact ⟨⟨c1,c2,hd,c4,c5,c6,c7,c8,c9,c10,c11⟩,g2,g3,g4,g5,g6,g7,g8,g9⟩
theorem yDi {k:Int} {V:Int→Int→Int} {a:dA} (s:Int) (h:Ix k V a) (hk:k+1≤60000) (hu:downA (flushE a s).2=false): ∃ V',Ix (k+2) V' (flushE a s).2:=by
  unfold flushE at hu ⊢
  cases h0:ltb (yE a.2.2.2.2.2.2.2.2.1 s) 0
  · rw [h0]at hu
    generalize (nth a.2.2.2.2.2.2.2.2.1 (yE a.2.2.2.2.2.2.2.2.1 s) (0,[])).2=D at hu ⊢
    cases hc:(yH a s D !=0)
    · rw [hc]at hu
      obtain ⟨_,z1,z2,_,z4,_,z6,_⟩:=yuY (bne_eq_false_iff_eq.1 hc)
      simp only [cond_false]at hu ⊢
      cases hw:((yaY a s D).1==0)
      · rw [hw]at hu
        obtain ⟨h1,h2⟩:=yMf h z4 z1 z2 z6 hk hu
        exact ⟨_,h1⟩
      · rw [hw]at hu
        obtain ⟨h1,h2⟩:=yMf h z4 z1 z2 z6 hk hu
        exact ⟨_,yBZ h1 (by rw [yKk]; exact yJ1 _ h.xc.2.2.1)⟩
    · exact ⟨V,ycI h (by omega)⟩
  · exact ⟨V,ycI h (by omega)⟩
theorem yMK {a:dA} (s:Int) (h:downA a=true):(flushE a s).2=a:=by
  unfold flushE
  cases ltb (yE a.2.2.2.2.2.2.2.2.1 s) 0
  · cases hc:(yH a s (nth a.2.2.2.2.2.2.2.2.1 (yE a.2.2.2.2.2.2.2.2.1 s) (0,[])).2 !=0)
    · have:=(yuY (bne_eq_false_iff_eq.1 hc)).2.2.2.1
      rw [h]at this; cases this
    · rfl
  · rfl
theorem yJT: ∀ (n i:Nat) {a:dA},downA a=true→(goE ypB (fun b=>((0:Int),b)) n i a).2=a
  | 0,_,_,_=>rfl
  | n+1,i,a,h=>by
    unfold goE ypB
    have e:=yMK (nth a.2.2.2.2.2.2.2.2.1 0 (0,[])).1 h
    cases ((flushE a (nth a.2.2.2.2.2.2.2.2.1 0 (0,[])).1).1 !=0)
    · simp only [cond_false,e]
      exact yJT n (i+1) h
    · exact e
theorem yMc {k:Int}: ∀ (n i:Nat) (j:Int) (V:Int→Int→Int) (a:dA),Ix j V a→j+2 * n≤k→k≤60000→downA (goE ypB (fun b=>((0:Int),b)) n i a).2=false→ ∃ V',Ix k V' (goE ypB (fun b=>((0:Int),b)) n i a).2
  | 0,_,j,V,a,h,h1,_,_=>⟨V,ycI h (by omega)⟩
  | n+1,i,j,V,a,h,h1,h2,hu=>by
    unfold goE ypB at hu ⊢
    cases hc:((flushE a (nth a.2.2.2.2.2.2.2.2.1 0 (0,[])).1).1 !=0)
    · rw [hc]at hu
      simp only [cond_false]at hu ⊢
      have hu:downA (goE ypB (fun b=>((0:Int),b)) n (i+1) (flushE a (nth a.2.2.2.2.2.2.2.2.1 0 (0,[])).1).2).2=false:=hu
      have hf:downA (flushE a (nth a.2.2.2.2.2.2.2.2.1 0 (0,[])).1).2=false:=by
        cases hd:downA (flushE a (nth a.2.2.2.2.2.2.2.2.1 0 (0,[])).1).2
        · rfl
        · rw [yJT n (i+1) hd]at hu; exact hd.symm.trans hu
      obtain ⟨V1,h3⟩:=yDi (nth a.2.2.2.2.2.2.2.2.1 0 (0,[])).1 h (by omega) hf
      exact yMc n (i+1) (j+2) V1 _ h3 (by omega) h2 hu
    · rw [hc]at hu
      simp only [cond_true]at hu ⊢
      obtain ⟨V1,h3⟩:=yDi (nth a.2.2.2.2.2.2.2.2.1 0 (0,[])).1 h (by omega) hu
      exact ⟨V1,ycI h3 (by omega)⟩
theorem yO7 {k:Int} {V:Int→Int→Int} {a:dA} (h:Ix k V a) (hk:k+16≤60000) (hu:downA (allE a).2=false): ∃ V',Ix (k+16) V' (allE a).2:=by
  have:=yqg h.xc.2.2.1 h.xc.1
  exact yMc _ 0 k V a h (by omega) hk hu
theorem yPb {k:Int} {V:Int→Int→Int} {a:dA} {b n:Int} (h:Ix k V a) (hb:blkOk a.2.1 b=true) (hn:isW n=true):Ix k V (setOne a b n).2:=by
  unfold setOne
  cases hs:(yav a (yaK a.2.1 b)).2
  · exact h
  · have hstr:=yvR hb
    have hl:=yq2 (yzG h) hstr hs
    refine yBZ h (yJ2 h.xc.2.2.1 ⟨(yX.1 hstr).2,by rw [List.length_set]; exact hl,yJP ?_ hn⟩)
    unfold yav
    cases hk:leb 0 (yE a.2.2.2.2.2.2.2.2.1 (yaK a.2.1 b))
    · rw [h.xb]; exact yJZ _ _
    · have:=(ypI (d:=((0:Int),([]:List Int))) hk).1
      exact ysb (P:=fun e:dW=>e.2.all isW=true) this (fun e he=>((yqf.1 h.xc.2.2.1).1 e he).2.2)
theorem yLM {a:dA} {m i:Int} {x:dM} (l:Int) (t:Int×Int×Int×Int×List dW×Int×Bool×Bool) (hm:inb m a.2.2.1.length=true) (hi:0≤i):dsk (a.1,a.2.1,a.2.2.1.set m.toNat x,l,t) i=bif m==i then x else dsk a i:=yty hm hi
theorem yPM (S:Int) (m:dM):ysv S m (yhe m):=fun h=>by cases h
theorem yNC {a:dA} {m:Int} (hl:a.2.2.2.1= -1∨a.2.2.2.1=m) (hm:inb m a.2.2.1.length=true) (i s:Int) (i0:0≤i) (s0:0≤s) (hh:yak m 0 i s (dsk (ycG a m) i)=true):(i !=a.2.2.2.1||ltb s a.2.2.2.2.1)=true∧i≠m∧dsk (ycG a m) i=dsk a i:=by
  have e:dsk (ycG a m) i=bif m==i then yhe (dsk a m) else dsk a i:=yLM m _ hm i0
  by_cases hi:m=i
  · subst hi
    rw [e,beq_self_eq_true]at hh
    simp only [yak,Bool.and_eq_true,Bool.not_eq_true',cond_true]at hh
    have:=hh.1
    cases this
  · rw [show (m==i)=false from beq_eq_false_iff_ne.2 hi]at e
    refine ⟨?_,fun e=>hi e.symm,e⟩
    rw [show (i !=a.2.2.2.1)=true from bne_iff_ne.2 (by omega)]; rfl
theorem yMM {k m:Int} {V:Int→Int→Int} {a:dA} (h:Ix k V a) (hl:a.2.2.2.1= -1∨a.2.2.2.1=m) (hm:inb m a.2.2.1.length=true):Ix k V (ycG a m):=by
  have hmi:=zjP.1 hm
  have hv:View V (ycG a m):=yAe (a:=a) (b:=ycG a m) rfl (fun i s i0 i1 s0 hh=>by
    obtain ⟨h1,h2,h3⟩:=yNC hl hm i s i0 s0 hh
    rw [h3]
    exact ⟨h1,yvu _ _⟩) h.xv
  have hn: ∀ i,0≤i→i < a.2.1.1→((dsk (ycG a m) i).2.1.length:Int)≤1+(bif i==m then 0 else 0):=fun i i0 i1=>by
    have e:dsk (ycG a m) i=bif m==i then yhe (dsk a m) else dsk a i:=yLM m _ hm i0
    rw [e]
    by_cases hi:m=i
    · rw [show (m==i)=true from beq_iff_eq.2 hi]
      show (([]:List dW).length:Int)≤_
      rw [List.length_nil]
      cases (i==m)<;>decide
    · rw [show (m==i)=false from beq_eq_false_iff_ne.2 hi,cond_false]
      have:=h.xn i i0 i1
      rw [show (i==a.2.2.2.1)=false from beq_eq_false_iff_ne.2 (by omega)] at this
      simp only [cond_false]at this
      cases (i==m)<;>simp only [cond_true,cond_false]<;>omega
  obtain ⟨⟨c1,c2,c3,c4,c5,c6,c7,c8,c9,c10,c11⟩,⟨⟨g1,g2⟩,g3⟩,f,b,t,t2,t3,_,_⟩:=h
  refine ⟨⟨c1,c2,c3,⟨?_,?_⟩,⟨Int.le_refl _,by show (0:Int)≤a.2.1.2; omega⟩,fun e=>rfl,c7,c8,c9,c10,c11⟩,⟨⟨?_,?_⟩,g3⟩,f,b,t,t2,t3,hv,hn⟩
  · show -1≤m; omega
  · show m≤a.2.1.1 - 1; omega
  · show yxq m a.2.2.2.2.2.2.2.2.2.2.2 a.2.1.2 (a.2.2.1.set m.toNat (yhe (nth a.2.2.1 m noMem)))
    refine yqD (fun i hi=> ?_) (fun hi=> ?_)
    · obtain ⟨e1,e2,e3⟩:=g1 i hi
      refine ⟨e1,e2,fun e=> ?_⟩
      rcases e3 e with e | e
      · exact .inl (by omega)
      · exact .inr e
    · have:=g1 m.toNat hi
      rw [Int.toNat_of_nonneg hmi.1]at this
      exact ⟨yM3 this.1,this.2.1,fun _=> .inl (Int.toNat_of_nonneg hmi.1)⟩
  · show ((a.2.2.1.set m.toNat (yhe (nth a.2.2.1 m noMem))).length:Int)=a.2.1.1
    rw [List.length_set]; exact g2
theorem yOH {k m:Int} {V:Int→Int→Int} {a:dA} (h:Ix k V a) (hl:a.2.2.2.1= -1∨a.2.2.2.1=m) (hk:k+1≤60000):failOne a m=markA (ycG a m):=by
  have:=h.xg
  unfold failOne
  rw [h.xu,h.xb,zjI (show a.2.2.2.2.2.2.2.1 < 60000 by omega)]
  rcases hl with e | e
  · rw [show (a.2.2.2.1== -1)=true from beq_iff_eq.2 e]; rfl
  · rw [show (a.2.2.2.1==m)=true from beq_iff_eq.2 e,Bool.or_true]; rfl
theorem yOL {k m:Int} {V:Int→Int→Int} {a:dA} (h:Ix k V a) (hl:a.2.2.2.1= -1∨a.2.2.2.1=m) (hm:inb m a.2.2.1.length=true) (hk:k+1≤60000) (hu:downA (failOne a m)=false):Ix (k+1) V (failOne a m):=by
  rw [yOH h hl hk]at hu ⊢
  exact yIx (yMM h hl hm) hk hu
theorem yqC {S:Int} (h:1≤S∧S≤8):yaW (6+S)=(List.replicate (6+S).toNat [],[],false,[]):=by
  unfold yaW
  rw [zk0 (show 1≤6+S by omega),zk0 (show 6+S≤20 by omega)]; rfl
theorem yMN {k:Int} {V:Int→Int→Int} {a:dA} (h:Ix k V a) (hm:inb a.2.2.2.1 a.2.2.1.length=true):Ix k V (spareNew a):=by
  have hg:=yk.1 h.xc.1
  have e: ∀ i,0≤i→dsk (spareNew a) i=bif a.2.2.2.1==i then yaW (6+a.2.1.2) else dsk a i:=fun i i0=>yLM _ _ hm i0
  have hv:View V (spareNew a):=yAe (a:=a) (b:=spareNew a) rfl (fun i s i0 i1 s0 hh=>by
    have hh:yak a.2.2.2.1 0 i s (dsk (spareNew a) i)=true:=hh
    rw [e i i0]at hh ⊢
    simp only [yak,Bool.and_eq_true,Bool.or_eq_true,bne_iff_ne,ne_eq,zjT]at hh
    have hne:i≠a.2.2.2.1:=hh.2.resolve_right (by omega)
    rw [show (a.2.2.2.1==i)=false from beq_eq_false_iff_ne.2 (fun e=>hne e.symm),show (i !=a.2.2.2.1)=true from bne_iff_ne.2 hne]
    exact ⟨rfl,yvu _ _⟩) h.xv
  have hn: ∀ i,0≤i→i < a.2.1.1→((dsk (spareNew a) i).2.1.length:Int)≤1+(bif i==a.2.2.2.1 then 0 else 0):=fun i i0 i1=>by
    rw [e i i0]
    by_cases hi:a.2.2.2.1=i
    · rw [show (a.2.2.2.1==i)=true from beq_iff_eq.2 hi,cond_true,yqC hg.2]
      show (([]:List dW).length:Int)≤_
      rw [List.length_nil]
      cases (i==a.2.2.2.1)<;>decide
    · rw [show (a.2.2.2.1==i)=false from beq_eq_false_iff_ne.2 hi,cond_false]
      have:=h.xn i i0 i1
      rw [show (i==a.2.2.2.1)=false from beq_eq_false_iff_ne.2 (fun e=>hi e.symm)] at this ⊢
      exact this
  have hmi:=zjP.1 hm
  obtain ⟨⟨c1,c2,c3,c4,c5,c6,c7,c8,c9,c10,c11⟩,⟨⟨g1,g2⟩,g3⟩,f,b,t,t2,t3,_,_⟩:=h
  refine ⟨⟨c1,c2,c3,c4,⟨Int.le_refl _,by show (0:Int)≤a.2.1.2; omega⟩,fun e=>rfl,c7,c8,c9,c10,c11⟩,⟨⟨yqD g1 (fun hi=>⟨yzJ (by omega) (by omega),?_,fun e=> ?_⟩),?_⟩,g3⟩,f,b,t,t2,t3,hv,hn⟩
  · rw [yqC hg.2]
    show ((List.replicate (6+a.2.1.2).toNat ([]:List Int)).length:Int)=6+a.2.1.2
    rw [List.length_replicate]; omega
  · rw [yqC hg.2]at e
    cases e
  · show ((a.2.2.1.set a.2.2.2.1.toNat (yaW (6+a.2.1.2))).length:Int)=a.2.1.1
    rw [List.length_set]; exact g2
theorem yOf {k:Int} {V:Int→Int→Int} {a:dA} (h:Ix k V a) (hm:inb a.2.2.2.1 a.2.2.1.length=true) (hk:k+1≤60000) (hu:downA (markA (spareNew a))=false):Ix (k+1) V (markA (spareNew a)):=yIx (yMN h hm) hk hu
theorem yNu (S:Int) (m:dM) (n:Int):ysv S m (spoil m n):=by
  unfold spoil
  cases (ym m&&(inb n m.1.length&& !(m.2.2.2.any (· ==n))))
  · exact yvu _ _
  · refine fun h=>⟨h,fun k k0 k1 hb=>⟨?_,rfl⟩⟩
    have hb:(ywX m.2.2.2 n).any (· ==k)=false:=hb
    show m.2.2.2.any (· ==k)=false
    rw [List.any_eq_false]at hb ⊢
    intro x hx hxk
    have hxk':=beq_iff_eq.1 hxk
    refine hb x ?_ hxk
    unfold ywX
    rw [List.mem_append,List.mem_cons,List.mem_filter,List.mem_filter]
    rcases Int.lt_trichotomy x n with h1 | h1 | h1
    · exact .inl ⟨hx,zjI h1⟩
    · exact .inr (.inl h1)
    · exact .inr (.inr ⟨hx,zjI h1⟩)
theorem yMX (m:dM) (n:Int):(spoil m n).2.1=m.2.1:=by
  unfold spoil
  cases (ym m&&(inb n m.1.length&& !(m.2.2.2.any (· ==n))))<;>rfl
theorem yOg {k m n:Int} {V:Int→Int→Int} {a:dA} (h:Ix k V a) (hm:inb m a.2.2.1.length=true):Ix k V (setMem a m (spoil (nth a.2.2.1 m noMem) n)) :=
  yAl (a:=a) (b:=setMem a m (spoil (nth a.2.2.1 m noMem) n)) rfl (yp4 h.xk hm (fun g=>⟨yMv n g.1,by rw [(yvE _ _).1]; exact g.2.1,by rw [(yvE _ _).2]; exact g.2.2⟩)) h.xu (fun i i0 i1=>by
    rw [yH7 hm i0]
    by_cases hi:m=i
    · subst hi
      rw [beq_self_eq_true,cond_true]
      exact ⟨yNu _ _ _,by rw [yMX]; exact Nat.le_refl _⟩
    · rw [show (m==i)=false from beq_eq_false_iff_ne.2 hi]
      exact ⟨yvu _ _,Nat.le_refl _⟩) h
theorem yON {k:Int} {V:Int→Int→Int} {a:dA} (h:Ix k V a) (hl:inb a.2.2.2.1 a.2.2.1.length=true) (hf:(nth a.2.2.1 a.2.2.2.1 noMem).2.2.1=false) (hb:a.2.2.2.2.1 < a.2.1.2) (hu:downA (stepOne a).2=false):Ix k V (stepOne a).2:=by
  have hmi:=zjP.1 hl
  have hlen:=h.xk.1.2
  have hg:=yk.1 h.xc.1
  have c:=h.xc
  unfold coreOk at c
  have hb0:0≤a.2.2.2.2.1:=by omega
  have hda:=yxg hb0 (by omega)
  have e:=yko a a.2.2.2.1 (dataAt a.2.2.2.2.1) [nth (yv a a.2.2.2.2.1).1 a.2.2.2.1 0]
  have hkp:Keep (yG a):=yts h.xk hl
  have hd:=yAo (dataAt a.2.2.2.2.1) [nth (yv a a.2.2.2.2.1).1 a.2.2.2.1 0] h.xu hl
  have e1:(yG a).2.2.2.2.1=a.2.2.2.2.1:=ydL e
  have e2:(yG a).2.1=a.2.1:=yah e
  have e3:(yG a).2.2.2.1=a.2.2.2.1:=ynM e
  unfold stepOne at hu ⊢
  cases hw:(yv a a.2.2.2.2.1).2
  · exact h
  · rw [hw]at hu
    have hwv:=yHP h.xc.1 h.xk h.xe h.xv hb0 hb
    have hw1:(yv a a.2.2.2.2.1).1=vlist V a.2.1.1 a.2.2.2.2.1:=by
      rw [hwv]at hw ⊢
      cases hm:ycM (fun (i:Nat)=>ycH a a.2.2.2.2.1 i) a.2.1.1.toNat
      · rfl
      · rw [hm]at hw; cases hw
    have hx:nth (yv a a.2.2.2.2.1).1 a.2.2.2.1 0=V a.2.2.2.2.1 a.2.2.2.1:=by rw [hw1]; exact yMB V (by omega) (by omega)
    rw [hx]at hd e
    have hst:yG a=ycm a a.2.2.2.1 (dataAt a.2.2.2.2.1) [V a.2.2.2.2.1 a.2.2.2.1]:=by unfold yG; rw [hx]
    have hcc:yl (yG a)=yl a:=by rw [hst]; exact e
    rw [← hst]at hd
    generalize yG a=R at *
    simp only [cond_true]at hu ⊢
    cases hr:downA R
    · rw [hr]at hu
      obtain ⟨_,_,⟨_,hdd⟩ | ⟨hdd,_⟩⟩:=hd
      · obtain ⟨d1,d2,d3⟩:=ypH h.xk (i:=a.2.2.2.1) (by omega) (by omega)
        have hf':(dsk a a.2.2.2.1).2.2.1=false:=hf
        have hxw:=h.xe.ew a.2.2.2.2.1 a.2.2.2.1 hb0 hb (by omega) (by omega)
        have hcn:=h.xn a.2.2.2.1 (by omega) (by omega)
        rw [beq_self_eq_true,cond_true]at hcn
        have hcw:yaJ (dsk a a.2.2.2.1) (a.2.2.2.2.1+6) [V a.2.2.2.2.1 a.2.2.2.1]=true:=yBW d1 hf' (zjP.2 (by omega)) (ykr.2 ⟨by simp,fun x hx=>by rw [List.mem_singleton.1 hx]; exact ypJ.1 hxw⟩) (by omega)
        have e4:IntKind.i64.wrap (R.2.2.2.2.1+1)=a.2.2.2.2.1+1:=by rw [e1]; exact wr (by omega) (by omega)
        have hRL:dsk R a.2.2.2.1=(yB (dsk a a.2.2.2.1) (a.2.2.2.2.1+6) [V a.2.2.2.2.1 a.2.2.2.1]).1:=by
          rw [hdd _ (by omega),beq_self_eq_true,cond_true,hda]
          unfold yeP
          rw [hf']; rfl
        have hRo: ∀ i,0≤i→i≠a.2.2.2.1→dsk R i=dsk a i:=fun i i0 hi=>by rw [hdd i i0,show (a.2.2.2.1==i)=false from beq_eq_false_iff_ne.2 (fun e=>hi e.symm)]; rfl
        have hco:=yAh hcc h.xc
        refine ⟨?_,hkp,hr,(yCt hcc).trans h.xb,by show R.2.2.2.2.2.2.2.1≤k; rw [ysX hcc]; exact h.xg,by show R.2.2.2.2.2.1≤k; rw [yhP hcc]; exact h.xs,by show EvV R.2.1 V; rw [e2]; exact h.xe,?_,?_⟩
        · obtain ⟨c1,c2,c3,c4,c5,c6,c7,c8,c9,c10,c11⟩:=hco
          refine ⟨c1,c2,c3,c4,⟨?_,?_⟩,fun e=> ?_,c7,c8,c9,c10,c11⟩
          · show 0≤IntKind.i64.wrap (R.2.2.2.2.1+1); omega
          · show IntKind.i64.wrap (R.2.2.2.2.1+1)≤R.2.1.2; rw [e4,e2]; omega
          · have:R.2.2.2.1= -1:=e
            omega
        · intro i t i0 i1 t0 t1 hh
          have i1:i < R.2.1.1:=i1
          have t1:t < R.2.1.2:=t1
          rw [e2]at i1 t1
          unfold ycH at hh
          have hh:(yak R.2.2.2.1 (IntKind.i64.wrap (R.2.2.2.2.1+1)) i t (dsk R i)&& !(ym5 (dsk R i) (t+6)))=true:=hh
          show ykd (dsk R i) (t+6)= [V t i]
          rw [e3,e4]at hh
          by_cases hi:i=a.2.2.2.1
          · subst hi
            rw [hRL]at hh ⊢
            rw [yvm hcw]
            by_cases ht:a.2.2.2.2.1+6=t+6
            · rw [show (a.2.2.2.2.1+6==t+6)=true from beq_iff_eq.2 ht,show a.2.2.2.2.1=t by omega]; rfl
            · rw [show (a.2.2.2.2.1+6==t+6)=false from beq_eq_false_iff_ne.2 ht,cond_false]
              refine h.xv _ t i0 i1 t0 t1 ?_
              rw [yzl hcw,show (t+6 !=a.2.2.2.2.1+6)=true from bne_iff_ne.2 (fun e=>ht e.symm),Bool.and_true,Bool.and_eq_true]at hh
              have h2:=hh.1
              simp only [yak,Bool.and_eq_true,Bool.or_eq_true,bne_self_eq_false,Bool.false_eq_true,false_or,zjT]at h2
              unfold ycH yak
              rw [hf',hh.2,zjI (show t < a.2.2.2.2.1 by omega),Bool.or_true]; rfl
          · rw [hRo i i0 hi]at hh ⊢
            refine h.xv i t i0 i1 t0 t1 ?_
            rw [Bool.and_eq_true]at hh
            have h2:=hh.1
            simp only [yak,Bool.and_eq_true]at h2
            unfold ycH yak
            rw [h2.1,hh.2,show (i !=a.2.2.2.1)=true from bne_iff_ne.2 hi]; rfl
        · intro i i0 i1
          have i1:i < R.2.1.1:=i1
          rw [e2]at i1
          show ((dsk R i).2.1.length:Int)≤1+(bif i==R.2.2.2.1 then IntKind.i64.wrap (R.2.2.2.2.1+1) else 0)
          rw [e3,e4]
          by_cases hi:i=a.2.2.2.1
          · subst hi
            rw [hRL,yxH hcw,beq_self_eq_true,cond_true]
            show (((dsk a a.2.2.2.1).2.1++ [(a.2.2.2.2.1+6,[V a.2.2.2.2.1 a.2.2.2.1])]).length:Int)≤_
            rw [List.length_append]
            simp only [List.length_cons,List.length_nil]
            omega
          · rw [hRo i i0 hi,show (i==a.2.2.2.1)=false from beq_eq_false_iff_ne.2 hi]
            have:=h.xn i i0 i1
            rw [show (i==a.2.2.2.1)=false from beq_eq_false_iff_ne.2 hi]at this
            exact this
      · rw [hr]at hdd; cases hdd
    · rw [hr]at hu
      exact absurd (hr.symm.trans hu) (by simp)
theorem yMQ {id i:Int} {g:dG} (hg:yb g=true): ∀ n:Nat,n≤g.2.toNat→ ∀ k:Int,0≤k→nth ((List.range n).foldl ynS (yht id g i)).1 k []=bif leb 6 k&&ltb k (6+n) then [0] else bif k==0 then yA (yMm id g i) else []:=by
  have hge:=yk.1 hg
  intro n
  induction n with
  | zero =>
    intro _ k hk
    show nth (yht id g i).1 k []=_
    unfold yht
    rw [yqC hge.2]
    have h0:inb 0 (List.replicate (6+g.2).toNat ([]:List Int)).length=true:=by rw [List.length_replicate]; exact zjP.2 (by omega)
    have:=yty (x:=yA (yMm id g i)) (d:=([]:List Int)) h0 hk
    rw [show (0:Int).toNat=0 from rfl]at this
    rw [this]
    have e1:(leb 6 k&&ltb k (6+((0:Nat):Int)))=false:=by
      cases h:(leb 6 k&&ltb k (6+((0:Nat):Int)))
      · rfl
      · rw [Bool.and_eq_true,zjQ,zjT]at h; omega
    rw [e1,cond_false]
    by_cases h:k=0
    · rw [show ((0:Int)==k)=true from beq_iff_eq.2 h.symm,show (k==0)=true from beq_iff_eq.2 h]; rfl
    · rw [show ((0:Int)==k)=false from beq_eq_false_iff_ne.2 (fun e=>h e.symm),show (k==0)=false from beq_eq_false_iff_ne.2 h,cond_false,cond_false]
      unfold nth
      rw [List.getD_eq_getElem?_getD,List.getElem?_replicate]
      split<;>rfl
  | succ n ih =>
    intro hn k hk
    rw [List.range_succ,List.foldl_append,List.foldl_cons,List.foldl_nil]
    have hlen:((List.range n).foldl ynS (yht id g i)).1.length=(6+g.2).toNat:=by
      rw [yB1]
      show ((yaW (6+g.2)).1.set 0 _).length=_
      rw [List.length_set,yqC hge.2]
      show (List.replicate (6+g.2).toNat ([]:List Int)).length=_
      rw [List.length_replicate]
    have h1:=ih (by omega) k hk
    generalize (List.range n).foldl ynS (yht id g i)=M at h1 hlen ⊢
    show nth (M.1.set (n+6) [0]) k []=_
    have:=yty (l:=M.1) (i:=((n+6:Nat):Int)) (x:= [0]) (d:=([]:List Int)) (zkO (by omega)) hk
    rw [Int.toNat_natCast]at this
    rw [this,h1]
    by_cases h:((n+6:Nat):Int)=k
    · rw [show (((n+6:Nat):Int)==k)=true from beq_iff_eq.2 h,zk0 (show 6≤k by omega),zjI (show k < 6+((n+1:Nat):Int) by omega)]; rfl
    · rw [show (((n+6:Nat):Int)==k)=false from beq_eq_false_iff_ne.2 h,cond_false,show ltb k (6+((n+1:Nat):Int))=ltb k (6+(n:Int)) by rw [Bool.eq_iff_iff,zjT,zjT]; omega]
theorem yOa (g:dG):EvV g (fun _ _=>0):=by
  refine ⟨fun s _ _=> ?_,fun _ _ _ _ _ _=>rfl⟩
  unfold vlist
  rw [yib]
  have: ∀ l:List Nat,ycn (l.map (fun (_:Nat)=>(0:Int)))=0#64:=by
    intro l
    induction l with
    | nil=>rfl
    | cons x t ih=>rw [List.map_cons,yf4,ih]; decide
  rw [this]; rfl
theorem yPc {id:Int} {g:dG} (hg:yb g=true) (h1:1≤id) (h2:id≤60000) {i:Int} (i0:0≤i) (i1:i < g.1):dsk (yiG id g) i=yr id g i:=by
  rw [yzk hg h1 h2]
  show nth ((List.range g.1.toNat).map (fun (i:Nat)=>yr id g i)) i noMem=_
  unfold nth
  rw [zcq (by rw [List.length_map,List.length_range]; omega),List.getElem_map,List.getElem_range,Int.toNat_of_nonneg i0]
theorem yO9 {id:Int} {g:dG} (hg:yb g=true) (h1:1≤id) (h2:id≤60000):Ix 0 (fun _ _=>0) (yiG id g):=by
  have hw:=yMF hg h1 h2
  have hge:=yk.1 hg
  have e:=yzk hg h1 h2
  have eg:(yiG id g).2.1=g:=by rw [e]
  have ed: ∀ i,0≤i→i < g.1→dsk (yiG id g) i=yr id g i:=fun i i0 i1=>yPc hg h1 h2 i0 i1
  refine ⟨hw.1,hw.2.1,hw.2.2.1.1,hw.2.2.2.1,hw.2.2.2.2,by rw [e]; exact Int.le_refl _,yOa _,fun i s i0 i1 s0 s1 _=> ?_,fun i i0 i1=> ?_⟩
  · rw [eg]at i1 s1
    rw [ed i i0 i1]
    obtain ⟨_,_,n3⟩:=yxx id i hg
    unfold ykd
    rw [n3]
    show nth (yr id g i).1 (s+6) []=_
    unfold yr
    rw [yMQ hg g.2.toNat (Nat.le_refl _) (s+6) (by omega),zk0 (show 6≤s+6 by omega),zjI (show s+6 < 6+(g.2.toNat:Int) by omega)]; rfl
  · rw [eg]at i1
    rw [ed i i0 i1,(yxx id i hg).2.2,e]
    show ((([]:List dW).length:Nat):Int)≤1+(bif i== -1 then 0 else 0)
    rw [List.length_nil]
    cases (i== -1)<;>decide
theorem yNK {k:Int} {V:Int→Int→Int} {a b:dA} (h:Ix k V a) (ht:Turned a b) (hk:k+16≤60000) (hu:downA b=false): ∃ V',Ix (k+16) V' b:=by
  cases ht with
  | same=>exact ⟨V,ycI h (by omega)⟩
  | put b x hb hx=>exact ⟨V,ycI (yPb h hb hx) (by omega)⟩
  | flush s=>obtain ⟨V',h'⟩:=yDi s h (by omega) hu; exact ⟨V',ycI h' (by omega)⟩
  | all=>exact yO7 h hk hu
  | fail m hl hm=>exact ⟨V,ycI (yOL h (.inl hl) hm (by omega) hu) (by omega)⟩
  | spare hl _=>exact ⟨V,ycI (yOf h hl (by omega) hu) (by omega)⟩
  | step hl hf hb=>exact ⟨V,ycI (yON h hl hf hb hu) (by omega)⟩
  | check=>exact ⟨V,ycI (yMb h (by omega) hu) (by omega)⟩
  | spoil m s hm _ _=>exact ⟨V,ycI (yOg h hm) (by omega)⟩
theorem yOn {N p:Int} {l:List Int} (h:3≤N∧N≤5) (hp:0≤p∧p≤N - 1) (hl:(l.length:Int)=N):(nth l p 0::(List.range (N - 1).toNat).map (fun (i:Nat)=>nth l ((p+1+i).tmod N) 0)).Perm l:=by
  have:N=3∨N=4∨N=5:=by omega
  rcases this with rfl | rfl | rfl
  · match l,hl with
    | [a,b,c],_ =>
      have:p=0∨p=1∨p=2:=by omega
      rcases this with rfl | rfl | rfl<;>simp [nth,List.range_succ,List.perm_iff_count,List.count_cons]<;>(try (intro z; omega))
    | [],hl=>simp at hl
    | [_],hl=>simp at hl
    | [_,_],hl=>simp at hl
    | _::_::_::_::_,hl=>simp only [List.length_cons]at hl; omega
  · match l,hl with
    | [a,b,c,d],_ =>
      have:p=0∨p=1∨p=2∨p=3:=by omega
      rcases this with rfl | rfl | rfl | rfl<;>simp [nth,List.range_succ,List.perm_iff_count,List.count_cons]<;>(try (intro z; omega))
    | [],hl=>simp at hl
    | [_],hl=>simp at hl
    | [_,_],hl=>simp at hl
    | [_,_,_],hl=>simp at hl
    | _::_::_::_::_::_,hl=>simp only [List.length_cons]at hl; omega
  · match l,hl with
    | [a,b,c,d,e],_ =>
      have:p=0∨p=1∨p=2∨p=3∨p=4:=by omega
      rcases this with rfl | rfl | rfl | rfl | rfl<;>simp [nth,List.range_succ,List.perm_iff_count,List.count_cons]<;>(try (intro z; omega))
    | [],hl=>simp at hl
    | [_],hl=>simp at hl
    | [_,_],hl=>simp at hl
    | [_,_,_],hl=>simp at hl
    | [_,_,_,_],hl=>simp at hl
    | _::_::_::_::_::_::_,hl=>simp only [List.length_cons]at hl; omega
theorem yMT {N p:Int} {l:List Int} (h:3≤N∧N≤5) (hp:0≤p∧p≤N - 1) (hl:(l.length:Int)=N) (hw:l.all isW=true) (hx:ycn l=0#64):xorOf ((List.range (N - 1).toNat).map (fun (i:Nat)=>nth l ((p+1+i).tmod N) 0))=nth l p 0:=by
  have h1:=yKm (yOn h hp hl)
  rw [yf4,hx]at h1
  have h2:=ypJ.1 (yAn (i:=p) hw)
  rw [yib]
  have:ycn ((List.range (N - 1).toNat).map (fun (i:Nat)=>nth l ((p+1+i).tmod N) 0))=bv (nth l p 0):=by
    have ab: ∀ u v:BitVec 64,u ^^^ v=0#64→v=u:=fun u v h=>by
      have h3:u ^^^ (u ^^^ v)=u ^^^ 0#64:=by rw [h]
      rw [← BitVec.xor_assoc,BitVec.xor_self,BitVec.zero_xor,BitVec.xor_zero]at h3
      exact h3
    exact ab _ _ h1
  rw [this]
  exact yMy (by omega) (by omega)
theorem yNX {V:Int→Int→Int} {g:dG} {s:Int} (h:EvV g V) (s0:0≤s) (s1:s < g.2):(vlist V g.1 s).all isW=true:=by
  rw [ywC]
  intro x hx
  unfold vlist at hx
  obtain ⟨i,hi,rfl⟩:=List.mem_map.1 hx
  have:=List.mem_range.1 hi
  exact h.ew s i s0 s1 (by omega) (by omega)
def yp5 (a:dA) (s:Int):Nat:=yhR (fun (i:Nat)=>ycH a s i) a.2.1.1.toNat
theorem yMe {k:Int} {V:Int→Int→Int} {a:dA} {s:Int} (h:Ix k V a) (s0:0≤s) (s1:s < a.2.1.2):yv a s=bif decide (yp5 a s < 2) then (vlist V a.2.1.1 s,true) else ([],false):=by
  rw [yHP h.xc.1 h.xk h.xe h.xv s0 s1,(yGi _ _).2]
  show (bif decide (2≤yp5 a s) then ([],false) else (vlist V a.2.1.1 s,true))=_
  by_cases h2:yp5 a s < 2
  · rw [decide_eq_true h2,decide_eq_false (by omega)]; rfl
  · rw [decide_eq_false h2,decide_eq_true (by omega)]; rfl
theorem yOM {k:Int} {V:Int→Int→Int} {a:dA} {s:Int} (h:Ix k V a) (s0:0≤s) (s1:s < a.2.1.2):yGh a s=(yp5 a s:Nat):=by
  unfold yGh yp5
  rw [yzG h,zk0 s0,zk0 (show s≤a.2.1.2 - 1 by omega)]
  have: ∀ n,n≤a.2.1.1.toNat→yhR (fun (i:Nat)=>yj a i s) n=yhR (fun (i:Nat)=>ycH a s i) n:=by
    intro n
    induction n with
    | zero=>intro _; rfl
    | succ n ih=>intro hn; rw [yr7,yr7,ih (by omega),(yvG h.xc.1 h.xk h.xv (show (0:Int)≤(n:Int) by omega) (by omega) s0 s1).1]
  rw [this _ (Nat.le_refl _)]; rfl
def ynJ (V:Int→Int→Int) (g:dG) (s:Int):List Int:=(List.range (g.1 - 1).toNat).map (fun (i:Nat)=>nth (vlist V g.1 s) (yaB g s i) 0)
theorem yMd {k:Int} {V:Int→Int→Int} {a:dA} {s:Int} (h:Ix k V a) (s0:0≤s) (s1:s < a.2.1.2):yV a.2.1 s=true:=yX.2 ⟨h.xc.1,s0,by omega⟩
theorem yNm {k:Int} {V:Int→Int→Int} {a:dA} {s:Int} (h:Ix k V a) (s0:0≤s) (s1:s < a.2.1.2):ywQ a s=bif decide (yp5 a s < 2) then (ynJ V a.2.1 s,true) else ([],false):=by
  unfold ywQ yoP
  rw [yzG h,h.xb,yMd h s0 s1,yMe h s0 s1]
  cases decide (yp5 a s < 2)<;>rfl
theorem yKq {V:Int→Int→Int} {g:dG} {s:Int} (hs:yV g s=true) (h:EvV g V):xorOf (ynJ V g s)=nth (vlist V g.1 s) (yf g s) 0:=by
  have h1:=yX.1 hs
  have hg:=yk.1 h1.1
  have hd:ynJ V g s=(List.range (g.1 - 1).toNat).map (fun (i:Nat)=>nth (vlist V g.1 s) ((yf g s+1+i).tmod g.1) 0):=by
    unfold ynJ
    refine List.map_congr_left fun i hi=> ?_
    have:=List.mem_range.1 hi
    unfold yaB
    rw [hs,zk0 (show (0:Int)≤i by omega),zk0 (show (i:Int)≤g.1 - 2 by omega)]; rfl
  rw [hd]
  exact yMT hg.1 (yf0 hs) (by rw [ynU]; omega) (yNX h h1.2.1 (by omega)) (yHQ (h.ev s h1.2.1 (by omega)))
theorem yvI (V:Int→Int→Int) (g:dG) (s:Int):(ynJ V g s).length=(g.1 - 1).toNat:=by unfold ynJ; rw [List.length_map,List.length_range]
end
section
def yxV:Code:=(Try.f192.body).getD .skip
def yyl:Env:=zki TT [(200,ywH)] []
theorem yCS:FrOk Try.prog ⟨yyl,18,fun _=>none⟩ yxV:=zkp yc yd ⟨yLp,trivial⟩
def yET:Nat→Option Seg:=fun _=>none
abbrev ye0:List Par:= [.rd tN]
abbrev ymx:List OT:= [⟨false,tL,(.ow .fz)⟩]
def yjJ (a0:dN):Option (ResD ymx×MutD ye0) :=
  let r1:=ycY a0
  bif (!r1) then
    some ((([]:List Int),()),())
  else
    bif (zj4 ([21322,a0.1,a0.2.1,(a0.2.2.length:Int)]:List Int).length a0.2.2.length 8) then
      some (((([21322,a0.1,a0.2.1,(a0.2.2.length:Int)]:List Int)++a0.2.2),()),())
    else none
theorem yKI (x:InD ye0):zjH ⟨yyl,18,yET⟩ Try.f192.results.toList yxV ye0 ymx x=yjJ x.1:=by kernel_rfl
theorem yGY:ConOk Try.prog 192 ⟨ye0,ymx,fun x=>yjJ x.1⟩:=zkh (yCS) Try.func192 (by kernel_rfl) (by kernel_rfl) Try.ntmps192.symm (by decide) (fun x r h=>(yKI x).trans h)
def yiO (a0:dN):List Int:=ytD a0
theorem yIP (a0:dN) (hk:zi9 ye0 (a0,())):yjJ a0=(fun n=>some ((n,()),())) (yiO a0):=by
  unfold yjJ yiO ytD
  cases hr:ycY a0
  · rfl
  · have:=(yNR.1 hr).2.2.1
    rw [zkw.2 (show (([21322,a0.1,a0.2.1,(a0.2.2.length:Int)]:List Int).length+a0.2.2.length) * 8≤140737488355328 by simp only [List.length_cons,List.length_nil]; omega)]; rfl
def yu8:Con:=⟨ye0,ymx,fun x=>(fun n=>some ((n,()),())) (yiO x.1)⟩
theorem yJw:ConOk Try.prog 192 yu8:=(yGY).mono (fun x r hk h=>(yIP x.1 hk).trans h)
end
end
end Go.Tf
