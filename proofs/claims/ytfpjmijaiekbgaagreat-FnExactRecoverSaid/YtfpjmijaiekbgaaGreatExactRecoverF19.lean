/- Functions of the program, and what they come to. -/
import Derived.Test.YtfpjmijaiekbgaaGreatExactRecoverF18
namespace Go.Tf
noncomputable section
open Go.Proofs
set_option synthInstance.maxHeartbeats 400000
set_option synthInstance.maxSize 10000
set_option linter.unusedVariables false
set_option linter.unusedSimpArgs false
set_option maxRecDepth 100000
section
def yhY:Code:=(Tryz.f168.body).getD .skip
def yoD:Env:=zki TT [(154,ywe),(231,yBB)] []
theorem yLy:FrOk Tryz.prog ⟨yoD,38,fun _=>none⟩ yhY:=zkp yb yc ⟨yIj,ySL,trivial⟩
def yAO:Nat→Option Seg:=fun _=>none
def yaO:Shape:=⟨[(0,false,[.ptr 1000000000 0]),(8,false,[.int .i64]),(9,false,[.int .i64])],[(1000000000,[.int .i64,.int .i64,.int .i64,.at 800000000,.int .i64,.int .i64,.int .i64,.int .i64,.int .i64,.at 800000001,.int .i64,.bool,.bool])],[(800000000,tM,(.pr (.ow (.ow .fz)) (.pr (.ow (.pr .fz (.ow .fz))) (.pr .fz (.ow .fz))))),(800000001,tW,(.pr .fz (.ow .fz)))]⟩
def yeA:Shape:=⟨[(0,false,[.ptr 1000000000 0]),(8,false,[.int .i64]),(9,false,[.ci .i64 0])],[(1000000000,[.int .i64,.int .i64,.int .i64,.at 800000000,.int .i64,.int .i64,.int .i64,.int .i64,.int .i64,.at 800000001,.int .i64,.bool,.bool])],[(800000000,tM,(.pr (.ow (.ow .fz)) (.pr (.ow (.pr .fz (.ow .fz))) (.pr .fz (.ow .fz))))),(800000001,tW,(.pr .fz (.ow .fz)))]⟩
def yes:Shape:=⟨[],[(1000000000,[.int .i64,.int .i64,.int .i64,.at 800000000,.int .i64,.int .i64,.int .i64,.int .i64,.int .i64,.at 800000001,.int .i64,.bool,.bool])],[(800000000,tM,(.pr (.ow (.ow .fz)) (.pr (.ow (.pr .fz (.ow .fz))) (.pr .fz (.ow .fz))))),(800000001,tW,(.pr .fz (.ow .fz)))]⟩
def yeI:Shape:=⟨[(2,false,[.bool])],[(1000000000,[.int .i64,.int .i64,.int .i64,.at 800000000,.int .i64,.int .i64,.int .i64,.int .i64,.int .i64,.at 800000001,.int .i64,.bool,.bool])],[(800000000,tM,(.pr (.ow (.ow .fz)) (.pr (.ow (.pr .fz (.ow .fz))) (.pr .fz (.ow .fz))))),(800000001,tW,(.pr .fz (.ow .fz)))]⟩
abbrev yhr (v0:Int) (v1:Int) (v2:dA):(yaO).X:=((((),()),(v0,()),(v1,()),()),((v2.1,v2.2.1.1,v2.2.1.2,(),v2.2.2.2.1,v2.2.2.2.2.1,v2.2.2.2.2.2.1,v2.2.2.2.2.2.2.1,v2.2.2.2.2.2.2.2.1,(),v2.2.2.2.2.2.2.2.2.2.1,v2.2.2.2.2.2.2.2.2.2.2.1,v2.2.2.2.2.2.2.2.2.2.2.2,()),()),(v2.2.2.1,v2.2.2.2.2.2.2.2.2.1,()))
abbrev yKj (v0:Int) (v1:dA):(yeA).X:=((((),()),(v0,()),((),()),()),((v1.1,v1.2.1.1,v1.2.1.2,(),v1.2.2.2.1,v1.2.2.2.2.1,v1.2.2.2.2.2.1,v1.2.2.2.2.2.2.1,v1.2.2.2.2.2.2.2.1,(),v1.2.2.2.2.2.2.2.2.2.1,v1.2.2.2.2.2.2.2.2.2.2.1,v1.2.2.2.2.2.2.2.2.2.2.2,()),()),(v1.2.2.1,v1.2.2.2.2.2.2.2.2.1,()))
abbrev yog (v0:dA):(yes).X:=((),((v0.1,v0.2.1.1,v0.2.1.2,(),v0.2.2.2.1,v0.2.2.2.2.1,v0.2.2.2.2.2.1,v0.2.2.2.2.2.2.1,v0.2.2.2.2.2.2.2.1,(),v0.2.2.2.2.2.2.2.2.2.1,v0.2.2.2.2.2.2.2.2.2.2.1,v0.2.2.2.2.2.2.2.2.2.2.2,()),()),(v0.2.2.1,v0.2.2.2.2.2.2.2.2.1,()))
abbrev yoi (v0:Bool) (v1:dA):(yeI).X:=(((v0,()),()),((v1.1,v1.2.1.1,v1.2.1.2,(),v1.2.2.2.1,v1.2.2.2.2.1,v1.2.2.2.2.2.1,v1.2.2.2.2.2.2.1,v1.2.2.2.2.2.2.2.1,(),v1.2.2.2.2.2.2.2.2.2.1,v1.2.2.2.2.2.2.2.2.2.2.1,v1.2.2.2.2.2.2.2.2.2.2.2,()),()),(v1.2.2.1,v1.2.2.2.2.2.2.2.2.1,()))
def yon (v0:Int) (v1:Int) (v2:Int) (v3:Int) (v4:Int) (v5:Int) (v6:Int) (v7:Int) (v8:Int) (v9:Int) (v10:Int) (v11:Bool) (v12:Bool) (v13:List dM) (v14:List dW):Option ((yaO).X ⊕ ((yes).X ⊕ (yeI).X)) :=
  bif (ltb v1 v0) then
    bif (inb v1 v13.length) then
      bif (((nth v13 v1 ([],[],false,[])).2).2).1 then
        some (.inl ((((),()),(v0,()),((IntKind.i64.wrap (v1+1)),()),()),((v2,v3,v4,(),v5,v6,v7,v8,v9,(),v10,v11,v12,()),()),(v13,v14,())))
      else
        let r3:=yhQ (v2,(v3,v4),v13,v5,v6,v7,v8,v9,v14,v10,v11,v12)
        bif (!r3.1) then
          some (.inr (.inr (((false,()),()),((r3.2.1,r3.2.2.1.1,r3.2.2.1.2,(),r3.2.2.2.2.1,r3.2.2.2.2.2.1,r3.2.2.2.2.2.2.1,r3.2.2.2.2.2.2.2.1,r3.2.2.2.2.2.2.2.2.1,(),r3.2.2.2.2.2.2.2.2.2.2.1,r3.2.2.2.2.2.2.2.2.2.2.2.1,r3.2.2.2.2.2.2.2.2.2.2.2.2,()),()),(r3.2.2.2.1,r3.2.2.2.2.2.2.2.2.2.1,()))))
        else
          bif (inb v1 r3.2.2.2.1.length) then
            let r4:=yjm ((nth r3.2.2.2.1 v1 ([],[],false,[])).1,((nth r3.2.2.2.1 v1 ([],[],false,[])).2).1,(((nth r3.2.2.2.1 v1 ([],[],false,[])).2).2))
            bif (inb v1 r3.2.2.2.1.length) then
              some (.inl ((((),()),(v0,()),((IntKind.i64.wrap (v1+1)),()),()),((r3.2.1,r3.2.2.1.1,r3.2.2.1.2,(),r3.2.2.2.2.1,r3.2.2.2.2.2.1,r3.2.2.2.2.2.2.1,r3.2.2.2.2.2.2.2.1,r3.2.2.2.2.2.2.2.2.1,(),r3.2.2.2.2.2.2.2.2.2.2.1,r3.2.2.2.2.2.2.2.2.2.2.2.1,r3.2.2.2.2.2.2.2.2.2.2.2.2,()),()),((r3.2.2.2.1.set (v1).toNat r4),r3.2.2.2.2.2.2.2.2.2.1,())))
            else none
          else none
    else none
  else
    some (.inr (.inl ((),((v2,v3,v4,(),v5,v6,v7,v8,v9,(),v10,v11,v12,()),()),(v13,v14,()))))
def ya4 (x:(yaO).X):=yon x.1.2.1.1 x.1.2.2.1.1 x.2.1.1.1 x.2.1.1.2.1 x.2.1.1.2.2.1 x.2.1.1.2.2.2.2.1 x.2.1.1.2.2.2.2.2.1 x.2.1.1.2.2.2.2.2.2.1 x.2.1.1.2.2.2.2.2.2.2.1 x.2.1.1.2.2.2.2.2.2.2.2.1 x.2.1.1.2.2.2.2.2.2.2.2.2.2.1 x.2.1.1.2.2.2.2.2.2.2.2.2.2.2.1 x.2.1.1.2.2.2.2.2.2.2.2.2.2.2.2.1 x.2.2.1 x.2.2.2.1
def yxp (x:(yeA).X):(yaO).X:=((((),()),(x.1.2.1.1,()),(0,()),()),((x.2.1.1.1,x.2.1.1.2.1,x.2.1.1.2.2.1,(),x.2.1.1.2.2.2.2.1,x.2.1.1.2.2.2.2.2.1,x.2.1.1.2.2.2.2.2.2.1,x.2.1.1.2.2.2.2.2.2.2.1,x.2.1.1.2.2.2.2.2.2.2.2.1,(),x.2.1.1.2.2.2.2.2.2.2.2.2.2.1,x.2.1.1.2.2.2.2.2.2.2.2.2.2.2.1,x.2.1.1.2.2.2.2.2.2.2.2.2.2.2.2.1,()),()),(x.2.2.1,x.2.2.2.1,()))
def yy7:Code:=(zdI yhY 64 52).getD .skip
theorem yLa:zdI yhY 64 13=some (.block 0 (.loop yy7)):=by kernel_rfl
theorem yMV (x:(yaO).X):zg7 ⟨yoD,38,yAO⟩ 0 yy7 52 yaO yes yeI x=ya4 x:=by kernel_rfl
def yxD (x:(yeA).X):Nat:=(fun (u0:Int) (u1:Int) (u2:Int) (u3:Int) (u4:Int) (u5:Int) (u6:Int) (u7:Int) (u8:Int) (u9:Int) (u10:Bool) (u11:Bool) (u12:List dM) (u13:List dW)=>18446744073709551616) x.1.2.1.1 x.2.1.1.1 x.2.1.1.2.1 x.2.1.1.2.2.1 x.2.1.1.2.2.2.2.1 x.2.1.1.2.2.2.2.2.1 x.2.1.1.2.2.2.2.2.2.1 x.2.1.1.2.2.2.2.2.2.2.1 x.2.1.1.2.2.2.2.2.2.2.2.1 x.2.1.1.2.2.2.2.2.2.2.2.2.2.1 x.2.1.1.2.2.2.2.2.2.2.2.2.2.2.1 x.2.1.1.2.2.2.2.2.2.2.2.2.2.2.2.1 x.2.2.1 x.2.2.2.1
def yp8 (x:(yeA).X):Option ((yes).X ⊕ (yeI).X):=zr ya4 (yxD x) (yxp x)
def yxW:Seg:=⟨yeA,yes,yeI,yp8⟩
def yAP:Nat→Option Seg:=fun q=>bif Nat.beq q 13 then some yxW else yAO q
theorem yLz:FrOk Tryz.prog ⟨yoD,38,yAP⟩ yhY:=(yLy).loop (sg:=yxW) yaO yxp (by decide) yLa ya4 yxD (by decide) (fun _=>rfl) (fun x r _ h=>h) yMV
abbrev ycH:List Par:= [.pt tA (.pr .fz (.pr (.pr .fz .fz) (.pr (.ow (.pr (.ow (.ow .fz)) (.pr (.ow (.pr .fz (.ow .fz))) (.pr .fz (.ow .fz))))) (.pr .fz (.pr .fz (.pr .fz (.pr .fz (.pr .fz (.pr (.ow (.pr .fz (.ow .fz))) (.pr .fz (.pr .fz .fz)))))))))))]
abbrev yiS:List OT:= [⟨false,tB,.fz⟩]
def ykm (a0:dA):Option (ResD yiS×MutD ycH) :=
  zjw (yp8 ((((),()),((a0.2.2.1.length:Int),()),((),()),()),((a0.1,a0.2.1.1,a0.2.1.2,(),a0.2.2.2.1,a0.2.2.2.2.1,a0.2.2.2.2.2.1,a0.2.2.2.2.2.2.1,a0.2.2.2.2.2.2.2.1,(),a0.2.2.2.2.2.2.2.2.2.1,a0.2.2.2.2.2.2.2.2.2.2.1,a0.2.2.2.2.2.2.2.2.2.2.2,()),()),(a0.2.2.1,a0.2.2.2.2.2.2.2.2.1,()))) (fun y4 =>
    some ((true,()),((y4.2.1.1.1,(y4.2.1.1.2.1,y4.2.1.1.2.2.1),y4.2.2.1,y4.2.1.1.2.2.2.2.1,y4.2.1.1.2.2.2.2.2.1,y4.2.1.1.2.2.2.2.2.2.1,y4.2.1.1.2.2.2.2.2.2.2.1,y4.2.1.1.2.2.2.2.2.2.2.2.1,y4.2.2.2.1,y4.2.1.1.2.2.2.2.2.2.2.2.2.2.1,y4.2.1.1.2.2.2.2.2.2.2.2.2.2.2.1,y4.2.1.1.2.2.2.2.2.2.2.2.2.2.2.2.1),()))) (fun y4 =>
    some ((y4.1.1.1,()),((y4.2.1.1.1,(y4.2.1.1.2.1,y4.2.1.1.2.2.1),y4.2.2.1,y4.2.1.1.2.2.2.2.1,y4.2.1.1.2.2.2.2.2.1,y4.2.1.1.2.2.2.2.2.2.1,y4.2.1.1.2.2.2.2.2.2.2.1,y4.2.1.1.2.2.2.2.2.2.2.2.1,y4.2.2.2.1,y4.2.1.1.2.2.2.2.2.2.2.2.2.2.1,y4.2.1.1.2.2.2.2.2.2.2.2.2.2.2.1,y4.2.1.1.2.2.2.2.2.2.2.2.2.2.2.2.1),())))
theorem yT1 (x:InD ycH):zjH ⟨yoD,38,yAP⟩ Tryz.f168.results.toList yhY ycH yiS x=ykm x.1:=by kernel_rfl
theorem yOW:ConOk Tryz.prog 168 ⟨ycH,yiS,fun x=>ykm x.1⟩:=zkh (yLz) Tryz.func168 (by kernel_rfl) (by kernel_rfl) Tryz.ntmps168.symm (by decide) (fun x r h=>(yT1 x).trans h)
def yjk (a0:dA):Bool×dA:=(!(ye (yN a0)),yN a0)
def yfl (a0:dA):Bool:= !(ye a0)
theorem yRT (a0:dA) (hk:zi9 ycH (a0,())) (hq:yfl a0=true):ykm a0=(fun n=>some ((n.1,()),(n.2,()))) (yjk a0):=by
  have hb:a0.2.2.1.length * 80≤2 ^ 47:=hk.1.2.2.1.1
  have h1:yp8 (yKj a0.2.2.1.length a0)=some (bif ye (yN a0) then .inr (yoi false (yN a0)) else .inl (yog (yN a0))):=by
    have:=zkr (step:=ya4) a0.2.2.1.length (fun i s=>yhr a0.2.2.1.length i s) (fun i s=>bif ye (yL s i) then (.inr (yL s i):dA ⊕ dA) else .inl (yL s i)) (fun _ s=>s.2.2.1.length=a0.2.2.1.length∧ye s=false) id
      (fun b=>bif ye b then .inr (yoi false b) else .inl (yog b)) (fun i s hi hs=>by
        constructor
        · rw [y1G hs.2]
          simp only [ya4,yhr,yon,hs.1,zjI (show (i:Int) < a0.2.2.1.length by omega),cond_true,wr (show -9223372036854775808≤(i:Int)+1 by omega) (by omega),Int.natCast_add,Int.natCast_one,Int.toNat_natCast,zkO hi,zkV,yU6 hs.2,yei,yjm]
          cases hf:(nth s.2.2.1 i yf).2.2.1
          · cases ho:(opA s).1
            · have e:yL s i=(opA s).2:=by unfold yL; rw [hf,ho]; rfl
              have d:ye (opA s).2=true:=by rw [yZa hs.2,ho]; rfl
              rw [e]
              simp only [Bool.not_false,Bool.and_self,cond_true,cond_false,d,yei,yoi]
            · have e:yL s i=yEN (opA s).2 i (yg0 (nth s.2.2.1 i yf)):=by unfold yL; rw [hf,ho]; rfl
              rw [e]
              simp only [Bool.not_true,Bool.not_false,Bool.and_false,cond_true,cond_false,yhr,yEN,yei,Int.toNat_natCast]
          · have e:yL s i=s:=by unfold yL; rw [hf]; rfl
            rw [e]; rfl
        · intro s' h
          cases hd:ye (yL s i)
          · rw [hd]at h
            cases h
            exact ⟨(yyT s i).trans hs.1,hd⟩
          · rw [hd]at h; cases h) (fun s hs=>by simp only [ya4,yhr,yon,hs.2,zkm (Int.le_refl _),cond_false,id,yog]) a0 ⟨rfl,by simpa [yfl] using hq⟩ 18446744073709551616 (by omega)
    rw [yEy (fun a i h=>yNb i h),← List.range_eq_range'] at this
    exact this
  unfold ykm yjk
  rw [h1]
  cases hd:ye (yN a0)<;>rfl
def yfk (a0:dA):Option (ResD yiS×MutD ycH):=bif yfl a0 then (fun n=>some ((n.1,()),(n.2,()))) (yjk a0) else none
theorem yuL (a0:dA) (h:yfl a0=true):yfk a0=(fun n=>some ((n.1,()),(n.2,()))) (yjk a0):=by unfold yfk; rw [h]; rfl
def ykg:Con:=⟨ycH,yiS,fun x=>yfk x.1⟩
theorem yuK:ConOk Tryz.prog 168 ykg:=(yOW).mono (fun x r hk h=>zkW h (fun hq=>yRT x.1 hk hq))
end
section
def yft:Code:=(Tryz.f86.body).getD .skip
def yjL:Env:=zki TT [(78,yje),(165,ywf),(167,yGo),(168,ykg)] []
theorem yIt:FrOk Tryz.prog ⟨yjL,26,fun _=>none⟩ yft:=zkp yb yc ⟨ysG,yIk,yYR,yuK,trivial⟩
def yxb:Nat→Option Seg:=fun _=>none
def yad:Shape:=⟨[(0,false,[.ptr 1000000000 0]),(3,false,[.ptr 0 0]),(10,false,[.int .i64]),(11,false,[.int .i64])],[(0,[.int .i64,.int .i64,.br tI]),(1000000000,[.int .i64,.int .i64,.int .i64,.at 800000000,.int .i64,.int .i64,.int .i64,.int .i64,.int .i64,.at 800000001,.int .i64,.bool,.bool])],[(800000000,tM,(.pr (.ow (.ow .fz)) (.pr (.ow (.pr .fz (.ow .fz))) (.pr .fz (.ow .fz))))),(800000001,tW,(.pr .fz (.ow .fz)))]⟩
def ycX:Shape:=⟨[(0,false,[.ptr 1000000000 0]),(3,false,[.ptr 0 0]),(10,false,[.int .i64]),(11,false,[.ci .i64 0])],[(0,[.int .i64,.int .i64,.br tI]),(1000000000,[.int .i64,.int .i64,.int .i64,.at 800000000,.int .i64,.int .i64,.int .i64,.int .i64,.int .i64,.at 800000001,.int .i64,.bool,.bool])],[(800000000,tM,(.pr (.ow (.ow .fz)) (.pr (.ow (.pr .fz (.ow .fz))) (.pr .fz (.ow .fz))))),(800000001,tW,(.pr .fz (.ow .fz)))]⟩
def ycV:Shape:=⟨[(0,false,[.ptr 1000000000 0])],[(1000000000,[.int .i64,.int .i64,.int .i64,.at 800000000,.int .i64,.int .i64,.int .i64,.int .i64,.int .i64,.at 800000001,.int .i64,.bool,.bool])],[(800000000,tM,(.pr (.ow (.ow .fz)) (.pr (.ow (.pr .fz (.ow .fz))) (.pr .fz (.ow .fz))))),(800000001,tW,(.pr .fz (.ow .fz)))]⟩
def ycZ:Shape:=⟨[(4,false,[.bool])],[(1000000000,[.int .i64,.int .i64,.int .i64,.at 800000000,.int .i64,.int .i64,.int .i64,.int .i64,.int .i64,.at 800000001,.int .i64,.bool,.bool])],[(800000000,tM,(.pr (.ow (.ow .fz)) (.pr (.ow (.pr .fz (.ow .fz))) (.pr .fz (.ow .fz))))),(800000001,tW,(.pr .fz (.ow .fz)))]⟩
abbrev yls (v0:Int) (v1:Int) (v2:dN) (v3:dA):(yad).X:=((((),()),((),()),(v0,()),(v1,()),()),((v2.1,v2.2.1,v2.2.2,()),(v3.1,v3.2.1.1,v3.2.1.2,(),v3.2.2.2.1,v3.2.2.2.2.1,v3.2.2.2.2.2.1,v3.2.2.2.2.2.2.1,v3.2.2.2.2.2.2.2.1,(),v3.2.2.2.2.2.2.2.2.2.1,v3.2.2.2.2.2.2.2.2.2.2.1,v3.2.2.2.2.2.2.2.2.2.2.2,()),()),(v3.2.2.1,v3.2.2.2.2.2.2.2.2.1,()))
abbrev yIg (v0:Int) (v1:dN) (v2:dA):(ycX).X:=((((),()),((),()),(v0,()),((),()),()),((v1.1,v1.2.1,v1.2.2,()),(v2.1,v2.2.1.1,v2.2.1.2,(),v2.2.2.2.1,v2.2.2.2.2.1,v2.2.2.2.2.2.1,v2.2.2.2.2.2.2.1,v2.2.2.2.2.2.2.2.1,(),v2.2.2.2.2.2.2.2.2.2.1,v2.2.2.2.2.2.2.2.2.2.2.1,v2.2.2.2.2.2.2.2.2.2.2.2,()),()),(v2.2.2.1,v2.2.2.2.2.2.2.2.2.1,()))
abbrev ylu (v0:dA):(ycV).X:=((((),()),()),((v0.1,v0.2.1.1,v0.2.1.2,(),v0.2.2.2.1,v0.2.2.2.2.1,v0.2.2.2.2.2.1,v0.2.2.2.2.2.2.1,v0.2.2.2.2.2.2.2.1,(),v0.2.2.2.2.2.2.2.2.2.1,v0.2.2.2.2.2.2.2.2.2.2.1,v0.2.2.2.2.2.2.2.2.2.2.2,()),()),(v0.2.2.1,v0.2.2.2.2.2.2.2.2.1,()))
abbrev ylw (v0:Bool) (v1:dA):(ycZ).X:=(((v0,()),()),((v1.1,v1.2.1.1,v1.2.1.2,(),v1.2.2.2.1,v1.2.2.2.2.1,v1.2.2.2.2.2.1,v1.2.2.2.2.2.2.1,v1.2.2.2.2.2.2.2.1,(),v1.2.2.2.2.2.2.2.2.2.1,v1.2.2.2.2.2.2.2.2.2.2.1,v1.2.2.2.2.2.2.2.2.2.2.2,()),()),(v1.2.2.1,v1.2.2.2.2.2.2.2.2.1,()))
def ylN (v0:Int) (v1:Int) (v2:Int) (v3:Int) (v4:List Int) (v5:Int) (v6:Int) (v7:Int) (v8:Int) (v9:Int) (v10:Int) (v11:Int) (v12:Int) (v13:Int) (v14:Bool) (v15:Bool) (v16:List dM) (v17:List dW):Option ((yad).X ⊕ ((ycV).X ⊕ (ycZ).X)) :=
  bif (ltb v1 v0) then
    let r4:=ynK v2
    let r5:=ynJ (v2,v3,v4)
    bnd (yeh (v5,(v6,v7),v16,v8,v9,v10,v11,v12,v17,v13,v14,v15) v1 r4 r5) fun r6 =>
    bif (!r6.1.1) then
      some (.inr (.inr (((false,()),()),((r6.2.1.1,r6.2.1.2.1.1,r6.2.1.2.1.2,(),r6.2.1.2.2.2.1,r6.2.1.2.2.2.2.1,r6.2.1.2.2.2.2.2.1,r6.2.1.2.2.2.2.2.2.1,r6.2.1.2.2.2.2.2.2.2.1,(),r6.2.1.2.2.2.2.2.2.2.2.2.1,r6.2.1.2.2.2.2.2.2.2.2.2.2.1,r6.2.1.2.2.2.2.2.2.2.2.2.2.2,()),()),(r6.2.1.2.2.1,r6.2.1.2.2.2.2.2.2.2.2.1,()))))
    else
      some (.inl ((((),()),((),()),(v0,()),((IntKind.i64.wrap (v1+1)),()),()),((v2,v3,v4,()),(r6.2.1.1,r6.2.1.2.1.1,r6.2.1.2.1.2,(),r6.2.1.2.2.2.1,r6.2.1.2.2.2.2.1,r6.2.1.2.2.2.2.2.1,r6.2.1.2.2.2.2.2.2.1,r6.2.1.2.2.2.2.2.2.2.1,(),r6.2.1.2.2.2.2.2.2.2.2.2.1,r6.2.1.2.2.2.2.2.2.2.2.2.2.1,r6.2.1.2.2.2.2.2.2.2.2.2.2.2,()),()),(r6.2.1.2.2.1,r6.2.1.2.2.2.2.2.2.2.2.1,())))
  else
    some (.inr (.inl ((((),()),()),((v5,v6,v7,(),v8,v9,v10,v11,v12,(),v13,v14,v15,()),()),(v16,v17,()))))
def yaj (x:(yad).X):=ylN x.1.2.2.1.1 x.1.2.2.2.1.1 x.2.1.1.1 x.2.1.1.2.1 x.2.1.1.2.2.1 x.2.1.2.1.1 x.2.1.2.1.2.1 x.2.1.2.1.2.2.1 x.2.1.2.1.2.2.2.2.1 x.2.1.2.1.2.2.2.2.2.1 x.2.1.2.1.2.2.2.2.2.2.1 x.2.1.2.1.2.2.2.2.2.2.2.1 x.2.1.2.1.2.2.2.2.2.2.2.2.1 x.2.1.2.1.2.2.2.2.2.2.2.2.2.2.1 x.2.1.2.1.2.2.2.2.2.2.2.2.2.2.2.1 x.2.1.2.1.2.2.2.2.2.2.2.2.2.2.2.2.1 x.2.2.1 x.2.2.2.1
def yvf (x:(ycX).X):(yad).X:=((((),()),((),()),(x.1.2.2.1.1,()),(0,()),()),((x.2.1.1.1,x.2.1.1.2.1,x.2.1.1.2.2.1,()),(x.2.1.2.1.1,x.2.1.2.1.2.1,x.2.1.2.1.2.2.1,(),x.2.1.2.1.2.2.2.2.1,x.2.1.2.1.2.2.2.2.2.1,x.2.1.2.1.2.2.2.2.2.2.1,x.2.1.2.1.2.2.2.2.2.2.2.1,x.2.1.2.1.2.2.2.2.2.2.2.2.1,(),x.2.1.2.1.2.2.2.2.2.2.2.2.2.2.1,x.2.1.2.1.2.2.2.2.2.2.2.2.2.2.2.1,x.2.1.2.1.2.2.2.2.2.2.2.2.2.2.2.2.1,()),()),(x.2.2.1,x.2.2.2.1,()))
def ywc:Code:=(zdI yft 64 52).getD .skip
theorem yIq:zdI yft 64 13=some (.block 0 (.loop ywc)):=by kernel_rfl
theorem yIP (x:(yad).X):zg7 ⟨yjL,26,yxb⟩ 0 ywc 52 yad ycV ycZ x=yaj x:=by kernel_rfl
def yvh (x:(ycX).X):Nat:=(fun (u0:Int) (u1:Int) (u2:Int) (u3:List Int) (u4:Int) (u5:Int) (u6:Int) (u7:Int) (u8:Int) (u9:Int) (u10:Int) (u11:Int) (u12:Int) (u13:Bool) (u14:Bool) (u15:List dM) (u16:List dW)=>18446744073709551616) x.1.2.2.1.1 x.2.1.1.1 x.2.1.1.2.1 x.2.1.1.2.2.1 x.2.1.2.1.1 x.2.1.2.1.2.1 x.2.1.2.1.2.2.1 x.2.1.2.1.2.2.2.2.1 x.2.1.2.1.2.2.2.2.2.1 x.2.1.2.1.2.2.2.2.2.2.1 x.2.1.2.1.2.2.2.2.2.2.2.1 x.2.1.2.1.2.2.2.2.2.2.2.2.1 x.2.1.2.1.2.2.2.2.2.2.2.2.2.2.1 x.2.1.2.1.2.2.2.2.2.2.2.2.2.2.2.1 x.2.1.2.1.2.2.2.2.2.2.2.2.2.2.2.2.1 x.2.2.1 x.2.2.2.1
def ylY (x:(ycX).X):Option ((ycV).X ⊕ (ycZ).X):=zr yaj (yvh x) (yvf x)
def yvl:Seg:=⟨ycX,ycV,ycZ,ylY⟩
def yxc:Nat→Option Seg:=fun q=>bif Nat.beq q 13 then some yvl else yxb q
theorem yIu:FrOk Tryz.prog ⟨yjL,26,yxc⟩ yft:=(yIt).loop (sg:=yvl) yad yvf (by decide) yIq yaj yvh (by decide) (fun _=>rfl) (fun x r _ h=>h) yIP
abbrev ybj:List Par:= [.pt tA (.pr .fz (.pr (.pr .fz .fz) (.pr (.ow (.pr (.ow (.ow .fz)) (.pr (.ow (.pr .fz (.ow .fz))) (.pr .fz (.ow .fz))))) (.pr .fz (.pr .fz (.pr .fz (.pr .fz (.pr .fz (.pr (.ow (.pr .fz (.ow .fz))) (.pr .fz (.pr .fz .fz))))))))))),.rd tN]
abbrev yfT:List OT:= [⟨false,tB,.fz⟩]
def yhs (a0:dA) (a1:dN):Option (ResD yfT×MutD ybj) :=
  zjw (ylY ((((),()),((),()),((a0.2.2.1.length:Int),()),((),()),()),((a1.1,a1.2.1,a1.2.2,()),(a0.1,a0.2.1.1,a0.2.1.2,(),a0.2.2.2.1,a0.2.2.2.2.1,a0.2.2.2.2.2.1,a0.2.2.2.2.2.2.1,a0.2.2.2.2.2.2.2.1,(),a0.2.2.2.2.2.2.2.2.2.1,a0.2.2.2.2.2.2.2.2.2.2.1,a0.2.2.2.2.2.2.2.2.2.2.2,()),()),(a0.2.2.1,a0.2.2.2.2.2.2.2.2.1,()))) (fun y6 =>
    bnd (yfk (y6.2.1.1.1,(y6.2.1.1.2.1,y6.2.1.1.2.2.1),y6.2.2.1,y6.2.1.1.2.2.2.2.1,y6.2.1.1.2.2.2.2.2.1,y6.2.1.1.2.2.2.2.2.2.1,y6.2.1.1.2.2.2.2.2.2.2.1,y6.2.1.1.2.2.2.2.2.2.2.2.1,y6.2.2.2.1,y6.2.1.1.2.2.2.2.2.2.2.2.2.2.1,y6.2.1.1.2.2.2.2.2.2.2.2.2.2.2.1,y6.2.1.1.2.2.2.2.2.2.2.2.2.2.2.2.1)) fun r8 =>
    some ((r8.1.1,()),(r8.2.1,()))) (fun y6 =>
    some ((y6.1.1.1,()),((y6.2.1.1.1,(y6.2.1.1.2.1,y6.2.1.1.2.2.1),y6.2.2.1,y6.2.1.1.2.2.2.2.1,y6.2.1.1.2.2.2.2.2.1,y6.2.1.1.2.2.2.2.2.2.1,y6.2.1.1.2.2.2.2.2.2.2.1,y6.2.1.1.2.2.2.2.2.2.2.2.1,y6.2.2.2.1,y6.2.1.1.2.2.2.2.2.2.2.2.2.2.1,y6.2.1.1.2.2.2.2.2.2.2.2.2.2.2.1,y6.2.1.1.2.2.2.2.2.2.2.2.2.2.2.2.1),())))
theorem yNK (x:InD ybj):zjH ⟨yjL,26,yxc⟩ Tryz.f86.results.toList yft ybj yfT x=yhs x.1 x.2.1:=by kernel_rfl
theorem yKr:ConOk Tryz.prog 86 ⟨ybj,yfT,fun x=>yhs x.1 x.2.1⟩:=zkh (yIu) Tryz.func86 (by kernel_rfl) (by kernel_rfl) Tryz.ntmps86.symm (by decide) (fun x r h=>(yNK x).trans h)
def yki (a0:dA) (a1:dN):Bool×dA:=(!(ye (yHb a0 a1)),yHb a0 a1)
def yf1 (a0:dA) (a1:dN):Bool:= !(ye a0)
theorem yMB (a0:dA) (a1:dN) (hk:zi9 ybj (a0,a1,())) (hq:yf1 a0 a1=true):yhs a0 a1=(fun n=>some ((n.1,()),(n.2,()))) (yki a0 a1):=by
  have hb:a0.2.2.1.length * 80≤2 ^ 47:=hk.1.2.2.1.1
  have hd0:ye a0=false:=by simpa [yf1] using hq
  have h1:ylY (yIg a0.2.2.1.length a1 a0)=some (bif ye ((List.range a0.2.2.1.length).foldl (yf2 a1) a0) then .inr (ylw false ((List.range a0.2.2.1.length).foldl (yf2 a1) a0)) else .inl (ylu ((List.range a0.2.2.1.length).foldl (yf2 a1) a0))):=by
    have:=zkr (step:=yaj) a0.2.2.1.length (fun i s=>yls a0.2.2.1.length i a1 s) (fun i s=>bif ye (yf2 a1 s i) then (.inr (yf2 a1 s i):dA ⊕ dA) else .inl (yf2 a1 s i)) (fun _ s=>s.2.2.1.length=a0.2.2.1.length∧ye s=false) id
      (fun b=>bif ye b then .inr (ylw false b) else .inl (ylu b)) (fun i s hi hs=>by
        constructor
        · simp only [yaj,yls,ylN,zjI (show (i:Int) < a0.2.2.1.length by omega),cond_true,wr (show -9223372036854775808≤(i:Int)+1 by omega) (by omega),Int.natCast_add,Int.natCast_one,Int.toNat_natCast,zkV,yMb,ynJ]
          rw [ysI s i (yi a1.1) (yqK a1) (by unfold ycb; rw [zkO (by rw [hs.1]; exact hi),hs.2]; rfl)]
          simp only [zky,yb9]
          rw [show yf4 s i (yi a1.1) (yqK a1)=yf2 a1 s i from rfl]
          cases hd:ye (yf2 a1 s i)
          · rfl
          · simp only [hd,Bool.not_true,Bool.not_false,cond_true,ylw]
        · intro s' h
          cases hd:ye (yf2 a1 s i)
          · rw [hd]at h
            cases h
            exact ⟨(yCI a1 s i).trans hs.1,hd⟩
          · rw [hd]at h; cases h) (fun s hs=>by simp only [yaj,yls,ylN,hs.2,zkm (Int.le_refl _),cond_false,id,ylu]) a0 ⟨rfl,hd0⟩ 18446744073709551616 (by omega)
    rw [yEy (fun a i h=>y1V a1 i h),← List.range_eq_range'] at this
    exact this
  unfold yhs yki yHb
  refine (congrArg (fun z=>zjw z _ _) h1).trans ?_
  cases hd:ye ((List.range a0.2.2.1.length).foldl (yf2 a1) a0)
  · simp only [cond_false,zkJ,zkV]
    rw [yuL _ (by unfold yfl; rw [hd]; rfl)]; rfl
  · rw [yZt hd]
    simp only [cond_true,zkK,zkV]
    rw [hd]; rfl
def yf0 (a0:dA) (a1:dN):Option (ResD yfT×MutD ybj):=bif yf1 a0 a1 then (fun n=>some ((n.1,()),(n.2,()))) (yki a0 a1) else none
theorem yMT (a0:dA) (a1:dN) (h:yf1 a0 a1=true):yf0 a0 a1=(fun n=>some ((n.1,()),(n.2,()))) (yki a0 a1):=by unfold yf0; rw [h]; rfl
def yxl:Con:=⟨ybj,yfT,fun x=>yf0 x.1 x.2.1⟩
theorem yMP:ConOk Tryz.prog 86 yxl:=(yKr).mono (fun x r hk h=>zkW h (fun hq=>yMB x.1 x.2.1 hk hq))
end
section
def yIU:Code:=(Tryz.f79.body).getD .skip
def yJj:Env:=zki TT [(114,yn)] []
theorem yQB:FrOk Tryz.prog ⟨yJj,9,fun _=>none⟩ yIU:=zkp yb yc ⟨yw,trivial⟩
def yTn:Nat→Option Seg:=fun _=>none
abbrev ynn:List Par:= [.rd tI]
abbrev ytx:List OT:= [⟨false,tI,.fz⟩]
def ywP (a0:Int):Option (ResD ytx×MutD ynn) :=
  let r1:=yd a0 0 1099511627776
  bif (!r1) then
    some (((-1),()),())
  else
    some (((IntKind.i64.wrap ((IntKind.i64.wrap (a0+2))+4)),()),())
theorem yZA (x:InD ynn):zjH ⟨yJj,9,yTn⟩ Tryz.f79.results.toList yIU ynn ytx x=ywP x.1:=by kernel_rfl
theorem yVF:ConOk Tryz.prog 79 ⟨ynn,ytx,fun x=>ywP x.1⟩:=zkh (yQB) Tryz.func79 (by kernel_rfl) (by kernel_rfl) Tryz.ntmps79.symm (by decide) (fun x r h=>(yZA x).trans h)
def yt3 (a0:Int):Int :=
  let r1:=yd a0 0 1099511627776
  bif (!r1) then
    (-1)
  else
    (IntKind.i64.wrap ((IntKind.i64.wrap (a0+2))+4))
def yGk:Con:=⟨ynn,ytx,fun x=>(fun n=>some ((n,()),())) (yt3 x.1)⟩
theorem yXR (a0:Int):ywP a0=(fun n=>some ((n,()),())) (yt3 a0):=zkS (p:=fun (n:Int)=>((n,()),())) (zkx (p:=fun (n:Int)=>((n,()),())) rfl rfl)
theorem yYN:ConOk Tryz.prog 79 yGk:=(yVF).mono (fun x r _ h=>(yXR x.1).trans h)
theorem yXN (s:Int):yt3 s=ywk s:=yIp s
end
section
def yFe:Code:=(Tryz.f170.body).getD .skip
def yFS:Env:=zki TT [(100,yjf)] []
theorem yLG:FrOk Tryz.prog ⟨yFS,17,fun _=>none⟩ yFe:=zkp yb yc ⟨ysH,trivial⟩
def yNh:Nat→Option Seg:=fun _=>none
abbrev yeT:List Par:= [.rd tG,.rd tI]
abbrev yoY:List OT:= [⟨false,tI,.fz⟩]
def ykq (a0:dG) (a1:Int):Option (ResD yoY×MutD yeT) :=
  let r1:=yaW a0 a1
  bif (!r1) then
    some (((-1),()),())
  else
    bif (a0.1 !=0) then
      some (((IntKind.i64.wrap ((IntKind.i64.wrap (a0.1 - 1)) - (a1.tmod a0.1))),()),())
    else none
theorem yT5 (x:InD yeT):zjH ⟨yFS,17,yNh⟩ Tryz.f170.results.toList yFe yeT yoY x=ykq x.1 x.2.1:=by kernel_rfl
theorem yO0:ConOk Tryz.prog 170 ⟨yeT,yoY,fun x=>ykq x.1 x.2.1⟩:=zkh (yLG) Tryz.func170 (by kernel_rfl) (by kernel_rfl) Tryz.ntmps170.symm (by decide) (fun x r h=>(yT5 x).trans h)
def yc3 (a0:dG) (a1:Int):Int:=yh a0 a1
theorem yRX (a0:dG) (a1:Int) (hk:zi9 yeT (a0,a1,())):ykq a0 a1=(fun n=>some ((n,()),())) (yc3 a0 a1):=by
  unfold ykq yc3
  rw [yPX]
  cases hs:ykH a0 a1
  · unfold yh; rw [hs]; rfl
  · have h1:=ylS.1 hs
    have h2:=yaZ.1 h1.1
    have h3:=yvk hs
    have h4:yh a0 a1=a0.1 - 1 - a1.tmod a0.1:=by unfold yh; rw [hs]; rfl
    rw [show (a0.1 !=0)=true from bne_iff_ne.2 (by omega),wr (show -9223372036854775808≤a0.1 - 1 by omega) (by omega),wr (show -9223372036854775808≤a0.1 - 1 - a1.tmod a0.1 by omega) (by omega),h4]; rfl
def yst:Con:=⟨yeT,yoY,fun x=>(fun n=>some ((n,()),())) (yc3 x.1 x.2.1)⟩
theorem yEI:ConOk Tryz.prog 170 yst:=(yO0).mono (fun x r hk h=>(yRX x.1 x.2.1 hk).trans h)
end
section
def yIV:Code:=(Tryz.f127.body).getD .skip
def yJk:Env:=zki TT [(100,yjf),(114,yn),(170,yst)] []
theorem yQC:FrOk Tryz.prog ⟨yJk,28,fun _=>none⟩ yIV:=zkp yb yc ⟨ysH,yw,yEI,trivial⟩
def yTo:Nat→Option Seg:=fun _=>none
abbrev yhv:List Par:= [.rd tG,.rd tI,.rd tI]
abbrev yty:List OT:= [⟨false,tI,.fz⟩]
def ypz (a0:dG) (a1:Int) (a2:Int):Option (ResD yty×MutD yhv) :=
  let r1:=yaW a0 a1
  bif (!(!r1)) then
    let r2:=yd a2 0 (IntKind.i64.wrap (a0.1 - 2))
    bif (!r2) then
      some (((-1),()),())
    else
      let r3:=yc3 a0 a1
      bif (a0.1 !=0) then
        some ((((IntKind.i64.wrap ((IntKind.i64.wrap (r3+1))+a2)).tmod a0.1),()),())
      else none
  else
    some (((-1),()),())
theorem yZB (x:InD yhv):zjH ⟨yJk,28,yTo⟩ Tryz.f127.results.toList yIV yhv yty x=ypz x.1 x.2.1 x.2.2.1:=by kernel_rfl
theorem yVG:ConOk Tryz.prog 127 ⟨yhv,yty,fun x=>ypz x.1 x.2.1 x.2.2.1⟩:=zkh (yQC) Tryz.func127 (by kernel_rfl) (by kernel_rfl) Tryz.ntmps127.symm (by decide) (fun x r h=>(yZB x).trans h)
def ynG (a0:dG) (a1 a2:Int):Int:=ywl a0 a1 a2
theorem yXS (a0:dG) (a1 a2:Int) (hk:zi9 yhv (a0,a1,a2,())):ypz a0 a1 a2=(fun n=>some ((n,()),())) (ynG a0 a1 a2):=by
  unfold ypz ynG ywl yc3
  rw [yPX]
  cases hs:ykH a0 a1
  · rfl
  · have h1:=ylS.1 hs
    have h2:=yaZ.1 h1.1
    have h3:=yvk hs
    rw [yM,yfg,wr (show -9223372036854775808≤a0.1 - 2 by omega) (by omega)]
    cases hi:(leb 0 a2&&leb a2 (a0.1 - 2))
    · rfl
    · rw [Bool.and_eq_true,zjQ,zjQ]at hi
      rw [show (a0.1 !=0)=true from bne_iff_ne.2 (by omega)]
      show some (((IntKind.i64.wrap (IntKind.i64.wrap (yh a0 a1+1)+a2)).tmod a0.1,()),())=some (((yh a0 a1+1+a2).tmod a0.1,()),())
      rw [wr (show -9223372036854775808≤yh a0 a1+1 by omega) (by omega),wr (show -9223372036854775808≤yh a0 a1+1+a2 by omega) (by omega)]
def yGl:Con:=⟨yhv,yty,fun x=>(fun n=>some ((n,()),())) (ynG x.1 x.2.1 x.2.2.1)⟩
theorem yYO:ConOk Tryz.prog 127 yGl:=(yVG).mono (fun x r hk h=>(yXS x.1 x.2.1 x.2.2.1 hk).trans h)
end
section
def ypX:Code:=(Tryz.f202.body).getD .skip
def yvs:Env:=zki TT [] []
theorem yUC:FrOk Tryz.prog ⟨yvs,17,fun _=>none⟩ ypX:=zkp yb yc trivial
def yHr:Nat→Option Seg:=fun _=>none
def ycN:Shape:=⟨[(3,false,[.int .i64]),(6,false,[.br tI]),(7,false,[.int .i64]),(8,false,[.int .i64])],[],[]⟩
def yiD:Shape:=⟨[(3,false,[.ci .i64 0]),(6,false,[.br tI]),(7,false,[.int .i64]),(8,false,[.ci .i64 0])],[],[]⟩
def yil:Shape:=⟨[(3,false,[.int .i64])],[],[]⟩
def ypi:Shape:=⟨[],[],[]⟩
abbrev yuC (v0:Int) (v1:List Int) (v2:Int) (v3:Int):(ycN).X:=(((v0,()),(v1,()),(v2,()),(v3,()),()),(),())
abbrev yRD (v0:List Int) (v1:Int):(yiD).X:=((((),()),(v0,()),(v1,()),((),()),()),(),())
abbrev yEB (v0:Int):(yil).X:=(((v0,()),()),(),())
def yuZ (v0:Int) (v1:List Int) (v2:Int) (v3:Int):Option ((ycN).X ⊕ ((yil).X ⊕ (ypi).X)) :=
  bif (ltb v3 v2) then
    bif (inb v3 v1.length) then
      some (.inl ((((IntKind.i64.wrap ((BitVec.ofInt IntKind.i64.bits v0 ^^^ BitVec.ofInt IntKind.i64.bits (nth v1 v3 0)).toNat:Int)),()),(v1,()),(v2,()),((IntKind.i64.wrap (v3+1)),()),()),(),()))
    else none
  else
    some (.inr (.inl (((v0,()),()),(),())))
def ydl (x:(ycN).X):=yuZ x.1.1.1 x.1.2.1.1 x.1.2.2.1.1 x.1.2.2.2.1.1
def yD5 (x:(yiD).X):(ycN).X:=(((0,()),(x.1.2.1.1,()),(x.1.2.2.1.1,()),(0,()),()),(),())
def yF9:Code:=(zdI ypX 64 116).getD .skip
theorem yTL:zdI ypX 64 29=some (.block 0 (.loop yF9)):=by kernel_rfl
theorem yWF (x:(ycN).X):zg7 ⟨yvs,17,yHr⟩ 0 yF9 116 ycN yil ypi x=ydl x:=by kernel_rfl
def yEn (x:(yiD).X):Nat:=(fun (u0:List Int) (u1:Int)=>18446744073709551616) x.1.2.1.1 x.1.2.2.1.1
def yvD (x:(yiD).X):Option ((yil).X ⊕ (ypi).X):=zr ydl (yEn x) (yD5 x)
def yES:Seg:=⟨yiD,yil,ypi,yvD⟩
def yHs:Nat→Option Seg:=fun q=>bif Nat.beq q 29 then some yES else yHr q
theorem yUD:FrOk Tryz.prog ⟨yvs,17,yHs⟩ ypX:=(yUC).loop (sg:=yES) ycN yD5 (by decide) yTL ydl yEn (by decide) (fun _=>rfl) (fun x r _ h=>h) yWF
abbrev yk2:List Par:= [.rd tL]
abbrev yvT:List OT:= [⟨false,tI,.fz⟩]
def yrZ (a0:List Int):Option (ResD yvT×MutD yk2) :=
  zjw (yvD ((((),()),(a0,()),((a0.length:Int),()),((),()),()),(),())) (fun y0 =>
    some ((y0.1.1.1,()),())) (fun y0 =>
    none)
theorem y01 (x:InD yk2):zjH ⟨yvs,17,yHs⟩ Tryz.f202.results.toList ypX yk2 yvT x=yrZ x.1:=by kernel_rfl
theorem yYu:ConOk Tryz.prog 202 ⟨yk2,yvT,fun x=>yrZ x.1⟩:=zkh (yUD) Tryz.func202 (by kernel_rfl) (by kernel_rfl) Tryz.ntmps202.symm (by decide) (fun x r h=>(y01 x).trans h)
def ylA (a0:List Int):Int:=ypV a0
theorem y0e (a0:List Int) (hk:zi9 yk2 (a0,())):yrZ a0=(fun n=>some ((n,()),())) (ylA a0):=by
  have hb:a0.length * 8≤2 ^ 47:=hk.1.1
  have h1:yvD (yRD a0 a0.length)=some (.inl (yEB (ypV a0))) :=
    zkk (step:=ydl) a0 0 (fun i s=>yuC s a0 a0.length i) xw (fun _ _=>True) (fun s=> .inl (yEB s)) (fun i s hi _=>⟨by
      simp only [ydl,yuC,yuZ,zjI (show (i:Int) < a0.length by omega),cond_true,wr (show -9223372036854775808≤(i:Int)+1 by omega) (by omega),Int.natCast_add,Int.natCast_one,Int.toNat_natCast,zkO hi,zjW]; rfl,trivial⟩) (fun s _=>by simp only [ydl,yuC,yuZ,zkm (Int.le_refl _),cond_false]) 0 trivial _ (by show _ < 18446744073709551616; omega)
  unfold yrZ ylA
  rw [h1]; rfl
def yHU:Con:=⟨yk2,yvT,fun x=>(fun n=>some ((n,()),())) (ylA x.1)⟩
theorem y0E:ConOk Tryz.prog 202 yHU:=(yYu).mono (fun x r hk h=>(y0e x.1 hk).trans h)
end
end
end Go.Tf
