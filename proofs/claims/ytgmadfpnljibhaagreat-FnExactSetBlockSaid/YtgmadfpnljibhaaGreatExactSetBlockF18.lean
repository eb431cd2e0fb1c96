/- Functions of the program, and what they come to. -/
import Derived.Test.YtgmadfpnljibhaaGreatExactSetBlockF17
namespace Go.Tf
noncomputable section
open Go.Proofs
set_option synthInstance.maxHeartbeats 400000
set_option synthInstance.maxSize 10000
set_option linter.unusedVariables false
set_option linter.unusedSimpArgs false
set_option maxRecDepth 100000
section
def yhK:Code:=(Tryz.f256.body).getD .skip
def ymH:Env:=zki TT [(257,yd4)] []
theorem yFn:FrOk Tryz.prog ⟨ymH,27,fun _=>none⟩ yhK:=zkp yb yc ⟨yi7,trivial⟩
def ywe:Nat→Option Seg:=fun _=>none
def yb9:Shape:=⟨[(0,false,[.at 1000001000]),(1,false,[.int .i64]),(5,false,[.int .i64])],[],[(1000001000,tW,(.pr .fz (.ow .fz)))]⟩
def yg2:Shape:=⟨[(0,false,[.at 1000001000]),(1,false,[.int .i64]),(5,false,[.ci .i64 0])],[],[(1000001000,tW,(.pr .fz (.ow .fz)))]⟩
def ygV:Shape:=⟨[(1,false,[.int .i64])],[],[(1000001000,tW,(.pr .fz (.ow .fz)))]⟩
def yhe:Shape:=⟨[],[],[]⟩
def yms (v0 v1:Int) (v2:List dW):Option ((yb9).X ⊕ ((ygV).X ⊕ (yhe).X)) :=
 bif (ltb v1 (v2.length:Int)) then
 bif (inb v1 v2.length) then
 bif (inb v1 (v2.set (v1).toNat (v0,(nth v2 v1 (0,[])).2)).length) then
 let r4:=yG ((nth (v2.set (v1).toNat (v0,(nth v2 v1 (0,[])).2)) v1 (0,[])).2) (IntKind.i64.wrap (v0+1))
 some (.inl ((((),()),(r4.1,()),((IntKind.i64.wrap (v1+1)),()),()),(),(((v2.set (v1).toNat (v0,(nth v2 v1 (0,[])).2)).set (v1).toNat ((nth (v2.set (v1).toNat (v0,(nth v2 v1 (0,[])).2)) v1 (0,[])).1,r4.2)),())))
 else none
 else none
 else
 some (.inr (.inl (((v0,()),()),(),(v2,()))))
def ya0 (x:(yb9).X):=yms x.1.2.1.1 x.1.2.2.1.1 x.2.2.1
def ytf (x:(yg2).X):(yb9).X:=((((),()),(x.1.2.1.1,()),(0,()),()),(),(x.2.2.1,()))
def yuF:Code:=(zdI yhK 64 52).getD .skip
theorem yET:zdI yhK 64 13=some (.block 0 (.loop yuF)):=by kernel_rfl
theorem yGo (x:(yb9).X):zg7 ⟨ymH,27,ywe⟩ 0 yuF 52 yb9 ygV yhe x=ya0 x:=by kernel_rfl
def ytx (x:(yg2).X):Nat:=18446744073709551616
def ynE (x:(yg2).X):Option ((ygV).X ⊕ (yhe).X):=zr ya0 (ytx x) (ytf x)
def ytV:Seg:=⟨yg2,ygV,yhe,ynE⟩
def ywf:Nat→Option Seg:=fun q=>bif Nat.beq q 13 then some ytV else ywe q
theorem yFo:FrOk Tryz.prog ⟨ymH,27,ywf⟩ yhK:=(yFn).loop (sg:=ytV) yb9 ytf (by decide) yET ya0 ytx (by decide) (fun _=>rfl) (fun x r _ h=>h) yGo
abbrev yen:List Par:= [.mt tWs (.ow (.pr .fz (.ow .fz))),.rd tI]
abbrev ym0:List OT:= [⟨false,tI,.fz⟩]
def yjh (a0:List dW) (a1:Int):Option (ResD ym0×MutD yen) :=
 zjw (ynE ((((),()),(a1,()),((),()),()),(),(a0,()))) (fun y4 =>
 some ((y4.1.1.1,()),(y4.2.2.1,()))) (fun y4 =>
 none)
theorem yNz (x:InD yen):zjH ⟨ymH,27,ywf⟩ Tryz.f256.results.toList yhK yen ym0 x=yjh x.1 x.2.1:=by kernel_rfl
theorem yIX:ConOk Tryz.prog 256 ⟨yen,ym0,fun x=>yjh x.1 x.2.1⟩:=zkh (yFo) Tryz.func256 (by kernel_rfl) (by kernel_rfl) Tryz.ntmps256.symm (by decide) (fun x r h=>(yNz x).trans h)
def yJB (x:dW) (k:Int):Int×dW:=(yx (IntKind.i64.wrap (k+1)) x.2.length,(k,yfa (IntKind.i64.wrap (k+1)) x.2.length))
def yas (a0:List (dW)) (a1:Int):Int×List (dW):=zaX yJB a0 a1
theorem yLC (a0:List (dW)) (a1:Int) (hk:zi9 yen (a0,a1,())):yjh a0 a1=(fun n=>some ((n.1,()),(n.2,()))) (yas a0 a1):=by
 have hb:a0.length * 32≤2 ^ 47:=hk.1.1
 have hl:ynE ((((),()),(a1,()),((),()),()),(),(a0,()))=some (.inl ((((zaX yJB a0 a1).1,()),()),(),((zaX yJB a0 a1).2,()))) :=
  zkl (step:=ya0) a0 ((0,[]):dW) (fun i k m=>((((),()),(k,()),((i:Int),()),()),(),(m,()))) yJB (fun k m=> .inl (((k,()),()),(),(m,()))) (fun i s m hi hm=>by
   simp only [ya0,yms,zjI (show (i:Int) < m.length by omega),List.length_set,zkO hi,Int.toNat_natCast,List.set_set,cond_true,zkP hi,wr (show -9223372036854775808≤(i:Int)+1 by omega) (by omega),Int.natCast_add,Int.natCast_one,zjW]
   rfl) (fun s m hm=>by simp only [ya0,yms,hm,zkm (Int.le_refl _),cond_false]) a1 _ (by show _ < 18446744073709551616; omega)
 unfold yjh yas
 rw [hl]; rfl
def ywY:Con:=⟨yen,ym0,fun x=>(fun n=>some ((n.1,()),(n.2,()))) (yas x.1 x.2.1)⟩
theorem yMw:ConOk Tryz.prog 256 ywY:=(yIX).mono (fun x r hk h=>(yLC x.1 x.2.1 hk).trans h)
end
section
def yfF:Code:=(Tryz.f195.body).getD .skip
def ykv:Env:=zki TT [(255,ys5),(256,ywY),(257,yd4)] []
theorem yDN:FrOk Tryz.prog ⟨ykv,43,fun _=>none⟩ yfF:=zkp yb yc ⟨yGe,yMw,yi7,trivial⟩
def yuu:Nat→Option Seg:=fun _=>none
def ybs:Shape:=⟨[(0,false,[.at 1000001000]),(1,false,[.int .i64]),(5,false,[.int .i64])],[],[(1000001000,tM,(.pr (.ow (.ow .fz)) (.pr (.ow (.pr .fz (.ow .fz))) (.pr .fz (.ow .fz)))))]⟩
def yga:Shape:=⟨[(0,false,[.at 1000001000]),(1,false,[.int .i64]),(5,false,[.ci .i64 0])],[],[(1000001000,tM,(.pr (.ow (.ow .fz)) (.pr (.ow (.pr .fz (.ow .fz))) (.pr .fz (.ow .fz)))))]⟩
def yfV:Shape:=⟨[(1,false,[.int .i64])],[],[(1000001000,tM,(.pr (.ow (.ow .fz)) (.pr (.ow (.pr .fz (.ow .fz))) (.pr .fz (.ow .fz)))))]⟩
def ygt:Shape:=⟨[],[],[]⟩
def ykn (v0 v1:Int) (v2:List dM):Option ((ybs).X ⊕ ((yfV).X ⊕ (ygt).X)) :=
 bif (ltb v1 (v2.length:Int)) then
 bif (inb v1 v2.length) then
 let r9:=yH ((nth v2 v1 ([],[],false,[])).1) v0
 bif (inb v1 (v2.set (v1).toNat (r9.2,((nth v2 v1 ([],[],false,[])).2).1,(((nth v2 v1 ([],[],false,[])).2).2).1,(((nth v2 v1 ([],[],false,[])).2).2).2)).length) then
 let r11:=yas (((nth (v2.set (v1).toNat (r9.2,((nth v2 v1 ([],[],false,[])).2).1,(((nth v2 v1 ([],[],false,[])).2).2).1,(((nth v2 v1 ([],[],false,[])).2).2).2)) v1 ([],[],false,[])).2).1) r9.1
 bif (inb v1 ((v2.set (v1).toNat (r9.2,((nth v2 v1 ([],[],false,[])).2).1,(((nth v2 v1 ([],[],false,[])).2).2).1,(((nth v2 v1 ([],[],false,[])).2).2).2)).set (v1).toNat ((nth (v2.set (v1).toNat (r9.2,((nth v2 v1 ([],[],false,[])).2).1,(((nth v2 v1 ([],[],false,[])).2).2).1,(((nth v2 v1 ([],[],false,[])).2).2).2)) v1 ([],[],false,[])).1,r11.2,(((nth (v2.set (v1).toNat (r9.2,((nth v2 v1 ([],[],false,[])).2).1,(((nth v2 v1 ([],[],false,[])).2).2).1,(((nth v2 v1 ([],[],false,[])).2).2).2)) v1 ([],[],false,[])).2).2).1,(((nth (v2.set (v1).toNat (r9.2,((nth v2 v1 ([],[],false,[])).2).1,(((nth v2 v1 ([],[],false,[])).2).2).1,(((nth v2 v1 ([],[],false,[])).2).2).2)) v1 ([],[],false,[])).2).2).2)).length) then
 let r12:=(((v2.set (v1).toNat (r9.2,((nth v2 v1 ([],[],false,[])).2).1,(((nth v2 v1 ([],[],false,[])).2).2).1,(((nth v2 v1 ([],[],false,[])).2).2).2)).set (v1).toNat ((nth (v2.set (v1).toNat (r9.2,((nth v2 v1 ([],[],false,[])).2).1,(((nth v2 v1 ([],[],false,[])).2).2).1,(((nth v2 v1 ([],[],false,[])).2).2).2)) v1 ([],[],false,[])).1,r11.2,(((nth (v2.set (v1).toNat (r9.2,((nth v2 v1 ([],[],false,[])).2).1,(((nth v2 v1 ([],[],false,[])).2).2).1,(((nth v2 v1 ([],[],false,[])).2).2).2)) v1 ([],[],false,[])).2).2).1,(((nth (v2.set (v1).toNat (r9.2,((nth v2 v1 ([],[],false,[])).2).1,(((nth v2 v1 ([],[],false,[])).2).2).1,(((nth v2 v1 ([],[],false,[])).2).2).2)) v1 ([],[],false,[])).2).2).2)).set (v1).toNat ((nth ((v2.set (v1).toNat (r9.2,((nth v2 v1 ([],[],false,[])).2).1,(((nth v2 v1 ([],[],false,[])).2).2).1,(((nth v2 v1 ([],[],false,[])).2).2).2)).set (v1).toNat ((nth (v2.set (v1).toNat (r9.2,((nth v2 v1 ([],[],false,[])).2).1,(((nth v2 v1 ([],[],false,[])).2).2).1,(((nth v2 v1 ([],[],false,[])).2).2).2)) v1 ([],[],false,[])).1,r11.2,(((nth (v2.set (v1).toNat (r9.2,((nth v2 v1 ([],[],false,[])).2).1,(((nth v2 v1 ([],[],false,[])).2).2).1,(((nth v2 v1 ([],[],false,[])).2).2).2)) v1 ([],[],false,[])).2).2).1,(((nth (v2.set (v1).toNat (r9.2,((nth v2 v1 ([],[],false,[])).2).1,(((nth v2 v1 ([],[],false,[])).2).2).1,(((nth v2 v1 ([],[],false,[])).2).2).2)) v1 ([],[],false,[])).2).2).2)) v1 ([],[],false,[])).1,((nth ((v2.set (v1).toNat (r9.2,((nth v2 v1 ([],[],false,[])).2).1,(((nth v2 v1 ([],[],false,[])).2).2).1,(((nth v2 v1 ([],[],false,[])).2).2).2)).set (v1).toNat ((nth (v2.set (v1).toNat (r9.2,((nth v2 v1 ([],[],false,[])).2).1,(((nth v2 v1 ([],[],false,[])).2).2).1,(((nth v2 v1 ([],[],false,[])).2).2).2)) v1 ([],[],false,[])).1,r11.2,(((nth (v2.set (v1).toNat (r9.2,((nth v2 v1 ([],[],false,[])).2).1,(((nth v2 v1 ([],[],false,[])).2).2).1,(((nth v2 v1 ([],[],false,[])).2).2).2)) v1 ([],[],false,[])).2).2).1,(((nth (v2.set (v1).toNat (r9.2,((nth v2 v1 ([],[],false,[])).2).1,(((nth v2 v1 ([],[],false,[])).2).2).1,(((nth v2 v1 ([],[],false,[])).2).2).2)) v1 ([],[],false,[])).2).2).2)) v1 ([],[],false,[])).2).1,((r11.1.tmod 3)==0),(((nth ((v2.set (v1).toNat (r9.2,((nth v2 v1 ([],[],false,[])).2).1,(((nth v2 v1 ([],[],false,[])).2).2).1,(((nth v2 v1 ([],[],false,[])).2).2).2)).set (v1).toNat ((nth (v2.set (v1).toNat (r9.2,((nth v2 v1 ([],[],false,[])).2).1,(((nth v2 v1 ([],[],false,[])).2).2).1,(((nth v2 v1 ([],[],false,[])).2).2).2)) v1 ([],[],false,[])).1,r11.2,(((nth (v2.set (v1).toNat (r9.2,((nth v2 v1 ([],[],false,[])).2).1,(((nth v2 v1 ([],[],false,[])).2).2).1,(((nth v2 v1 ([],[],false,[])).2).2).2)) v1 ([],[],false,[])).2).2).1,(((nth (v2.set (v1).toNat (r9.2,((nth v2 v1 ([],[],false,[])).2).1,(((nth v2 v1 ([],[],false,[])).2).2).1,(((nth v2 v1 ([],[],false,[])).2).2).2)) v1 ([],[],false,[])).2).2).2)) v1 ([],[],false,[])).2).2).2))
 bif (inb v1 r12.length) then
 let r14:=yG ((((nth r12 v1 ([],[],false,[])).2).2).2) (IntKind.i64.wrap (r11.1+1))
 some (.inl ((((),()),(r14.1,()),((IntKind.i64.wrap (v1+1)),()),()),(),((r12.set (v1).toNat ((nth r12 v1 ([],[],false,[])).1,((nth r12 v1 ([],[],false,[])).2).1,(((nth r12 v1 ([],[],false,[])).2).2).1,r14.2)),())))
 else none
 else none
 else none
 else none
 else
 some (.inr (.inl (((v0,()),()),(),(v2,()))))
def yaz (x:(ybs).X):=ykn x.1.2.1.1 x.1.2.2.1.1 x.2.2.1
def yrS (x:(yga).X):(ybs).X:=((((),()),(x.1.2.1.1,()),(0,()),()),(),(x.2.2.1,()))
def ys2:Code:=(zdI yfF 64 52).getD .skip
theorem yDm:zdI yfF 64 13=some (.block 0 (.loop ys2)):=by kernel_rfl
theorem yEr (x:(ybs).X):zg7 ⟨ykv,43,yuu⟩ 0 ys2 52 ybs yfV ygt x=yaz x:=by kernel_rfl
def yrZ (x:(yga).X):Nat:=18446744073709551616
def ylD (x:(yga).X):Option ((yfV).X ⊕ (ygt).X):=zr yaz (yrZ x) (yrS x)
def yr6:Seg:=⟨yga,yfV,ygt,ylD⟩
def yuv:Nat→Option Seg:=fun q=>bif Nat.beq q 13 then some yr6 else yuu q
theorem yDO:FrOk Tryz.prog ⟨ykv,43,yuv⟩ yfF:=(yDN).loop (sg:=yr6) ybs yrS (by decide) yDm yaz yrZ (by decide) (fun _=>rfl) (fun x r _ h=>h) yEr
abbrev ydi:List Par:= [.mt tMs (.ow (.pr (.ow (.ow .fz)) (.pr (.ow (.pr .fz (.ow .fz))) (.pr .fz (.ow .fz))))),.rd tI]
abbrev ykN:List OT:= [⟨false,tI,.fz⟩]
def yhy (a0:List dM) (a1:Int):Option (ResD ykN×MutD ydi) :=
 zjw (ylD ((((),()),(a1,()),((),()),()),(),(a0,()))) (fun y14 =>
 some ((y14.1.1.1,()),(y14.2.2.1,()))) (fun y14 =>
 none)
theorem yKs (x:InD ydi):zjH ⟨ykv,43,yuv⟩ Tryz.f195.results.toList yfF ydi ykN x=yhy x.1 x.2.1:=by kernel_rfl
theorem yF5:ConOk Tryz.prog 195 ⟨ydi,ykN,fun x=>yhy x.1 x.2.1⟩:=zkh (yDO) Tryz.func195 (by kernel_rfl) (by kernel_rfl) Tryz.ntmps195.symm (by decide) (fun x r h=>(yKs x).trans h)
def yvV (x:dM) (k:Int):Int×dM:=((yG x.2.2.2 (IntKind.i64.wrap ((yas x.2.1 (yH x.1 k).1).1+1))).1,((yH x.1 k).2,(yas x.2.1 (yH x.1 k).1).2,((yas x.2.1 (yH x.1 k).1).1.tmod 3==0),(yG x.2.2.2 (IntKind.i64.wrap ((yas x.2.1 (yH x.1 k).1).1+1))).2))
def yag (a0:List (dM)) (a1:Int):Int×List (dM):=zaX yvV a0 a1
theorem yID (a0:List (dM)) (a1:Int) (hk:zi9 ydi (a0,a1,())):yhy a0 a1=(fun n=>some ((n.1,()),(n.2,()))) (yag a0 a1):=by
 have hb:a0.length * 80≤2 ^ 47:=hk.1.1
 have hl:ylD ((((),()),(a1,()),((),()),()),(),(a0,()))=some (.inl ((((zaX yvV a0 a1).1,()),()),(),((zaX yvV a0 a1).2,()))) :=
  zkl (step:=yaz) a0 (([],[],false,[]):dM) (fun i k m=>((((),()),(k,()),((i:Int),()),()),(),(m,()))) yvV (fun k m=> .inl (((k,()),()),(),(m,()))) (fun i s m hi hm=>by
   simp only [yaz,ykn,zjI (show (i:Int) < m.length by omega),List.length_set,zkO hi,Int.toNat_natCast,List.set_set,cond_true,zkP hi,wr (show -9223372036854775808≤(i:Int)+1 by omega) (by omega),Int.natCast_add,Int.natCast_one,zjW]
   rfl) (fun s m hm=>by simp only [yaz,ykn,hm,zkm (Int.le_refl _),cond_false]) a1 _ (by show _ < 18446744073709551616; omega)
 unfold yhy yag
 rw [hl]; rfl
def yuU:Con:=⟨ydi,ykN,fun x=>(fun n=>some ((n.1,()),(n.2,()))) (yag x.1 x.2.1)⟩
theorem yJd:ConOk Tryz.prog 195 yuU:=(yF5).mono (fun x r hk h=>(yID x.1 x.2.1 hk).trans h)
end
section
def yfD:Code:=(Tryz.f196.body).getD .skip
def ykt:Env:=zki TT [(257,yd4)] []
theorem yDJ:FrOk Tryz.prog ⟨ykt,27,fun _=>none⟩ yfD:=zkp yb yc ⟨yi7,trivial⟩
def yuq:Nat→Option Seg:=fun _=>none
def ybq:Shape:=⟨[(0,false,[.at 1000001000]),(1,false,[.int .i64]),(5,false,[.int .i64])],[],[(1000001000,tW,(.pr .fz (.ow .fz)))]⟩
def yf8:Shape:=⟨[(0,false,[.at 1000001000]),(1,false,[.int .i64]),(5,false,[.ci .i64 0])],[],[(1000001000,tW,(.pr .fz (.ow .fz)))]⟩
def yfT:Shape:=⟨[(1,false,[.int .i64])],[],[(1000001000,tW,(.pr .fz (.ow .fz)))]⟩
def ygr:Shape:=⟨[],[],[]⟩
def ykl (v0 v1:Int) (v2:List dW):Option ((ybq).X ⊕ ((yfT).X ⊕ (ygr).X)) :=
 bif (ltb v1 (v2.length:Int)) then
 bif (inb v1 v2.length) then
 bif (inb v1 (v2.set (v1).toNat (v0,(nth v2 v1 (0,[])).2)).length) then
 let r4:=yG ((nth (v2.set (v1).toNat (v0,(nth v2 v1 (0,[])).2)) v1 (0,[])).2) (IntKind.i64.wrap (v0+1))
 some (.inl ((((),()),(r4.1,()),((IntKind.i64.wrap (v1+1)),()),()),(),(((v2.set (v1).toNat (v0,(nth v2 v1 (0,[])).2)).set (v1).toNat ((nth (v2.set (v1).toNat (v0,(nth v2 v1 (0,[])).2)) v1 (0,[])).1,r4.2)),())))
 else none
 else none
 else
 some (.inr (.inl (((v0,()),()),(),(v2,()))))
def yax (x:(ybq).X):=ykl x.1.2.1.1 x.1.2.2.1.1 x.2.2.1
def yrQ (x:(yf8).X):(ybq).X:=((((),()),(x.1.2.1.1,()),(0,()),()),(),(x.2.2.1,()))
def ys0:Code:=(zdI yfD 64 52).getD .skip
theorem yDk:zdI yfD 64 13=some (.block 0 (.loop ys0)):=by kernel_rfl
theorem yEp (x:(ybq).X):zg7 ⟨ykt,27,yuq⟩ 0 ys0 52 ybq yfT ygr x=yax x:=by kernel_rfl
def yrX (x:(yf8).X):Nat:=18446744073709551616
def ylB (x:(yf8).X):Option ((yfT).X ⊕ (ygr).X):=zr yax (yrX x) (yrQ x)
def yr4:Seg:=⟨yf8,yfT,ygr,ylB⟩
def yur:Nat→Option Seg:=fun q=>bif Nat.beq q 13 then some yr4 else yuq q
theorem yDK:FrOk Tryz.prog ⟨ykt,27,yur⟩ yfD:=(yDJ).loop (sg:=yr4) ybq yrQ (by decide) yDk yax yrX (by decide) (fun _=>rfl) (fun x r _ h=>h) yEp
abbrev ydg:List Par:= [.mt tWs (.ow (.pr .fz (.ow .fz))),.rd tI]
abbrev ykL:List OT:= [⟨false,tI,.fz⟩]
def yhw (a0:List dW) (a1:Int):Option (ResD ykL×MutD ydg) :=
 zjw (ylB ((((),()),(a1,()),((),()),()),(),(a0,()))) (fun y4 =>
 some ((y4.1.1.1,()),(y4.2.2.1,()))) (fun y4 =>
 none)
theorem yKq (x:InD ydg):zjH ⟨ykt,27,yur⟩ Tryz.f196.results.toList yfD ydg ykL x=yhw x.1 x.2.1:=by kernel_rfl
theorem yF3:ConOk Tryz.prog 196 ⟨ydg,ykL,fun x=>yhw x.1 x.2.1⟩:=zkh (yDK) Tryz.func196 (by kernel_rfl) (by kernel_rfl) Tryz.ntmps196.symm (by decide) (fun x r h=>(yKq x).trans h)
def yBr (x:dW) (k:Int):Int×dW:=(yx (IntKind.i64.wrap (k+1)) x.2.length,(k,yfa (IntKind.i64.wrap (k+1)) x.2.length))
def ydv (a0:List (dW)) (a1:Int):Int×List (dW):=zaX yBr a0 a1
theorem yIB (a0:List (dW)) (a1:Int) (hk:zi9 ydg (a0,a1,())):yhw a0 a1=(fun n=>some ((n.1,()),(n.2,()))) (ydv a0 a1):=by
 have hb:a0.length * 32≤2 ^ 47:=hk.1.1
 have hl:ylB ((((),()),(a1,()),((),()),()),(),(a0,()))=some (.inl ((((zaX yBr a0 a1).1,()),()),(),((zaX yBr a0 a1).2,()))) :=
  zkl (step:=yax) a0 ((0,[]):dW) (fun i k m=>((((),()),(k,()),((i:Int),()),()),(),(m,()))) yBr (fun k m=> .inl (((k,()),()),(),(m,()))) (fun i s m hi hm=>by
   simp only [yax,ykl,zjI (show (i:Int) < m.length by omega),List.length_set,zkO hi,Int.toNat_natCast,List.set_set,cond_true,zkP hi,wr (show -9223372036854775808≤(i:Int)+1 by omega) (by omega),Int.natCast_add,Int.natCast_one,zjW]
   rfl) (fun s m hm=>by simp only [yax,ykl,hm,zkm (Int.le_refl _),cond_false]) a1 _ (by show _ < 18446744073709551616; omega)
 unfold yhw ydv
 rw [hl]; rfl
def yuT:Con:=⟨ydg,ykL,fun x=>(fun n=>some ((n.1,()),(n.2,()))) (ydv x.1 x.2.1)⟩
theorem yJc:ConOk Tryz.prog 196 yuT:=(yF3).mono (fun x r hk h=>(yIB x.1 x.2.1 hk).trans h)
end
section
def yzU:Code:=(Tryz.f92.body).getD .skip
def yAm:Env:=zki TT [(195,yuU),(196,yuT)] []
theorem yFm:FrOk Tryz.prog ⟨yAm,14,fun _=>none⟩ yzU:=zkp yb yc ⟨yJd,yJc,trivial⟩
def yGQ:Nat→Option Seg:=fun _=>none
abbrev yh2:List Par:= [.mt tA (.pr .fz (.pr (.pr .fz .fz) (.pr (.ow (.pr (.ow (.ow .fz)) (.pr (.ow (.pr .fz (.ow .fz))) (.pr .fz (.ow .fz))))) (.pr .fz (.pr .fz (.pr .fz (.pr .fz (.pr .fz (.pr (.ow (.pr .fz (.ow .fz))) (.pr .fz (.pr .fz .fz))))))))))),.rd tI]
abbrev ymZ:List OT:= [⟨false,tI,.fz⟩]
def ypO (a0:dA) (a1:Int):Option (ResD ymZ×MutD yh2) :=
 let r1:=yag a0.2.2.1 a1
 let r2:=ydv a0.2.2.2.2.2.2.2.2.1 r1.1
 some ((r2.1,()),((a0.1,a0.2.1,r1.2,a0.2.2.2.1,a0.2.2.2.2.1,a0.2.2.2.2.2.1,a0.2.2.2.2.2.2.1,a0.2.2.2.2.2.2.2.1,r2.2,a0.2.2.2.2.2.2.2.2.2),()))
theorem yNy (x:InD yh2):zjH ⟨yAm,14,yGQ⟩ Tryz.f92.results.toList yzU yh2 ymZ x=ypO x.1 x.2.1:=by kernel_rfl
theorem yIW:ConOk Tryz.prog 92 ⟨yh2,ymZ,fun x=>ypO x.1 x.2.1⟩:=zkh (yFm) Tryz.func92 (by kernel_rfl) (by kernel_rfl) Tryz.ntmps92.symm (by decide) (fun x r h=>(yNy x).trans h)
def yE (a0:dA) (a1:Int):Int×dA :=
 let r1:=yag a0.2.2.1 a1
 let r2:=ydv a0.2.2.2.2.2.2.2.2.1 r1.1
 (r2.1,(a0.1,a0.2.1,r1.2,a0.2.2.2.1,a0.2.2.2.2.1,a0.2.2.2.2.2.1,a0.2.2.2.2.2.2.1,a0.2.2.2.2.2.2.2.1,r2.2,a0.2.2.2.2.2.2.2.2.2))
def ywX:Con:=⟨yh2,ymZ,fun x=>(fun n=>some ((n.1,()),(n.2,()))) (yE x.1 x.2.1)⟩
theorem yLB (a0:dA) (a1:Int):ypO a0 a1=(fun n=>some ((n.1,()),(n.2,()))) (yE a0 a1):=zkS (p:=fun (n:Int×dA)=>((n.1,()),(n.2,()))) rfl
theorem yMv:ConOk Tryz.prog 92 ywX:=(yIW).mono (fun x r _ h=>(yLB x.1 x.2.1).trans h)
end
section
def yfB:Code:=(Tryz.f260.body).getD .skip
def ykr:Env:=zki TT [] []
theorem yDF:FrOk Tryz.prog ⟨ykr,21,fun _=>none⟩ yfB:=zkp yb yc trivial
def yum:Nat→Option Seg:=fun _=>none
def ybo:Shape:=⟨[(0,false,[.br tI]),(1,false,[.int .i64]),(5,false,[.int .i64])],[],[]⟩
def yf6:Shape:=⟨[(0,false,[.br tI]),(1,false,[.int .i64]),(5,false,[.ci .i64 0])],[],[]⟩
def yfR:Shape:=⟨[(1,false,[.int .i64])],[],[]⟩
def ygp:Shape:=⟨[(4,false,[.int .i64])],[],[]⟩
def ykj (v0:List Int) (v1 v2:Int):Option ((ybo).X ⊕ ((yfR).X ⊕ (ygp).X)) :=
 bif (ltb v2 (v0.length:Int)) then
 bif (inb v2 v0.length) then
 bif ((nth v0 v2 0) !=v1) then
 some (.inr (.inr ((((-1),()),()),(),())))
 else
 some (.inl (((v0,()),((IntKind.i64.wrap (v1+1)),()),((IntKind.i64.wrap (v2+1)),()),()),(),()))
 else none
 else
 some (.inr (.inl (((v1,()),()),(),())))
def yav (x:(ybo).X):=ykj x.1.1.1 x.1.2.1.1 x.1.2.2.1.1
def yrO (x:(yf6).X):(ybo).X:=(((x.1.1.1,()),(x.1.2.1.1,()),(0,()),()),(),())
def ysY:Code:=(zdI yfB 64 52).getD .skip
theorem yDi:zdI yfB 64 13=some (.block 0 (.loop ysY)):=by kernel_rfl
theorem yEn (x:(ybo).X):zg7 ⟨ykr,21,yum⟩ 0 ysY 52 ybo yfR ygp x=yav x:=by kernel_rfl
def yrV (x:(yf6).X):Nat:=18446744073709551616
def ylz (x:(yf6).X):Option ((yfR).X ⊕ (ygp).X):=zr yav (yrV x) (yrO x)
def yr2:Seg:=⟨yf6,yfR,ygp,ylz⟩
def yun:Nat→Option Seg:=fun q=>bif Nat.beq q 13 then some yr2 else yum q
theorem yDG:FrOk Tryz.prog ⟨ykr,21,yun⟩ yfB:=(yDF).loop (sg:=yr2) ybo yrO (by decide) yDi yav yrV (by decide) (fun _=>rfl) (fun x r _ h=>h) yEn
abbrev yde:List Par:= [.rd tL,.rd tI]
abbrev ykJ:List OT:= [⟨false,tI,.fz⟩]
def yhu (a0:List Int) (a1:Int):Option (ResD ykJ×MutD yde) :=
 zjw (ylz (((a0,()),(a1,()),((),()),()),(),())) (fun y0 =>
 some ((y0.1.1.1,()),())) (fun y0 =>
 some ((y0.1.1.1,()),()))
theorem yKo (x:InD yde):zjH ⟨ykr,21,yun⟩ Tryz.f260.results.toList yfB yde ykJ x=yhu x.1 x.2.1:=by kernel_rfl
theorem yF1:ConOk Tryz.prog 260 ⟨yde,ykJ,fun x=>yhu x.1 x.2.1⟩:=zkh (yDG) Tryz.func260 (by kernel_rfl) (by kernel_rfl) Tryz.ntmps260.symm (by decide) (fun x r h=>(yKo x).trans h)
def yi (a0:List Int) (a1:Int):Int:=bif (List.range a0.length).any (fun i=>a0.getD i 0 !=yx a1 i) then -1 else yx a1 a0.length
theorem yIz (a0:List Int) (a1:Int) (hk:zi9 yde (a0,a1,())):yhu a0 a1=(fun n=>some ((n,()),())) (yi a0 a1):=by
 have hb:a0.length * 8≤2 ^ 47:=hk.1.1
 have hl:ylz (((a0,()),(a1,()),((),()),()),(),())=some (bif (List.range a0.length).any (fun i=>a0.getD i 0 !=yx a1 i) then .inr ((((-1),()),()),(),()) else .inl (((yx a1 a0.length,()),()),(),())) :=
  zf4 (step:=yav) (fun i=>(((a0,()),(yx a1 i,()),((i:Int),()),()),(),())) a0.length (fun i=>a0.getD i 0 !=yx a1 i) _ _ (fun i hi=>by
   simp only [yav,ykj,zkO hi,zjW,zjI (show (i:Int) < a0.length by omega),cond_true,wr (show -9223372036854775808≤(i:Int)+1 by omega) (by omega),Int.natCast_add,Int.natCast_one,yxA]
   cases (a0.getD i 0 !=yx a1 i)<;>rfl) (by simp only [yav,ykj,zkm (Int.le_refl _),cond_false]) _ (by show _ < 18446744073709551616; omega)
 unfold yhu yi
 rw [hl]
 cases (List.range a0.length).any (fun i=>a0.getD i 0 !=yx a1 i)<;>rfl
theorem yPz: ∀ (n i:Nat) (k:Int),i < n→(yfa k n).getD i 0=yx k i
 | n+1,0,k,_=>rfl
 | n+1,i+1,k,h=>yPz n i _ (by omega)
theorem yvQ (n:Nat) (k:Int):yi (yfa k n) k=yx k n:=by
 unfold yi
 rw [yqb]
 have:(List.range n).any (fun i=>(yfa k n).getD i 0 !=yx k i)=false:=by
  rw [List.any_eq_false]
  intro i hi
  rw [yPz n i k (List.mem_range.1 hi)]
  simp
 rw [this]; rfl
def yd3:Con:=⟨yde,ykJ,fun x=>(fun n=>some ((n,()),())) (yi x.1 x.2.1)⟩
theorem yi6:ConOk Tryz.prog 260 yd3:=(yF1).mono (fun x r hk h=>(yIz x.1 x.2.1 hk).trans h)
end
section
def yew:Code:=(Tryz.f258.body).getD .skip
def yiw:Env:=zki TT [(260,yd3)] []
theorem yCo:FrOk Tryz.prog ⟨yiw,21,fun _=>none⟩ yew:=zkp yb yc ⟨yi6,trivial⟩
def ysR:Nat→Option Seg:=fun _=>none
def yaP:Shape:=⟨[(0,false,[.br tL]),(1,false,[.int .i64]),(5,false,[.int .i64])],[],[]⟩
def ye5:Shape:=⟨[(0,false,[.br tL]),(1,false,[.int .i64]),(5,false,[.ci .i64 0])],[],[]⟩
def ye3:Shape:=⟨[(1,false,[.int .i64])],[],[]⟩
def ye8:Shape:=⟨[(4,false,[.int .i64])],[],[]⟩
def yjp (v0:List (List Int)) (v1 v2:Int):Option ((yaP).X ⊕ ((ye3).X ⊕ (ye8).X)) :=
 bif (ltb v2 (v0.length:Int)) then
 bif (inb v2 v0.length) then
 let r2:=yi (nth v0 v2 []) v1
 bif (ltb r2 0) then
 some (.inr (.inr ((((-1),()),()),(),())))
 else
 some (.inl (((v0,()),(r2,()),((IntKind.i64.wrap (v2+1)),()),()),(),()))
 else none
 else
 some (.inr (.inl (((v1,()),()),(),())))
def yai (x:(yaP).X):=yjp x.1.1.1 x.1.2.1.1 x.1.2.2.1.1
def yrd (x:(ye5).X):(yaP).X:=(((x.1.1.1,()),(x.1.2.1.1,()),(0,()),()),(),())
def yrK:Code:=(zdI yew 64 52).getD .skip
theorem yCk:zdI yew 64 13=some (.block 0 (.loop yrK)):=by kernel_rfl
theorem yCA (x:(yaP).X):zg7 ⟨yiw,21,ysR⟩ 0 yrK 52 yaP ye3 ye8 x=yai x:=by kernel_rfl
def yrf (x:(ye5).X):Nat:=18446744073709551616
def yke (x:(ye5).X):Option ((ye3).X ⊕ (ye8).X):=zr yai (yrf x) (yrd x)
def yrH:Seg:=⟨ye5,ye3,ye8,yke⟩
def ysS:Nat→Option Seg:=fun q=>bif Nat.beq q 13 then some yrH else ysR q
theorem yCp:FrOk Tryz.prog ⟨yiw,21,ysS⟩ yew:=(yCo).loop (sg:=yrH) yaP yrd (by decide) yCk yai yrf (by decide) (fun _=>rfl) (fun x r _ h=>h) yCA
abbrev ycw:List Par:= [.rd tLL,.rd tI]
abbrev yiR:List OT:= [⟨false,tI,.fz⟩]
def ygI (a0:List (List Int)) (a1:Int):Option (ResD yiR×MutD ycw) :=
 zjw (yke (((a0,()),(a1,()),((),()),()),(),())) (fun y2 =>
 some ((y2.1.1.1,()),())) (fun y2 =>
 some ((y2.1.1.1,()),()))
theorem yHc (x:InD ycw):zjH ⟨yiw,21,ysS⟩ Tryz.f258.results.toList yew ycw yiR x=ygI x.1 x.2.1:=by kernel_rfl
theorem yEj:ConOk Tryz.prog 258 ⟨ycw,yiR,fun x=>ygI x.1 x.2.1⟩:=zkh (yCp) Tryz.func258 (by kernel_rfl) (by kernel_rfl) Tryz.ntmps258.symm (by decide) (fun x r h=>(yHc x).trans h)
def ysh (x:List Int) (k:Int):Int:=yi x k
def ym (a0:List (List Int)) (a1:Int):Int:=(szG ysh a0 a1).getD (-1)
theorem yFS (a0:List (List Int)) (a1:Int) (hk:zi9 ycw (a0,a1,())):ygI a0 a1=(fun n=>some ((n,()),())) (ym a0 a1):=by
 have hb:a0.length * 24≤2 ^ 47:=hk.1.1
 have hl:yke (((a0,()),(a1,()),((),()),()),(),())=some (match szG ysh a0 a1 with | some r=> .inl (((r,()),()),(),()) | none=> .inr ((((-1),()),()),(),())) :=
  zkG (step:=yai) a0 ([]:List Int) (fun i k=>(((a0,()),(k,()),((i:Int),()),()),(),())) ysh (fun r=> .inl (((r,()),()),(),())) (.inr ((((-1),()),()),(),())) (fun i s hi=>by
   simp only [yai,yjp,zjI (show (i:Int) < a0.length by omega),zkO hi,zjW,cond_true,wr (show -9223372036854775808≤(i:Int)+1 by omega) (by omega),Int.natCast_add,Int.natCast_one,ysh]
   cases ltb (yi (a0.getD i ([]:List Int)) s) 0<;>rfl) (fun s=>by simp only [yai,yjp,zkm (Int.le_refl _),cond_false]) a1 _ (by show _ < 18446744073709551616; omega)
 unfold ygI ym
 rw [hl]
 cases szG ysh a0 a1<;>rfl
def ys4:Con:=⟨ycw,yiR,fun x=>(fun n=>some ((n,()),())) (ym x.1 x.2.1)⟩
theorem yGd:ConOk Tryz.prog 258 ys4:=(yEj).mono (fun x r hk h=>(yFS x.1 x.2.1 hk).trans h)
end
end
end Go.Tf
