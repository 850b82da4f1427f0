/- strings.Join's contract at this program, out of the library's own, and impl.barred by it. -/
import Derived.Shelf.Strings.OnBuilder
import Derived.Test.YtckpikfbhlhhjaaGreatDoorShelf
namespace Go.Proofs.YtckpikfbhlhhjaaGreatDoor.Shelf
open Go.Sort Go.Shelf Go.RowKit Go.Proofs.YtckpikfbhlhhjaaGreatDoorW.PrintWords Go.Proofs.YtckpikfbhlhhjaaGreatDoorW.PrintLast Go.Proofs.YtckpikfbhlhhjaaGreatDoorW.PrintMore Go.Proofs.YtckpikfbhlhhjaaGreatDoor.Base
set_option maxRecDepth 100000
set_option linter.unusedVariables false
def laysJoin_ren:Go.Shelf.Ren where
  f:=fun x=>match x with|156=>36|165=>71|166=>72|169=>73|240=>97|241=>98|276=>111|277=>112|n=>n
  t:=fun x=>match x with|31=>39|9=>9|3=>3|4=>4|0=>0|20=>20|72=>87|76=>91|70=>85|37=>31|75=>90|127=>110|164=>118|5=>5|80=>93|n=>n
  g:=fun x=>x
theorem laysJoin:Lays.n156 Tryz.prog laysJoin_ren where
  mixed:=by kernel_rfl
  f156:=Eq.trans Tryz.func36 (congrArg some (by kernel_rfl))
  f165:=Eq.trans Tryz.func71 (congrArg some (by kernel_rfl))
  f166:=Eq.trans Tryz.func72 (congrArg some (by kernel_rfl))
  f169:=Eq.trans Tryz.func73 (congrArg some (by kernel_rfl))
  f240:=Eq.trans Tryz.func97 (congrArg some (by kernel_rfl))
  f241:=Eq.trans Tryz.func98 (congrArg some (by kernel_rfl))
  f276:=Eq.trans Tryz.func111 (congrArg some (by kernel_rfl))
  f277:=Eq.trans Tryz.func112 (congrArg some (by kernel_rfl))
  t0:=Tryz.underlying0
  a0:=Tryz.isAgg0
  z0:=Tryz.sizeOf0
  v0:=Tryz.zeroValue0
  t3:=Tryz.underlying3
  a3:=Tryz.isAgg3
  z3:=Tryz.sizeOf3
  v3:=Tryz.zeroValue3
  t4:=Tryz.underlying4
  a4:=Tryz.isAgg4
  z4:=Tryz.sizeOf4
  v4:=Tryz.zeroValue4
  t9:=Tryz.underlying9
  a9:=Tryz.isAgg9
  z9:=Tryz.sizeOf9
  v9:=Tryz.zeroValue9
  t20:=Tryz.underlying20
  a20:=Tryz.isAgg20
  z20:=Tryz.sizeOf20
  v20:=Tryz.zeroValue20
  t31:=Tryz.underlying39
  a31:=Tryz.isAgg39
  z31:=Tryz.sizeOf39
  v31:=Tryz.zeroValue39
  t37:=Tryz.underlying31
  a37:=Tryz.isAgg31
  z37:=Tryz.sizeOf31
  v37:=Tryz.zeroValue31
  t70:=Tryz.underlying85
  a70:=Tryz.isAgg85
  z70:=Tryz.sizeOf85
  v70:=Tryz.zeroValue85
  t72:=Tryz.underlying87
  a72:=Tryz.isAgg87
  z72:=Tryz.sizeOf87
  v72:=Tryz.zeroValue87
  t75:=Tryz.underlying90
  a75:=Tryz.isAgg90
  z75:=Tryz.sizeOf90
  v75:=Tryz.zeroValue90
  t76:=Tryz.underlying91
  a76:=Tryz.isAgg91
  z76:=Tryz.sizeOf91
  v76:=Tryz.zeroValue91
  t127:=Tryz.underlying110
  a127:=Tryz.isAgg110
  z127:=Tryz.sizeOf110
  v127:=Tryz.zeroValue110
  t164:=Tryz.underlying118
  a164:=Tryz.isAgg118
  z164:=Tryz.sizeOf118
  v164:=Tryz.zeroValue118
theorem extraJoin:Builder.Extra Tryz.prog laysJoin_ren where
  sizeBuilder:=by kernel_rfl
  liesBuilder:=by kernel_rfl
  t5:=Tryz.underlying5
  a5:=Tryz.isAgg5
  z5:=Tryz.sizeOf5
  v5:=Tryz.zeroValue5
  infoByte:=by kernel_rfl
  cellsByte:=by kernel_rfl
  sizeByte:=by kernel_rfl
  neB5:=by decide
/-- The bytes of a list of strings, one behind the other. -/
def cat_:List ByteArray→List UInt8
  | [] => []
  |x::xs=>x.toList++cat_ xs
theorem cat_join: ∀xs:List ByteArray,Lib.join (xs.map fun x=>x.data.toList) (⟨#[]⟩:ByteArray).data.toList=cat_ xs
  | [] =>rfl
  |x::xs=>by
   have ih:=cat_join xs
   rw[cat_,←ih,tl_eq]
   unfold Lib.join
   cases xs with
   |nil=>simp[List.intercalate]
   |cons y ys=>simp[List.intercalate]
theorem cat_app: ∀xs ys:List ByteArray,cat_ (xs++ys)=cat_ xs++cat_ ys
  | [],_=>rfl
  |x::xs,ys=>by rw[List.cons_append,cat_,cat_,cat_app xs ys,List.append_assoc]
theorem cat_len (xs:List ByteArray) (n:Nat):(cat_ (xs.take n)).length+(cat_ (xs.drop n)).length=(cat_ xs).length:=by
  rw[←List.length_append,←cat_app,List.take_append_drop]
theorem Join (A:Option Addr) (xs:List ByteArray) (c:Nat) (w:World) (hc:xs.length≤c) (hC:Kd.C Kd.string w A xs.length xs) (hN:xs.length≤140737488355328) (hl:(cat_ xs).length≤140737488355328):
    Calls Tryz.prog 36 #[.slice A xs.length c,.string ⟨#[]⟩] w fun e w'=>e= .returned (.string ⟨(cat_ xs).toArray⟩)∧Below w.heap.size w w':=by
 cases xs with
 |nil=>exact(Any.strings_Join_none laysJoin extraJoin A c ⟨#[]⟩ w).mono fun e w' ⟨he,hw⟩=>⟨he,hw▸Below.refl _ _⟩
 |cons x xs=>
  obtain⟨ad,rfl,h0⟩:=Kd.at_string hC 0 (by omega) (by simp only[List.length_cons];omega)
  rw[show(0:Int).toNat=0 from rfl,Addr.add,if_pos rfl] at h0
  have hs:ad=⟨ad.block,ad.off,none⟩:=by
    obtain⟨b,o,sp⟩:=ad
    cases sp with
    |none=>rfl
    |some z=>
     simp only[World.cell?] at h0
     split at h0<;>simp at h0
  have hb:ad.block<w.heap.size:=by
    rcases Nat.lt_or_ge ad.block w.heap.size with h|h
    ·exact h
    ·simp only[World.cell?,Array.getElem?_eq_none h] at h0
     cases h0
  rw[hs]
  rw[←cat_join] at hl ⊢
  refine Any.strings_Join laysJoin extraJoin ad.block ad.off c (x::xs) ⟨#[]⟩ w ?_ hb hN hc hl
  intro j y hj
  obtain⟨hlt,hy⟩:=List.getElem?_eq_some_iff.1 hj
  obtain⟨ad',e,hc'⟩:=Kd.at_string hC j (by omega) (by omega)
  obtain rfl:=Option.some.inj e
  rw[Int.toNat_natCast] at hc'
  have:ad.add j=⟨ad.block,ad.off+j,none⟩:=by
    unfold Addr.add
    by_cases q:j=0
    ·rw[if_pos q,q];exact hs
    ·rw[if_neg q]
  rw[←this,hc']
  congr 2
  unfold rdOf
  rw[Int.toNat_natCast,List.getD_eq_getElem?_getD,hj]
  rfl
/-- Strings, one behind the other, with a text between them. -/
def jn_ (xs:List ByteArray) (s:ByteArray):List UInt8:=Lib.join (xs.map fun x=>x.data.toList) s.data.toList
theorem JoinS (A:Option Addr) (xs:List ByteArray) (c:Nat) (s:ByteArray) (w:World) (hc:xs.length≤c) (hC:Kd.C Kd.string w A xs.length xs) (hN:xs.length≤140737488355328) (hl:(jn_ xs s).length≤140737488355328):
    Calls Tryz.prog 36 #[.slice A xs.length c,.string s] w fun e w'=>e= .returned (.string ⟨(jn_ xs s).toArray⟩)∧Below w.heap.size w w':=by
 cases xs with
 |nil=>exact(Any.strings_Join_none laysJoin extraJoin A c s w).mono fun e w' ⟨he,hw⟩=>⟨he,hw▸Below.refl _ _⟩
 |cons x xs=>
  obtain⟨ad,rfl,h0⟩:=Kd.at_string hC 0 (by omega) (by simp only[List.length_cons];omega)
  rw[show(0:Int).toNat=0 from rfl,Addr.add,if_pos rfl] at h0
  have hs:ad=⟨ad.block,ad.off,none⟩:=by
    obtain⟨b,o,sp⟩:=ad
    cases sp with
    |none=>rfl
    |some z=>
     simp only[World.cell?] at h0
     split at h0<;>simp at h0
  have hb:ad.block<w.heap.size:=by
    rcases Nat.lt_or_ge ad.block w.heap.size with h|h
    ·exact h
    ·simp only[World.cell?,Array.getElem?_eq_none h] at h0
     cases h0
  rw[hs]
  unfold jn_ at hl ⊢
  refine Any.strings_Join laysJoin extraJoin ad.block ad.off c (x::xs) s w ?_ hb hN hc hl
  intro j y hj
  obtain⟨hlt,hy⟩:=List.getElem?_eq_some_iff.1 hj
  obtain⟨ad',e,hc'⟩:=Kd.at_string hC j (by omega) (by omega)
  obtain rfl:=Option.some.inj e
  rw[Int.toNat_natCast] at hc'
  have:ad.add j=⟨ad.block,ad.off+j,none⟩:=by
    unfold Addr.add
    by_cases q:j=0
    ·rw[if_pos q,q];exact hs
    ·rw[if_neg q]
  rw[←this,hc']
  congr 2
  unfold rdOf
  rw[Int.toNat_natCast,List.getD_eq_getElem?_getD,hj]
  rfl
end Go.Proofs.YtckpikfbhlhhjaaGreatDoor.Shelf
