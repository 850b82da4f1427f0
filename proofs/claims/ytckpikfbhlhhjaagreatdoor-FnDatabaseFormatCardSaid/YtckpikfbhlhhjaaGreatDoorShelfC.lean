/- strings.Cut's and strings.Split's contracts at this program, out of the library's own. -/
import Derived.Shelf.Strings.Split
import Derived.Shelf.Strings.Cut
import Derived.Test.YtckpikfbhlhhjaaGreatDoorShelf
import Derived.Test.YtckpikfbhlhhjaaGreatDoorWRepsOne
namespace Go.Proofs.YtckpikfbhlhhjaaGreatDoor.Shelf
open Go.Sort Go.Shelf Go.RowKit Go.Proofs.YtckpikfbhlhhjaaGreatDoorW.PrintWords Go.Proofs.YtckpikfbhlhhjaaGreatDoorW.PrintLast Go.Proofs.YtckpikfbhlhhjaaGreatDoorW.PrintMore Go.Proofs.YtckpikfbhlhhjaaGreatDoor.Base
set_option maxRecDepth 100000
set_option linter.unusedVariables false
def laysCut_ren:Go.Shelf.Ren where
  f:=fun x=>match x with|145=>22|220=>56|219=>87|217=>101|225=>102|224=>103|267=>104|266=>115|314=>116|n=>n
  t:=fun x=>match x with|9=>9|4=>4|59=>50|3=>3|5=>5|46=>112|146=>123|51=>122|n=>n
  g:=fun x=>match x with|1=>0|n=>n
theorem laysCut:Lays.n145 Tryz.prog laysCut_ren where
  mixed:=by kernel_rfl
  f145:=Eq.trans Tryz.func22 (congrArg some (by kernel_rfl))
  f217:=Eq.trans Tryz.func101 (congrArg some (by kernel_rfl))
  f219:=Eq.trans Tryz.func87 (congrArg some (by kernel_rfl))
  f220:=Eq.trans Tryz.func56 (congrArg some (by kernel_rfl))
  f224:=Eq.trans Tryz.func103 (congrArg some (by kernel_rfl))
  f225:=Eq.trans Tryz.func102 (congrArg some (by kernel_rfl))
  f266:=Eq.trans Tryz.func115 (congrArg some (by kernel_rfl))
  f267:=Eq.trans Tryz.func104 (congrArg some (by kernel_rfl))
  f314:=Eq.trans Tryz.func116 (congrArg some (by kernel_rfl))
  t3:=Tryz.underlying3
  a3:=Tryz.isAgg3
  z3:=Tryz.sizeOf3
  v3:=Tryz.zeroValue3
  t4:=Tryz.underlying4
  a4:=Tryz.isAgg4
  z4:=Tryz.sizeOf4
  v4:=Tryz.zeroValue4
  t5:=Tryz.underlying5
  a5:=Tryz.isAgg5
  z5:=Tryz.sizeOf5
  v5:=Tryz.zeroValue5
  t9:=Tryz.underlying9
  a9:=Tryz.isAgg9
  z9:=Tryz.sizeOf9
  v9:=Tryz.zeroValue9
  t46:=Tryz.underlying112
  a46:=Tryz.isAgg112
  z46:=Tryz.sizeOf112
  v46:=Tryz.zeroValue112
  t51:=Tryz.underlying122
  a51:=Tryz.isAgg122
  z51:=Tryz.sizeOf122
  v51:=Tryz.zeroValue122
  t59:=Tryz.underlying50
  a59:=Tryz.isAgg50
  z59:=Tryz.sizeOf50
  v59:=Tryz.zeroValue50
  t146:=Tryz.underlying123
  a146:=Tryz.isAgg123
  z146:=Tryz.sizeOf123
  v146:=Tryz.zeroValue123
  g1:=by kernel_rfl
def laysSplit_ren:Go.Shelf.Ren where
  f:=fun x=>match x with|146=>57|221=>88|268=>105|138=>106|143=>107|195=>117|197=>118|218=>119|219=>87|260=>122|217=>101|225=>102|224=>103|267=>104|266=>115|314=>116|n=>n
  t:=fun x=>match x with|9=>9|31=>39|3=>3|4=>4|0=>0|105=>126|21=>21|5=>5|46=>112|119=>136|139=>139|138=>138|146=>123|51=>122|n=>n
  g:=fun x=>match x with|1=>0|3=>1|4=>2|n=>n
theorem laysSplit:Lays.n146 Tryz.prog laysSplit_ren where
  mixed:=by kernel_rfl
  f138:=Eq.trans Tryz.func106 (congrArg some (by kernel_rfl))
  f143:=Eq.trans Tryz.func107 (congrArg some (by kernel_rfl))
  f146:=Eq.trans Tryz.func57 (congrArg some (by kernel_rfl))
  f195:=Eq.trans Tryz.func117 (congrArg some (by kernel_rfl))
  f197:=Eq.trans Tryz.func118 (congrArg some (by kernel_rfl))
  f217:=Eq.trans Tryz.func101 (congrArg some (by kernel_rfl))
  f218:=Eq.trans Tryz.func119 (congrArg some (by kernel_rfl))
  f219:=Eq.trans Tryz.func87 (congrArg some (by kernel_rfl))
  f221:=Eq.trans Tryz.func88 (congrArg some (by kernel_rfl))
  f224:=Eq.trans Tryz.func103 (congrArg some (by kernel_rfl))
  f225:=Eq.trans Tryz.func102 (congrArg some (by kernel_rfl))
  f260:=Eq.trans Tryz.func122 (congrArg some (by kernel_rfl))
  f266:=Eq.trans Tryz.func115 (congrArg some (by kernel_rfl))
  f267:=Eq.trans Tryz.func104 (congrArg some (by kernel_rfl))
  f268:=Eq.trans Tryz.func105 (congrArg some (by kernel_rfl))
  f314:=Eq.trans Tryz.func116 (congrArg some (by kernel_rfl))
  t0:=Tryz.underlying0
  a0:=Tryz.isAgg0
  z0:=Tryz.sizeOf0
  v0:=Tryz.zeroValue0
  t3:=Tryz.underlying3
  a3:=Tryz.isAgg3
  z3:=Tryz.sizeOf3
  v3:=Tryz.zeroValue3
  t4:=Tryz.underlying4
  a4:=Tryz.isAgg4
  z4:=Tryz.sizeOf4
  v4:=Tryz.zeroValue4
  t5:=Tryz.underlying5
  a5:=Tryz.isAgg5
  z5:=Tryz.sizeOf5
  v5:=Tryz.zeroValue5
  t9:=Tryz.underlying9
  a9:=Tryz.isAgg9
  z9:=Tryz.sizeOf9
  v9:=Tryz.zeroValue9
  t21:=Tryz.underlying21
  a21:=Tryz.isAgg21
  z21:=Tryz.sizeOf21
  v21:=Tryz.zeroValue21
  t31:=Tryz.underlying39
  a31:=Tryz.isAgg39
  z31:=Tryz.sizeOf39
  v31:=Tryz.zeroValue39
  t46:=Tryz.underlying112
  a46:=Tryz.isAgg112
  z46:=Tryz.sizeOf112
  v46:=Tryz.zeroValue112
  t51:=Tryz.underlying122
  a51:=Tryz.isAgg122
  z51:=Tryz.sizeOf122
  v51:=Tryz.zeroValue122
  t105:=Tryz.underlying126
  a105:=Tryz.isAgg126
  z105:=Tryz.sizeOf126
  v105:=Tryz.zeroValue126
  t119:=Tryz.underlying136
  a119:=Tryz.isAgg136
  z119:=Tryz.sizeOf136
  t138:=Tryz.underlying138
  a138:=Tryz.isAgg138
  z138:=Tryz.sizeOf138
  v138:=Tryz.zeroValue138
  t139:=Tryz.underlying139
  a139:=Tryz.isAgg139
  z139:=Tryz.sizeOf139
  v139:=Tryz.zeroValue139
  t146:=Tryz.underlying123
  a146:=Tryz.isAgg123
  z146:=Tryz.sizeOf123
  v146:=Tryz.zeroValue123
  g1:=by kernel_rfl
  g3:=by kernel_rfl
  g4:=by kernel_rfl
/-- The variable internal/bytealg.MaxLen holds a whole number. -/
structure Mx (w:World):Prop where
  ev: ∃m:Int,w.cell? ⟨0,0,none⟩=some (.int .i64 m)
theorem Mx.on {w w':World} (h:Mx w) (hb:Below w.heap.size w w'):Mx w':=by
  obtain⟨m,e⟩:=h.ev
  exact⟨m,pw_cell_below hb e⟩
structure PowM (w:World):Prop where
  pow:Pow w
  mx:Mx w
theorem PowM.on {w w':World} (h:PowM w) (hb:Below w.heap.size w w'):PowM w':=⟨h.pow.on hb,h.mx.on hb⟩
theorem Cut (s sep:ByteArray) (hs:s.size<4294967281) (w:World) (hp:PowM w):
    Calls Tryz.prog 22 #[.string s,.string sep] w fun e w'=>e= .returned (.tuple #[.string ⟨(Lib.cut s.data.toList sep.data.toList).1.toArray⟩,.string ⟨(Lib.cut s.data.toList sep.data.toList).2.1.toArray⟩,.bool (Lib.cut s.data.toList sep.data.toList).2.2])∧Below w.heap.size w w':=by
 obtain⟨m,e⟩:=hp.mx.ev
 refine(Any.strings_Cut laysCut s sep m w hs e).mono ?_
 rintro e w' ⟨he,n,rfl⟩
 exact⟨he,pw_below_drewN (Below.refl _ _) n⟩
theorem hi146:(Tryz.prog.info? (laysSplit_ren.t 9)).map (fun i=>(i.zero,i.size,i.bytes))=some (some (.string ByteArray.empty),1,16):=by kernel_rfl
theorem Split (s sep:ByteArray) (hs:s.size<4294967281) (h1:1≤sep.size) (w:World) (hp:PowM w):
    Calls Tryz.prog 57 #[.string s,.string sep] w fun e w'=>e= .returned (.slice (some ⟨w.heap.size,0,none⟩) (Lib.countB s sep+1) (Lib.countB s sep+1))∧w'=w.alloc (.cells ((Lib.splitB sep 0 (Lib.countB s sep) s).map Value.string).toArray 9):=by
 obtain⟨m,e⟩:=hp.mx.ev
 exact Any.strings_Split laysSplit hi146 s sep m w hs e h1
theorem reps_str (W:World) (base:Nat) (ok:Nat→Prop): ∀xs:List ByteArray,Reps (Kd.string.M W base ok) 1 xs (xs.map Value.string)
  | [] =>Reps.none _ _
  |x::xs=>Reps.one (show Kd.string.M W base ok x [Value.string x] from rfl) (reps_str W base ok xs)
/-- The pieces of a text, at their separators. -/
def pcs (s sep:ByteArray):List ByteArray:=Lib.splitB sep 0 (Lib.countB s sep) s
theorem SplitR (s sep:ByteArray) (hs:s.size<4294967281) (h1:1≤sep.size) (w:World) (hp:PowM w):
    Calls Tryz.prog 57 #[.string s,.string sep] w fun e w'=> ∃v0_:Value,e= .returned v0_∧Kd.R Kd.string 9 w' w.heap.size (fun _=>True) v0_ (pcs s sep)∧Below w.heap.size w w':=by
 refine(Split s sep hs h1 w hp).mono ?_
 rintro e w' ⟨he,rfl⟩
 have hl:(pcs s sep).length=Lib.countB s sep+1:=Lib.splitB_all sep h1 0 _ s rfl
 have hc:=Lib.countB_le sep h1 s.size s (Nat.le_refl _)
 refine⟨_,he,⟨fun _ _=>trivial,?_⟩,(Below.refl _ _).alloc (Nat.le_refl _) _⟩
 have h:=OwnRow.lit (e:=9) (R:=Kd.string.M (w.alloc (.cells ((pcs s sep).map Value.string).toArray 9)) w.heap.size (fun k=>True∧some k≠(Value.slice (some ⟨w.heap.size,0,none⟩) (Lib.countB s sep+1) (Lib.countB s sep+1)).ownBlock)) w w.heap.size (reps_str _ _ _ (pcs s sep)) (Nat.le_refl _) (by omega)
 rw[hl] at h
 exact h
end Go.Proofs.YtckpikfbhlhhjaaGreatDoor.Shelf
