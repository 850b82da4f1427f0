import Derived.Test.YtckpikfbhlhhjaaGreatDoorProg
import Derived.Below
import Derived.Deep.Draws
import Derived.Deep.AppendLies
import Derived.Maps.AppendAt
import Derived.OwnWalk
import Derived.Laws.BytesArg
import Derived.Laws.MakeOwn
import Derived.Laws.OwnMore
import Derived.Deep.OwnRows
import Derived.Tactics
import Derived.Lib.ConvBytes
import Derived.Laws.Slices
import Derived.WalkKit
import Derived.KernelRfl
import Derived.RowKit3
import Derived.Deep.LoopGhost
import Derived.Deep.QuietTactic
import Derived.BigQuiet
import Derived.WideLaws
import Derived.Deep.DeepCutAuto
import Derived.Deep.CutBlock
import Derived.Deep.RegionHeld3
import Derived.Laws.Rows
import Derived.Lib.AppendStr
import Derived.ArgAppend
import Derived.Laws.IdiomCopy
import Derived.OrdersHeld
import Derived.Laws.BitsLemmas
import Derived.RowKit
import Derived.Laws.Cover1
import Derived.Laws.Cover3
import Derived.Lib.QuietBelow
import Derived.Test.YtckpikfbhlhhjaaGreatDoorCompact
import Derived.Test.YtckpikfbhlhhjaaGreatDoorSh
import Derived.Test.YtckpikfbhlhhjaaGreatDoorSh2
import Derived.Test.YtckpikfbhlhhjaaGreatDoorSh3
import Derived.Test.YtckpikfbhlhhjaaGreatDoorQ
import Derived.Test.YtckpikfbhlhhjaaGreatDoorTxt
import Derived.Test.YtckpikfbhlhhjaaGreatDoorBase
import Derived.Test.YtckpikfbhlhhjaaGreatDoorShelf
import Derived.Test.YtckpikfbhlhhjaaGreatDoorShelfJ
import Derived.Test.YtckpikfbhlhhjaaGreatDoorShelfC
import Derived.Test.YtckpikfbhlhhjaaGreatDoorWWords
import Derived.Test.YtckpikfbhlhhjaaGreatDoorWLast
import Derived.Test.YtckpikfbhlhhjaaGreatDoorWTab
import Derived.Test.YtckpikfbhlhhjaaGreatDoorWFour
import Derived.Test.YtckpikfbhlhhjaaGreatDoorWQPut
import Derived.Test.YtckpikfbhlhhjaaGreatDoorWApart
import Derived.Test.YtckpikfbhlhhjaaGreatDoorWArr
import Derived.Test.YtckpikfbhlhhjaaGreatDoorWZeros
import Derived.Test.YtckpikfbhlhhjaaGreatDoorWFoot
import Derived.Test.YtckpikfbhlhhjaaGreatDoorWKept
import Derived.Test.YtckpikfbhlhhjaaGreatDoorWShare
import Derived.Test.YtckpikfbhlhhjaaGreatDoorWN
import Derived.Test.YtckpikfbhlhhjaaGreatDoorWFootNe
import Derived.Test.YtckpikfbhlhhjaaGreatDoorWAt
import Derived.Test.YtckpikfbhlhhjaaGreatDoorWEqStruct
import Derived.Test.YtckpikfbhlhhjaaGreatDoorWRepsOne
import Derived.Test.YtckpikfbhlhhjaaGreatDoorWInv
import Derived.Test.YtckpikfbhlhhjaaGreatDoorWInvWords
import Derived.Test.YtckpikfbhlhhjaaGreatDoorWGuard
import Derived.Test.YtckpikfbhlhhjaaGreatDoorWNEv
import Derived.Test.YtckpikfbhlhhjaaGreatDoorWMore
namespace Go.Proofs.YtckpikfbhlhhjaaGreatDoor.PFnDatabaseFormat
open Go.RowKit Go.Proofs.YtckpikfbhlhhjaaGreatDoorW.PrintWords Go.Proofs.YtckpikfbhlhhjaaGreatDoorW.PrintLast Go.Proofs.YtckpikfbhlhhjaaGreatDoorW.PrintMore
attribute [local go_sem] max2_int min2_int max_two min_two max_three min_three max_four min_four
set_option linter.unusedVariables false
set_option linter.unusedSimpArgs false



def errW:Option Int→Value
 |none=> .nilIface
 |some c=> .iface 0 (.int .i64 c)
theorem errW_none:errW none= .nilIface:=rfl
theorem errW_some (c:Int):errW (some c)= .iface 0 (.int .i64 c):=rfl

theorem info3:(Tryz.prog.info? 3).map (fun i=>(i.zero,i.size,i.bytes))=some (some (.int .i64 0),1,8):=by kernel_rfl
theorem info5:(Tryz.prog.info? 5).map (fun i=>(i.zero,i.size,i.bytes))=some (some (.int .u8 0),1,1):=by kernel_rfl
theorem info9:(Tryz.prog.info? 9).map (fun i=>(i.zero,i.size,i.bytes))=some (some (.string ⟨#[]⟩),1,16):=by kernel_rfl
theorem info42:(Tryz.prog.info? 42).map (fun i=>(i.zero,i.size,i.bytes))=some (some (.agg #[(.string ⟨#[]⟩),(.int .i64 0),(.int .i64 0)]),3,32):=by kernel_rfl
theorem info47:(Tryz.prog.info? 47).map (fun i=>(i.zero,i.size,i.bytes))=some (some (.agg #[(.int .i64 0),(.slice none 0 0)]),2,32):=by kernel_rfl
-- the values' own types
/-! #### struct type 42 -/
structure S42 where
 f0:ByteArray
 f1:Int
 f2:Int
def z42:S42:=⟨(⟨#[]⟩:ByteArray),(0:Int),(0:Int)⟩
def k42:Kd S42:=Kd.iso (Kd.pair Kd.string (Kd.pair (Kd.int .i64) (Kd.int .i64))) (fun x:S42=>(x.f0,x.f1,x.f2))
theorem k42_open {w:World} {x:S42} {cs:List Value} (h:k42.K w x cs):cs= [.string x.f0,.int .i64 x.f1,.int .i64 x.f2] :=by
 obtain⟨_,_,rfl,rfl,⟨_,_,rfl,rfl,rfl⟩⟩:=h;exact rfl
theorem k42_openM {w:World} {base:Nat} {ok:Nat→Prop} {x:S42} {cs:List Value} (h:k42.M w base ok x cs):cs= [.string x.f0,.int .i64 x.f1,.int .i64 x.f2] :=by
 obtain⟨_,_,rfl,rfl,⟨_,_,rfl,rfl,rfl⟩⟩:=h;exact rfl
theorem k42_mk (w:World) (x:S42)  :k42.K w x [.string x.f0,.int .i64 x.f1,.int .i64 x.f2] :=⟨[.string x.f0],[.int .i64 x.f1,.int .i64 x.f2],rfl,rfl,⟨[.int .i64 x.f1],[.int .i64 x.f2],rfl,rfl,rfl⟩⟩
theorem k42_mkM (w:World) (base:Nat) (ok:Nat→Prop) (x:S42)  :k42.M w base ok x [.string x.f0,.int .i64 x.f1,.int .i64 x.f2] :=⟨[.string x.f0],[.int .i64 x.f1,.int .i64 x.f2],rfl,rfl,⟨[.int .i64 x.f1],[.int .i64 x.f2],rfl,rfl,rfl⟩⟩
theorem k42_mkF (W:World) (ok:Nat→Prop) (x:S42):Kd.FK k42 W ok x [.string x.f0,.int .i64 x.f1,.int .i64 x.f2] :=fun W2 _=>k42_mk W2 x
def rd_T42 (xs:List S42) (i:Int):S42:=xs.getD i.toNat z42
theorem at_T42 {w:World} {A:Option Addr} {n:Nat} {xs:List S42} (h:Kd.C k42 w A n xs) (i:Int) (h0:0≤i) (h1:i<n): ∃ad,A=some ad∧w.cell? (ad.add (i.toNat*3))=some (.string (rd_T42 xs i).f0)∧w.cell? ⟨(ad.add (i.toNat*3)).block,(ad.add (i.toNat*3)).off+1,none⟩=some (.int .i64 (rd_T42 xs i).f1)∧w.cell? ⟨(ad.add (i.toNat*3)).block,(ad.add (i.toNat*3)).off+2,none⟩=some (.int .i64 (rd_T42 xs i).f2):=by
 obtain⟨ad,c,e,_,hK,hc0⟩:=Kd.C_get h z42 i h0 h1;have hc: ∀j u,c[j]? =some u→w.cell? (ad.add (i.toNat*3+j))=some u:=hc0;obtain rfl:=k42_open hK;exact⟨ad,e,hc 0 _ rfl,by rw[←add_field _ _ 1 (by omega)];exact hc 1 _ rfl,by rw[←add_field _ _ 2 (by omega)];exact hc 2 _ rfl⟩

def rd_L4 (xs:List (List Int)) (i:Int):(List Int):=xs.getD i.toNat ([] :List Int)
theorem at_L4 {w:World} {A:Option Addr} {n:Nat} {xs:List (List Int)} (h:Kd.C (Kd.slice 3 (Kd.int .i64)) w A n xs) (i:Int) (h0:0≤i) (h1:i<n): ∃ad A0 c0,A=some ad∧w.cell? (ad.add i.toNat)=some (.slice A0 (rd_L4 xs i).length c0)∧(rd_L4 xs i).length≤c0∧(Kd.int .i64).C w A0 (rd_L4 xs i).length (rd_L4 xs i):=by
 obtain⟨ad,c,e,_,hK,hc0⟩:=Kd.C_get h ([] :List Int) i h0 h1;have hc: ∀j u,c[j]? =some u→w.cell? (ad.add (i.toNat*1+j))=some u:=hc0;obtain⟨A0,c0,rfl,l0,g0⟩:=hK;exact⟨ad,A0,c0,e,by have hq:=hc 0 _ rfl;rwa [Nat.mul_one,Nat.add_zero] at hq,l0,g0⟩

/-! #### struct type 47 -/
structure S47 where
 f0:Int
 f1:(List Int)
def z47:S47:=⟨(0:Int),([] :List Int)⟩
def k47:Kd S47:=Kd.iso (Kd.pair (Kd.int .i64) (Kd.slice 3 (Kd.int .i64))) (fun x:S47=>(x.f0,x.f1))
theorem k47_open {w:World} {x:S47} {cs:List Value} (h:k47.K w x cs): ∃A1 c1,cs= [.int .i64 x.f0,.slice A1 x.f1.length c1] ∧x.f1.length≤c1∧(Kd.int .i64).C w A1 x.f1.length x.f1:=by
 obtain⟨_,_,rfl,rfl,⟨A1,c1,rfl,l1,g1⟩⟩:=h;exact⟨A1,c1,rfl,l1,g1⟩
theorem k47_openM {w:World} {base:Nat} {ok:Nat→Prop} {x:S47} {cs:List Value} (h:k47.M w base ok x cs): ∃v1,cs= [.int .i64 x.f0,v1] ∧(Kd.int .i64).R 3 w base ok v1 x.f1:=by
 obtain⟨_,_,rfl,rfl,⟨v1,rfl,g1⟩⟩:=h;exact⟨v1,rfl,g1⟩
theorem k47_mk (w:World) (x:S47) {A1:Option Addr} {c1:Nat} (l1:x.f1.length≤c1) (g1:(Kd.int .i64).C w A1 x.f1.length x.f1):k47.K w x [.int .i64 x.f0,.slice A1 x.f1.length c1] :=⟨[.int .i64 x.f0],[.slice A1 x.f1.length c1],rfl,rfl,⟨A1,c1,rfl,l1,g1⟩⟩
theorem k47_mkM (w:World) (base:Nat) (ok:Nat→Prop) (x:S47) {v1:Value} (g1:(Kd.int .i64).R 3 w base ok v1 x.f1):k47.M w base ok x [.int .i64 x.f0,v1] :=⟨[.int .i64 x.f0],[v1],rfl,rfl,⟨v1,rfl,g1⟩⟩
theorem k47_openF {W:World} {ok:Nat→Prop} {x:S47} {cs:List Value} (h:Kd.FK k47 W ok x cs): ∃A1 c1,cs= [.int .i64 x.f0,.slice A1 x.f1.length c1] ∧x.f1.length≤c1∧Kd.F (Kd.int .i64) W ok A1 x.f1.length x.f1:=by
 obtain⟨A1,c1,rfl,l1,_⟩:=k47_open (Kd.FK_now h);exact⟨A1,c1,rfl,l1,(fun W' hW=>by obtain⟨A1_,c1_,he,l1_,g1_⟩:=k47_open (h W' hW);injection (Option.some.inj (show some (Value.slice A1 x.f1.length c1)=some (Value.slice A1_ x.f1.length c1_) from congrArg (fun l=>l[1]?) he)) with ha_ _ _;rw[ha_];exact g1_)⟩
theorem k47_mkF (W:World) (ok:Nat→Prop) (x:S47) {A1:Option Addr} {c1:Nat} (l1:x.f1.length≤c1) (g1:Kd.F (Kd.int .i64) W ok A1 x.f1.length x.f1):Kd.FK k47 W ok x [.int .i64 x.f0,.slice A1 x.f1.length c1] :=fun W2 hW=>k47_mk W2 x l1 (g1 W2 hW)
def rd_T47 (xs:List S47) (i:Int):S47:=xs.getD i.toNat z47
theorem at_T47 {w:World} {A:Option Addr} {n:Nat} {xs:List S47} (h:Kd.C k47 w A n xs) (i:Int) (h0:0≤i) (h1:i<n): ∃ad A1 c1,A=some ad∧w.cell? (ad.add (i.toNat*2))=some (.int .i64 (rd_T47 xs i).f0)∧w.cell? ⟨(ad.add (i.toNat*2)).block,(ad.add (i.toNat*2)).off+1,none⟩=some (.slice A1 (rd_T47 xs i).f1.length c1)∧(rd_T47 xs i).f1.length≤c1∧(Kd.int .i64).C w A1 (rd_T47 xs i).f1.length (rd_T47 xs i).f1:=by
 obtain⟨ad,c,e,_,hK,hc0⟩:=Kd.C_get h z47 i h0 h1;have hc: ∀j u,c[j]? =some u→w.cell? (ad.add (i.toNat*2+j))=some u:=hc0;obtain⟨A1,c1,rfl,l1,g1⟩:=k47_open hK;exact⟨ad,A1,c1,e,hc 0 _ rfl,by rw[←add_field _ _ 1 (by omega)];exact hc 1 _ rfl,l1,g1⟩

def rd_L6 (xs:List (List S42)) (i:Int):(List S42):=xs.getD i.toNat ([] :List S42)
theorem at_L6 {w:World} {A:Option Addr} {n:Nat} {xs:List (List S42)} (h:Kd.C (Kd.slice 42 k42) w A n xs) (i:Int) (h0:0≤i) (h1:i<n): ∃ad A0 c0,A=some ad∧w.cell? (ad.add i.toNat)=some (.slice A0 (rd_L6 xs i).length c0)∧(rd_L6 xs i).length≤c0∧k42.C w A0 (rd_L6 xs i).length (rd_L6 xs i):=by
 obtain⟨ad,c,e,_,hK,hc0⟩:=Kd.C_get h ([] :List S42) i h0 h1;have hc: ∀j u,c[j]? =some u→w.cell? (ad.add (i.toNat*1+j))=some u:=hc0;obtain⟨A0,c0,rfl,l0,g0⟩:=hK;exact⟨ad,A0,c0,e,by have hq:=hc 0 _ rfl;rwa [Nat.mul_one,Nat.add_zero] at hq,l0,g0⟩

def rd_L7 (xs:List (List S47)) (i:Int):(List S47):=xs.getD i.toNat ([] :List S47)
theorem at_L7 {w:World} {A:Option Addr} {n:Nat} {xs:List (List S47)} (h:Kd.C (Kd.slice 47 k47) w A n xs) (i:Int) (h0:0≤i) (h1:i<n): ∃ad A0 c0,A=some ad∧w.cell? (ad.add i.toNat)=some (.slice A0 (rd_L7 xs i).length c0)∧(rd_L7 xs i).length≤c0∧k47.C w A0 (rd_L7 xs i).length (rd_L7 xs i):=by
 obtain⟨ad,c,e,_,hK,hc0⟩:=Kd.C_get h ([] :List S47) i h0 h1;have hc: ∀j u,c[j]? =some u→w.cell? (ad.add (i.toNat*1+j))=some u:=hc0;obtain⟨A0,c0,rfl,l0,g0⟩:=hK;exact⟨ad,A0,c0,e,by have hq:=hc 0 _ rfl;rwa [Nat.mul_one,Nat.add_zero] at hq,l0,g0⟩

/-! #### struct type 25 -/
structure S25 where
 f0:(List S42)
 f1:(List S47)
def z25:S25:=⟨([] :List S42),([] :List S47)⟩
def k25:Kd S25:=Kd.iso (Kd.pair (Kd.slice 42 k42) (Kd.slice 47 k47)) (fun x:S25=>(x.f0,x.f1))
theorem k25_open {w:World} {x:S25} {cs:List Value} (h:k25.K w x cs): ∃A0 c0 A1 c1,cs= [.slice A0 x.f0.length c0,.slice A1 x.f1.length c1] ∧x.f0.length≤c0∧k42.C w A0 x.f0.length x.f0∧x.f1.length≤c1∧k47.C w A1 x.f1.length x.f1:=by
 obtain⟨_,_,rfl,⟨A0,c0,rfl,l0,g0⟩,⟨A1,c1,rfl,l1,g1⟩⟩:=h;exact⟨A0,c0,A1,c1,rfl,l0,g0,l1,g1⟩
theorem k25_openM {w:World} {base:Nat} {ok:Nat→Prop} {x:S25} {cs:List Value} (h:k25.M w base ok x cs): ∃v0 v1,cs= [v0,v1] ∧k42.R 42 w base ok v0 x.f0∧k47.R 47 w base ok v1 x.f1:=by
 obtain⟨_,_,rfl,⟨v0,rfl,g0⟩,⟨v1,rfl,g1⟩⟩:=h;exact⟨v0,v1,rfl,g0,g1⟩
theorem k25_mk (w:World) (x:S25) {A0:Option Addr} {c0:Nat} (l0:x.f0.length≤c0) (g0:k42.C w A0 x.f0.length x.f0) {A1:Option Addr} {c1:Nat} (l1:x.f1.length≤c1) (g1:k47.C w A1 x.f1.length x.f1):k25.K w x [.slice A0 x.f0.length c0,.slice A1 x.f1.length c1] :=⟨[.slice A0 x.f0.length c0],[.slice A1 x.f1.length c1],rfl,⟨A0,c0,rfl,l0,g0⟩,⟨A1,c1,rfl,l1,g1⟩⟩
theorem k25_mkM (w:World) (base:Nat) (ok:Nat→Prop) (x:S25) {v0:Value} (g0:k42.R 42 w base ok v0 x.f0) {v1:Value} (g1:k47.R 47 w base ok v1 x.f1):k25.M w base ok x [v0,v1] :=⟨[v0],[v1],rfl,⟨v0,rfl,g0⟩,⟨v1,rfl,g1⟩⟩
theorem k25_openF {W:World} {ok:Nat→Prop} {x:S25} {cs:List Value} (h:Kd.FK k25 W ok x cs): ∃A0 c0 A1 c1,cs= [.slice A0 x.f0.length c0,.slice A1 x.f1.length c1] ∧x.f0.length≤c0∧Kd.F k42 W ok A0 x.f0.length x.f0∧x.f1.length≤c1∧Kd.F k47 W ok A1 x.f1.length x.f1:=by
 obtain⟨A0,c0,A1,c1,rfl,l0,_,l1,_⟩:=k25_open (Kd.FK_now h);exact⟨A0,c0,A1,c1,rfl,l0,(fun W' hW=>by obtain⟨A0_,c0_,A1_,c1_,he,l0_,g0_,l1_,g1_⟩:=k25_open (h W' hW);injection (Option.some.inj (show some (Value.slice A0 x.f0.length c0)=some (Value.slice A0_ x.f0.length c0_) from congrArg (fun l=>l[0]?) he)) with ha_ _ _;rw[ha_];exact g0_),l1,(fun W' hW=>by obtain⟨A0_,c0_,A1_,c1_,he,l0_,g0_,l1_,g1_⟩:=k25_open (h W' hW);injection (Option.some.inj (show some (Value.slice A1 x.f1.length c1)=some (Value.slice A1_ x.f1.length c1_) from congrArg (fun l=>l[1]?) he)) with ha_ _ _;rw[ha_];exact g1_)⟩
theorem k25_mkF (W:World) (ok:Nat→Prop) (x:S25) {A0:Option Addr} {c0:Nat} (l0:x.f0.length≤c0) (g0:Kd.F k42 W ok A0 x.f0.length x.f0) {A1:Option Addr} {c1:Nat} (l1:x.f1.length≤c1) (g1:Kd.F k47 W ok A1 x.f1.length x.f1):Kd.FK k25 W ok x [.slice A0 x.f0.length c0,.slice A1 x.f1.length c1] :=fun W2 hW=>k25_mk W2 x l0 (g0 W2 hW) l1 (g1 W2 hW)
def rd_T25 (xs:List S25) (i:Int):S25:=xs.getD i.toNat z25
theorem at_T25 {w:World} {A:Option Addr} {n:Nat} {xs:List S25} (h:Kd.C k25 w A n xs) (i:Int) (h0:0≤i) (h1:i<n): ∃ad A0 c0 A1 c1,A=some ad∧w.cell? (ad.add (i.toNat*2))=some (.slice A0 (rd_T25 xs i).f0.length c0)∧w.cell? ⟨(ad.add (i.toNat*2)).block,(ad.add (i.toNat*2)).off+1,none⟩=some (.slice A1 (rd_T25 xs i).f1.length c1)∧(rd_T25 xs i).f0.length≤c0∧k42.C w A0 (rd_T25 xs i).f0.length (rd_T25 xs i).f0∧(rd_T25 xs i).f1.length≤c1∧k47.C w A1 (rd_T25 xs i).f1.length (rd_T25 xs i).f1:=by
 obtain⟨ad,c,e,_,hK,hc0⟩:=Kd.C_get h z25 i h0 h1;have hc: ∀j u,c[j]? =some u→w.cell? (ad.add (i.toNat*2+j))=some u:=hc0;obtain⟨A0,c0,A1,c1,rfl,l0,g0,l1,g1⟩:=k25_open hK;exact⟨ad,A0,c0,A1,c1,e,hc 0 _ rfl,by rw[←add_field _ _ 1 (by omega)];exact hc 1 _ rfl,l0,g0,l1,g1⟩

end Go.Proofs.YtckpikfbhlhhjaaGreatDoor.PFnDatabaseFormat
namespace Go.Proofs.YtckpikfbhlhhjaaGreatDoor.PFnDatabaseFormat
open Go.RowKit Go.Proofs.YtckpikfbhlhhjaaGreatDoorW.PrintWords Go.Proofs.YtckpikfbhlhhjaaGreatDoorW.PrintLast Go.Proofs.YtckpikfbhlhhjaaGreatDoorW.PrintMore
attribute [local go_sem] max2_int min2_int max_two min_two max_three min_three max_four min_four
set_option linter.unusedVariables false
set_option linter.unusedSimpArgs false

theorem eqA42 (d:Nat) (w:World) (x0 y0:ByteArray) (x1 y1:Int) (x2 y2:Int):
  (Op.equalIn (d+2) 42 (.agg #[.string x0,.int .i64 x1,.int .i64 x2]) (.agg #[.string y0,.int .i64 y1,.int .i64 y2])).run Tryz.prog w= .ok (x0.toList==y0.toList&&(x1==y1&&(x2==y2))) w:=by
 refine eqA_of Tryz.underlying42 (by kernel_rfl) ?_;refine eqf_cons (by rfl) (by go_simp;rfl) (by go_simp;rfl) (by go_simp) ?_;refine eqf_cons (by rfl) (by go_simp;rfl) (by go_simp;rfl) (by go_simp) ?_;exact eqf_last (by rfl) (by go_simp;rfl) (by go_simp;rfl) (by go_simp)
end Go.Proofs.YtckpikfbhlhhjaaGreatDoor.PFnDatabaseFormat
