import Derived.Test.YtapilmimgiaglaaGreatDoorProg
import Derived.Below
import Derived.Deep.Draws
import Derived.Deep.AppendLies
import Derived.Maps.AppendAt
import Derived.OwnWalk
import Derived.Laws.BytesArg
import Derived.Laws.MakeOwn
import Derived.Laws.OwnMore
import Derived.Deep.OwnRows
import Derived.Tactics
import Derived.Lib.ConvBytes
import Derived.Laws.Slices
import Derived.WalkKit
import Derived.KernelRfl
import Derived.RowKit3
import Derived.Deep.LoopGhost
import Derived.Deep.QuietTactic
import Derived.BigQuiet
import Derived.WideLaws
import Derived.Deep.DeepCutAuto
import Derived.Deep.CutBlock
import Derived.Deep.RegionHeld3
import Derived.Laws.Rows
import Derived.Lib.AppendStr
import Derived.ArgAppend
import Derived.Laws.IdiomCopy
import Derived.OrdersHeld
import Derived.Laws.BitsLemmas
import Derived.RowKit
import Derived.StillTailTactics
import Derived.Lib.Bytealg
import Derived.Room.Shelf.Join48
import Derived.Lib.AppendIntMem
import Derived.Lib.OthersKept
import Derived.Test.YtapilmimgiaglaaGreatDoorKFnExactParcelIx3
set_option maxHeartbeats 8000000
set_option linter.unusedSimpArgs false
set_option linter.unusedVariables false
namespace Go.Proofs.YtapilmimgiaglaaGreatDoor.QX
open Go.RowKit Go.Proofs.bB.eH Go.Proofs.bB.PrintLast Go.Proofs.bB.PrintMore
attribute [local go_sem] oU o5 oZ o8 oW o7 oV o6
def akg:Option Int→Value
 | none=>.nilIface
 | some c=>.iface 0 (.int .i64 c)
theorem qF:akg none=.nilIface:=rfl
theorem qG (c:Int):akg (some c)=.iface 0 (.int .i64 c):=rfl
theorem info5:(Tryz.prog.info? 5).map (fun i=>(i.zero,i.size,i.bytes))=some (some (.int .u8 0),1,1):=by kernel_rfl
theorem zC:(Tryz.prog.info? 9).map (fun i=>(i.zero,i.size,i.bytes))=some (some (.string ⟨#[]⟩),1,16):=by kernel_rfl
theorem axQ:(Tryz.prog.info? 45).map (fun i=>(i.zero,i.size,i.bytes))=some (some (.agg #[(.int .i64 0),(.string ⟨#[]⟩),(.string ⟨#[]⟩),(.int .i64 0),(.slice none 0 0),(.slice none 0 0)]),6,96):=by kernel_rfl
theorem V7:(Tryz.prog.info? 62).map (fun i=>(i.zero,i.size,i.bytes))=some (some (.agg #[(.string ⟨#[]⟩),(.slice none 0 0)]),2,40):=by kernel_rfl
theorem am0:(Tryz.prog.info? 71).map (fun i=>(i.zero,i.size,i.bytes))=some (some (.agg #[(.int .i64 0),(.int .i64 0),(.slice none 0 0)]),3,40):=by kernel_rfl
theorem am1:(Tryz.prog.info? 73).map (fun i=>(i.zero,i.size,i.bytes))=some (some (.agg #[(.int .i64 0),(.slice none 0 0)]),2,32):=by kernel_rfl
theorem aat:(Tryz.prog.info? 95).map (fun i=>(i.zero,i.size,i.bytes))=some (some (.agg #[(.int .i64 0),(.string ⟨#[]⟩),(.int .i64 0),(.int .i64 0),(.string ⟨#[]⟩)]),5,56):=by kernel_rfl
theorem am2:(Tryz.prog.info? 97).map (fun i=>(i.zero,i.size,i.bytes))=some (some (.agg #[(.slice none 0 0)]),1,24):=by kernel_rfl
structure mJ where
 f0:Int
 f1:ByteArray
 f2:Int
 f3:Int
 f4:ByteArray
def z127:mJ:=⟨(0:Int),(⟨#[]⟩:ByteArray),(0:Int),(0:Int),(⟨#[]⟩:ByteArray)⟩
def DN:Kd mJ:=Kd.Am (Kd.pair (Kd.int .i64) (Kd.pair Kd.string (Kd.pair (Kd.int .i64) (Kd.pair (Kd.int .i64) Kd.string)))) (fun x:mJ=>(x.f0,x.f1,x.f2,x.f3,x.f4))
theorem ax1 {w:World}{x:mJ}{cs:List Value}(h:DN.K w x cs):cs=[.int .i64 x.f0,.string x.f1,.int .i64 x.f2,.int .i64 x.f3,.string x.f4]:=by
 obtain ⟨_,_,rfl,rfl,⟨_,_,rfl,rfl,⟨_,_,rfl,rfl,⟨_,_,rfl,rfl,rfl⟩⟩⟩⟩:=h
 exact rfl
def nH (xs:List mJ)(i:Int):mJ:=xs.getD i.toNat z127
theorem ajh {w:World}{A:Option Addr}{n:Nat}{xs:List mJ}(h:Kd.C DN w A n xs)(i:Int)(h0:0≤i)(h1:i<n):∃ ad ,A=some ad∧w.cell? (ad.add (i.toNat * 5))=some (.int .i64 (nH xs i).f0)∧w.cell? ⟨(ad.add (i.toNat * 5)).block,(ad.add (i.toNat * 5)).off+1,none⟩=some (.string (nH xs i).f1)∧w.cell? ⟨(ad.add (i.toNat * 5)).block,(ad.add (i.toNat * 5)).off+2,none⟩=some (.int .i64 (nH xs i).f2)∧w.cell? ⟨(ad.add (i.toNat * 5)).block,(ad.add (i.toNat * 5)).off+3,none⟩=some (.int .i64 (nH xs i).f3)∧w.cell? ⟨(ad.add (i.toNat * 5)).block,(ad.add (i.toNat * 5)).off+4,none⟩=some (.string (nH xs i).f4):=by
 obtain ⟨ad,c,e,_,hK,hc0⟩:=Kd.Et h z127 i h0 h1;have hc:∀ j u,c[j]? = some u→w.cell? (ad.add (i.toNat * 5+j))=some u:=hc0;obtain rfl:=ax1 hK
 exact ⟨ad,e,hc 0 _ rfl,by rw [← ol _ _ 1 (by omega)];exact hc 1 _ rfl,by rw [← ol _ _ 2 (by omega)];exact hc 2 _ rfl,by rw [← ol _ _ 3 (by omega)];exact hc 3 _ rfl,by rw [← ol _ _ 4 (by omega)];exact hc 4 _ rfl⟩
structure mK where
 f0:Int
 f1:ByteArray
 f2:ByteArray
 f3:Int
 f4:(List ByteArray)
 f5:(List mJ)
def z56:mK:=⟨(0:Int),(⟨#[]⟩:ByteArray),(⟨#[]⟩:ByteArray),(0:Int),([]:List ByteArray),([]:List mJ)⟩
def DR:Kd mK:=Kd.Am (Kd.pair (Kd.int .i64) (Kd.pair Kd.string (Kd.pair Kd.string (Kd.pair (Kd.int .i64) (Kd.pair (Kd.slice 9 Kd.string) (Kd.slice 127 DN)))))) (fun x:mK=>(x.f0,x.f1,x.f2,x.f3,x.f4,x.f5))
theorem ax4 {w:World}{x:mK}{cs:List Value}(h:DR.K w x cs):∃ A4 c4 A5 c5,cs=[.int .i64 x.f0,.string x.f1,.string x.f2,.int .i64 x.f3,.slice A4 x.f4.length c4,.slice A5 x.f5.length c5]∧x.f4.length≤c4∧Kd.string.C w A4 x.f4.length x.f4∧x.f5.length≤c5∧DN.C w A5 x.f5.length x.f5:=by
 obtain ⟨_,_,rfl,rfl,⟨_,_,rfl,rfl,⟨_,_,rfl,rfl,⟨_,_,rfl,rfl,⟨_,_,rfl,⟨A4,c4,rfl,l4,g4⟩,⟨A5,c5,rfl,l5,g5⟩⟩⟩⟩⟩⟩:=h
 exact ⟨A4,c4,A5,c5,rfl,l4,g4,l5,g5⟩
def jW (xs:List mK)(i:Int):mK:=xs.getD i.toNat z56
theorem aji {w:World}{A:Option Addr}{n:Nat}{xs:List mK}(h:Kd.C DR w A n xs)(i:Int)(h0:0≤i)(h1:i<n):∃ ad A4 c4 A5 c5,A=some ad∧w.cell? (ad.add (i.toNat * 6))=some (.int .i64 (jW xs i).f0)∧w.cell? ⟨(ad.add (i.toNat * 6)).block,(ad.add (i.toNat * 6)).off+1,none⟩=some (.string (jW xs i).f1)∧w.cell? ⟨(ad.add (i.toNat * 6)).block,(ad.add (i.toNat * 6)).off+2,none⟩=some (.string (jW xs i).f2)∧w.cell? ⟨(ad.add (i.toNat * 6)).block,(ad.add (i.toNat * 6)).off+3,none⟩=some (.int .i64 (jW xs i).f3)∧w.cell? ⟨(ad.add (i.toNat * 6)).block,(ad.add (i.toNat * 6)).off+4,none⟩=some (.slice A4 (jW xs i).f4.length c4)∧w.cell? ⟨(ad.add (i.toNat * 6)).block,(ad.add (i.toNat * 6)).off+5,none⟩=some (.slice A5 (jW xs i).f5.length c5)∧(jW xs i).f4.length≤c4∧Kd.string.C w A4 (jW xs i).f4.length (jW xs i).f4∧(jW xs i).f5.length≤c5∧DN.C w A5 (jW xs i).f5.length (jW xs i).f5:=by
 obtain ⟨ad,c,e,_,hK,hc0⟩:=Kd.Et h z56 i h0 h1;have hc:∀ j u,c[j]? = some u→w.cell? (ad.add (i.toNat * 6+j))=some u:=hc0;obtain ⟨A4,c4,A5,c5,rfl,l4,g4,l5,g5⟩:=ax4 hK
 exact ⟨ad,A4,c4,A5,c5,e,hc 0 _ rfl,by rw [← ol _ _ 1 (by omega)];exact hc 1 _ rfl,by rw [← ol _ _ 2 (by omega)];exact hc 2 _ rfl,by rw [← ol _ _ 3 (by omega)];exact hc 3 _ rfl,by rw [← ol _ _ 4 (by omega)];exact hc 4 _ rfl,by rw [← ol _ _ 5 (by omega)];exact hc 5 _ rfl,l4,g4,l5,g5⟩
structure aZ where
 f0:Int
 f1:ByteArray
 f2:Int
 f3:Int
 f4:ByteArray
def Eh:aZ:=⟨(0:Int),(⟨#[]⟩:ByteArray),(0:Int),(0:Int),(⟨#[]⟩:ByteArray)⟩
def iA:Kd aZ:=Kd.Am (Kd.pair (Kd.int .i64) (Kd.pair Kd.string (Kd.pair (Kd.int .i64) (Kd.pair (Kd.int .i64) Kd.string)))) (fun x:aZ=>(x.f0,x.f1,x.f2,x.f3,x.f4))
theorem ayc:Kd.Heap iA:=Kd.awg _ (Kd.ZP (Kd.aeg .i64) (Kd.ZP Kd.akH (Kd.ZP (Kd.aeg .i64) (Kd.ZP (Kd.aeg .i64) Kd.akH))))
theorem ayd {w:World}{x:aZ}{cs:List Value}(h:iA.K w x cs):cs=[.int .i64 x.f0,.string x.f1,.int .i64 x.f2,.int .i64 x.f3,.string x.f4]:=by
 obtain ⟨_,_,rfl,rfl,⟨_,_,rfl,rfl,⟨_,_,rfl,rfl,⟨_,_,rfl,rfl,rfl⟩⟩⟩⟩:=h
 exact rfl
theorem aau {w:World}{base:Nat}{ok:Nat→Prop}{x:aZ}{cs:List Value}(h:iA.M w base ok x cs):cs=[.int .i64 x.f0,.string x.f1,.int .i64 x.f2,.int .i64 x.f3,.string x.f4]:=by
 obtain ⟨_,_,rfl,rfl,⟨_,_,rfl,rfl,⟨_,_,rfl,rfl,⟨_,_,rfl,rfl,rfl⟩⟩⟩⟩:=h
 exact rfl
theorem Lp (w:World)(base:Nat)(ok:Nat→Prop)(x:aZ)  : iA.M w base ok x [.int .i64 x.f0,.string x.f1,.int .i64 x.f2,.int .i64 x.f3,.string x.f4]:=⟨[.int .i64 x.f0],[.string x.f1,.int .i64 x.f2,.int .i64 x.f3,.string x.f4],rfl,rfl,⟨[.string x.f1],[.int .i64 x.f2,.int .i64 x.f3,.string x.f4],rfl,rfl,⟨[.int .i64 x.f2],[.int .i64 x.f3,.string x.f4],rfl,rfl,⟨[.int .i64 x.f3],[.string x.f4],rfl,rfl,rfl⟩⟩⟩⟩
def ai (xs:List aZ)(i:Int):aZ:=xs.getD i.toNat Eh
theorem uA {w:World}{A:Option Addr}{n:Nat}{xs:List aZ}(h:Kd.C iA w A n xs)(i:Int)(h0:0≤i)(h1:i<n):∃ ad ,A=some ad∧w.cell? (ad.add (i.toNat * 5))=some (.int .i64 (ai xs i).f0)∧w.cell? ⟨(ad.add (i.toNat * 5)).block,(ad.add (i.toNat * 5)).off+1,none⟩=some (.string (ai xs i).f1)∧w.cell? ⟨(ad.add (i.toNat * 5)).block,(ad.add (i.toNat * 5)).off+2,none⟩=some (.int .i64 (ai xs i).f2)∧w.cell? ⟨(ad.add (i.toNat * 5)).block,(ad.add (i.toNat * 5)).off+3,none⟩=some (.int .i64 (ai xs i).f3)∧w.cell? ⟨(ad.add (i.toNat * 5)).block,(ad.add (i.toNat * 5)).off+4,none⟩=some (.string (ai xs i).f4):=by
 obtain ⟨ad,c,e,_,hK,hc0⟩:=Kd.Et h Eh i h0 h1;have hc:∀ j u,c[j]? = some u→w.cell? (ad.add (i.toNat * 5+j))=some u:=hc0;obtain rfl:=ayd hK
 exact ⟨ad,e,hc 0 _ rfl,by rw [← ol _ _ 1 (by omega)];exact hc 1 _ rfl,by rw [← ol _ _ 2 (by omega)];exact hc 2 _ rfl,by rw [← ol _ _ 3 (by omega)];exact hc 3 _ rfl,by rw [← ol _ _ 4 (by omega)];exact hc 4 _ rfl⟩
structure eT where
 f0:Int
 f1:ByteArray
 f2:ByteArray
 f3:Int
 f4:(List ByteArray)
 f5:(List aZ)
def z45:eT:=⟨(0:Int),(⟨#[]⟩:ByteArray),(⟨#[]⟩:ByteArray),(0:Int),([]:List ByteArray),([]:List aZ)⟩
def jG:Kd eT:=Kd.Am (Kd.pair (Kd.int .i64) (Kd.pair Kd.string (Kd.pair Kd.string (Kd.pair (Kd.int .i64) (Kd.pair (Kd.slice 9 Kd.string) (Kd.slice 95 iA)))))) (fun x:eT=>(x.f0,x.f1,x.f2,x.f3,x.f4,x.f5))
theorem ax3 {w:World}{x:eT}{cs:List Value}(h:jG.K w x cs):∃ A4 c4 A5 c5,cs=[.int .i64 x.f0,.string x.f1,.string x.f2,.int .i64 x.f3,.slice A4 x.f4.length c4,.slice A5 x.f5.length c5]∧x.f4.length≤c4∧Kd.string.C w A4 x.f4.length x.f4∧x.f5.length≤c5∧iA.C w A5 x.f5.length x.f5:=by
 obtain ⟨_,_,rfl,rfl,⟨_,_,rfl,rfl,⟨_,_,rfl,rfl,⟨_,_,rfl,rfl,⟨_,_,rfl,⟨A4,c4,rfl,l4,g4⟩,⟨A5,c5,rfl,l5,g5⟩⟩⟩⟩⟩⟩:=h
 exact ⟨A4,c4,A5,c5,rfl,l4,g4,l5,g5⟩
theorem afN {w:World}{base:Nat}{ok:Nat→Prop}{x:eT}{cs:List Value}(h:jG.M w base ok x cs):∃ v4 v5,cs=[.int .i64 x.f0,.string x.f1,.string x.f2,.int .i64 x.f3,v4,v5]∧Kd.string.R 9 w base ok v4 x.f4∧iA.R 95 w base ok v5 x.f5:=by
 obtain ⟨_,_,rfl,rfl,⟨_,_,rfl,rfl,⟨_,_,rfl,rfl,⟨_,_,rfl,rfl,⟨_,_,rfl,⟨v4,rfl,g4⟩,⟨v5,rfl,g5⟩⟩⟩⟩⟩⟩:=h
 exact ⟨v4,v5,rfl,g4,g5⟩
theorem afM (w:World)(base:Nat)(ok:Nat→Prop)(x:eT){v4:Value}(g4:Kd.string.R 9 w base ok v4 x.f4){v5:Value}(g5:iA.R 95 w base ok v5 x.f5):jG.M w base ok x [.int .i64 x.f0,.string x.f1,.string x.f2,.int .i64 x.f3,v4,v5]:=⟨[.int .i64 x.f0],[.string x.f1,.string x.f2,.int .i64 x.f3,v4,v5],rfl,rfl,⟨[.string x.f1],[.string x.f2,.int .i64 x.f3,v4,v5],rfl,rfl,⟨[.string x.f2],[.int .i64 x.f3,v4,v5],rfl,rfl,⟨[.int .i64 x.f3],[v4,v5],rfl,rfl,⟨[v4],[v5],rfl,⟨v4,rfl,g4⟩,⟨v5,rfl,g5⟩⟩⟩⟩⟩⟩
def aG (xs:List eT)(i:Int):eT:=xs.getD i.toNat z45
theorem EL {w:World}{A:Option Addr}{n:Nat}{xs:List eT}(h:Kd.C jG w A n xs)(i:Int)(h0:0≤i)(h1:i<n):∃ ad A4 c4 A5 c5,A=some ad∧w.cell? (ad.add (i.toNat * 6))=some (.int .i64 (aG xs i).f0)∧w.cell? ⟨(ad.add (i.toNat * 6)).block,(ad.add (i.toNat * 6)).off+1,none⟩=some (.string (aG xs i).f1)∧w.cell? ⟨(ad.add (i.toNat * 6)).block,(ad.add (i.toNat * 6)).off+2,none⟩=some (.string (aG xs i).f2)∧w.cell? ⟨(ad.add (i.toNat * 6)).block,(ad.add (i.toNat * 6)).off+3,none⟩=some (.int .i64 (aG xs i).f3)∧w.cell? ⟨(ad.add (i.toNat * 6)).block,(ad.add (i.toNat * 6)).off+4,none⟩=some (.slice A4 (aG xs i).f4.length c4)∧w.cell? ⟨(ad.add (i.toNat * 6)).block,(ad.add (i.toNat * 6)).off+5,none⟩=some (.slice A5 (aG xs i).f5.length c5)∧(aG xs i).f4.length≤c4∧Kd.string.C w A4 (aG xs i).f4.length (aG xs i).f4∧(aG xs i).f5.length≤c5∧iA.C w A5 (aG xs i).f5.length (aG xs i).f5:=by
 obtain ⟨ad,c,e,_,hK,hc0⟩:=Kd.Et h z45 i h0 h1;have hc:∀ j u,c[j]? = some u→w.cell? (ad.add (i.toNat * 6+j))=some u:=hc0;obtain ⟨A4,c4,A5,c5,rfl,l4,g4,l5,g5⟩:=ax3 hK
 exact ⟨ad,A4,c4,A5,c5,e,hc 0 _ rfl,by rw [← ol _ _ 1 (by omega)];exact hc 1 _ rfl,by rw [← ol _ _ 2 (by omega)];exact hc 2 _ rfl,by rw [← ol _ _ 3 (by omega)];exact hc 3 _ rfl,by rw [← ol _ _ 4 (by omega)];exact hc 4 _ rfl,by rw [← ol _ _ 5 (by omega)];exact hc 5 _ rfl,l4,g4,l5,g5⟩
structure bN where
 f0:(List ByteArray)
def z97:bN:=⟨([]:List ByteArray)⟩
def jO:Kd bN:=Kd.Am (Kd.slice 9 Kd.string) (fun x:bN=>x.f0)
theorem aye {w:World}{x:bN}{cs:List Value}(h:jO.K w x cs):∃ A0 c0,cs=[.slice A0 x.f0.length c0]∧x.f0.length≤c0∧Kd.string.C w A0 x.f0.length x.f0:=by
 obtain ⟨A0,c0,rfl,l0,g0⟩:=h
 exact ⟨A0,c0,rfl,l0,g0⟩
theorem ayf {w:World}{base:Nat}{ok:Nat→Prop}{x:bN}{cs:List Value}(h:jO.M w base ok x cs):∃ v0,cs=[v0]∧Kd.string.R 9 w base ok v0 x.f0:=by
 obtain ⟨v0,rfl,g0⟩:=h
 exact ⟨v0,rfl,g0⟩
theorem afP (w:World)(base:Nat)(ok:Nat→Prop)(x:bN){v0:Value}(g0:Kd.string.R 9 w base ok v0 x.f0):jO.M w base ok x [v0]:=⟨v0,rfl,g0⟩
def aK (xs:List bN)(i:Int):bN:=xs.getD i.toNat z97
theorem lN {w:World}{A:Option Addr}{n:Nat}{xs:List bN}(h:Kd.C jO w A n xs)(i:Int)(h0:0≤i)(h1:i<n):∃ ad A0 c0,A=some ad∧w.cell? (ad.add i.toNat)=some (.slice A0 (aK xs i).f0.length c0)∧(aK xs i).f0.length≤c0∧Kd.string.C w A0 (aK xs i).f0.length (aK xs i).f0:=by
 obtain ⟨ad,c,e,_,hK,hc0⟩:=Kd.Et h z97 i h0 h1;have hc:∀ j u,c[j]? = some u→w.cell? (ad.add (i.toNat * 1+j))=some u:=hc0;obtain ⟨A0,c0,rfl,l0,g0⟩:=aye hK
 exact ⟨ad,A0,c0,e,by have hq:=hc 0 _ rfl;rwa [Nat.mul_one,Nat.add_zero] at hq,l0,g0⟩
structure bn where
 f0:ByteArray
 f1:(List bN)
def z62:bn:=⟨(⟨#[]⟩:ByteArray),([]:List bN)⟩
def kP:Kd bn:=Kd.Am (Kd.pair Kd.string (Kd.slice 97 jO)) (fun x:bn=>(x.f0,x.f1))
theorem afO {w:World}{x:bn}{cs:List Value}(h:kP.K w x cs):∃ A1 c1,cs=[.string x.f0,.slice A1 x.f1.length c1]∧x.f1.length≤c1∧jO.C w A1 x.f1.length x.f1:=by
 obtain ⟨_,_,rfl,rfl,⟨A1,c1,rfl,l1,g1⟩⟩:=h
 exact ⟨A1,c1,rfl,l1,g1⟩
theorem am5 (w:World)(base:Nat)(ok:Nat→Prop)(x:bn){v1:Value}(g1:jO.R 97 w base ok v1 x.f1):kP.M w base ok x [.string x.f0,v1]:=⟨[.string x.f0],[v1],rfl,rfl,⟨v1,rfl,g1⟩⟩
theorem ax5 {W:World}{ok:Nat→Prop}{x:bn}{cs:List Value}(h:Kd.FK kP W ok x cs):∃ A1 c1,cs=[.string x.f0,.slice A1 x.f1.length c1]∧x.f1.length≤c1∧Kd.F jO W ok A1 x.f1.length x.f1:=by
 obtain ⟨A1,c1,rfl,l1,_⟩:=afO (Kd.ahB h)
 exact ⟨A1,c1,rfl,l1,(fun W' hW=>by obtain ⟨A1_,c1_,he,l1_,g1_⟩:=afO (h W' hW);injection (Option.some.inj (show some (Value.slice A1 x.f1.length c1)=some (Value.slice A1_ x.f1.length c1_) from congrArg (fun l=>l[1]?) he)) with ha_ _ _;rw [ha_];exact g1_)⟩
def av (xs:List bn)(i:Int):bn:=xs.getD i.toNat z62
theorem kN {w:World}{A:Option Addr}{n:Nat}{xs:List bn}(h:Kd.C kP w A n xs)(i:Int)(h0:0≤i)(h1:i<n):∃ ad A1 c1,A=some ad∧w.cell? (ad.add (i.toNat * 2))=some (.string (av xs i).f0)∧w.cell? ⟨(ad.add (i.toNat * 2)).block,(ad.add (i.toNat * 2)).off+1,none⟩=some (.slice A1 (av xs i).f1.length c1)∧(av xs i).f1.length≤c1∧jO.C w A1 (av xs i).f1.length (av xs i).f1:=by
 obtain ⟨ad,c,e,_,hK,hc0⟩:=Kd.Et h z62 i h0 h1;have hc:∀ j u,c[j]? = some u→w.cell? (ad.add (i.toNat * 2+j))=some u:=hc0;obtain ⟨A1,c1,rfl,l1,g1⟩:=afO hK
 exact ⟨ad,A1,c1,e,hc 0 _ rfl,by rw [← ol _ _ 1 (by omega)];exact hc 1 _ rfl,l1,g1⟩
structure aH where
 f0:ByteArray
 f1:Int
 f2:Int
 f3:ByteArray
def aoU:aH:=⟨(⟨#[]⟩:ByteArray),(0:Int),(0:Int),(⟨#[]⟩:ByteArray)⟩
def iR:Kd aH:=Kd.Am (Kd.pair Kd.string (Kd.pair (Kd.int .i64) (Kd.pair (Kd.int .i64) Kd.string))) (fun x:aH=>(x.f0,x.f1,x.f2,x.f3))
theorem ax0 {w:World}{x:aH}{cs:List Value}(h:iR.K w x cs):cs=[.string x.f0,.int .i64 x.f1,.int .i64 x.f2,.string x.f3]:=by
 obtain ⟨_,_,rfl,rfl,⟨_,_,rfl,rfl,⟨_,_,rfl,rfl,rfl⟩⟩⟩:=h
 exact rfl
theorem nE (w:World)(base:Nat)(ok:Nat→Prop)(x:aH)  : iR.M w base ok x [.string x.f0,.int .i64 x.f1,.int .i64 x.f2,.string x.f3]:=⟨[.string x.f0],[.int .i64 x.f1,.int .i64 x.f2,.string x.f3],rfl,rfl,⟨[.int .i64 x.f1],[.int .i64 x.f2,.string x.f3],rfl,rfl,⟨[.int .i64 x.f2],[.string x.f3],rfl,rfl,rfl⟩⟩⟩
def dK (xs:List aH)(i:Int):aH:=xs.getD i.toNat aoU
theorem zT {w:World}{A:Option Addr}{n:Nat}{xs:List aH}(h:Kd.C iR w A n xs)(i:Int)(h0:0≤i)(h1:i<n):∃ ad ,A=some ad∧w.cell? (ad.add (i.toNat * 4))=some (.string (dK xs i).f0)∧w.cell? ⟨(ad.add (i.toNat * 4)).block,(ad.add (i.toNat * 4)).off+1,none⟩=some (.int .i64 (dK xs i).f1)∧w.cell? ⟨(ad.add (i.toNat * 4)).block,(ad.add (i.toNat * 4)).off+2,none⟩=some (.int .i64 (dK xs i).f2)∧w.cell? ⟨(ad.add (i.toNat * 4)).block,(ad.add (i.toNat * 4)).off+3,none⟩=some (.string (dK xs i).f3):=by
 obtain ⟨ad,c,e,_,hK,hc0⟩:=Kd.Et h aoU i h0 h1;have hc:∀ j u,c[j]? = some u→w.cell? (ad.add (i.toNat * 4+j))=some u:=hc0;obtain rfl:=ax0 hK
 exact ⟨ad,e,hc 0 _ rfl,by rw [← ol _ _ 1 (by omega)];exact hc 1 _ rfl,by rw [← ol _ _ 2 (by omega)];exact hc 2 _ rfl,by rw [← ol _ _ 3 (by omega)];exact hc 3 _ rfl⟩
structure iG where
 f0:Int
 f1:(List bn)
def z73:iG:=⟨(0:Int),([]:List bn)⟩
def oN:Kd iG:=Kd.Am (Kd.pair (Kd.int .i64) (Kd.slice 62 kP)) (fun x:iG=>(x.f0,x.f1))
theorem ayb {w:World}{x:iG}{cs:List Value}(h:oN.K w x cs):∃ A1 c1,cs=[.int .i64 x.f0,.slice A1 x.f1.length c1]∧x.f1.length≤c1∧kP.C w A1 x.f1.length x.f1:=by
 obtain ⟨_,_,rfl,rfl,⟨A1,c1,rfl,l1,g1⟩⟩:=h
 exact ⟨A1,c1,rfl,l1,g1⟩
theorem ax9 (w:World)(x:iG){A1:Option Addr}{c1:Nat}(l1:x.f1.length≤c1)(g1:kP.C w A1 x.f1.length x.f1):oN.K w x [.int .i64 x.f0,.slice A1 x.f1.length c1]:=⟨[.int .i64 x.f0],[.slice A1 x.f1.length c1],rfl,rfl,⟨A1,c1,rfl,l1,g1⟩⟩
theorem aya (w:World)(base:Nat)(ok:Nat→Prop)(x:iG){v1:Value}(g1:kP.R 62 w base ok v1 x.f1):oN.M w base ok x [.int .i64 x.f0,v1]:=⟨[.int .i64 x.f0],[v1],rfl,rfl,⟨v1,rfl,g1⟩⟩
def fJ (xs:List iG)(i:Int):iG:=xs.getD i.toNat z73
theorem EM {w:World}{A:Option Addr}{n:Nat}{xs:List iG}(h:Kd.C oN w A n xs)(i:Int)(h0:0≤i)(h1:i<n):∃ ad A1 c1,A=some ad∧w.cell? (ad.add (i.toNat * 2))=some (.int .i64 (fJ xs i).f0)∧w.cell? ⟨(ad.add (i.toNat * 2)).block,(ad.add (i.toNat * 2)).off+1,none⟩=some (.slice A1 (fJ xs i).f1.length c1)∧(fJ xs i).f1.length≤c1∧kP.C w A1 (fJ xs i).f1.length (fJ xs i).f1:=by
 obtain ⟨ad,c,e,_,hK,hc0⟩:=Kd.Et h z73 i h0 h1;have hc:∀ j u,c[j]? = some u→w.cell? (ad.add (i.toNat * 2+j))=some u:=hc0;obtain ⟨A1,c1,rfl,l1,g1⟩:=ayb hK
 exact ⟨ad,A1,c1,e,hc 0 _ rfl,by rw [← ol _ _ 1 (by omega)];exact hc 1 _ rfl,l1,g1⟩
structure dR where
 f0:Int
 f1:Int
 f2:(List iG)
def z71:dR:=⟨(0:Int),(0:Int),([]:List iG)⟩
def pX:Kd dR:=Kd.Am (Kd.pair (Kd.int .i64) (Kd.pair (Kd.int .i64) (Kd.slice 73 oN))) (fun x:dR=>(x.f0,x.f1,x.f2))
theorem ax8 {w:World}{x:dR}{cs:List Value}(h:pX.K w x cs):∃ A2 c2,cs=[.int .i64 x.f0,.int .i64 x.f1,.slice A2 x.f2.length c2]∧x.f2.length≤c2∧oN.C w A2 x.f2.length x.f2:=by
 obtain ⟨_,_,rfl,rfl,⟨_,_,rfl,rfl,⟨A2,c2,rfl,l2,g2⟩⟩⟩:=h
 exact ⟨A2,c2,rfl,l2,g2⟩
theorem ax6 (w:World)(x:dR){A2:Option Addr}{c2:Nat}(l2:x.f2.length≤c2)(g2:oN.C w A2 x.f2.length x.f2):pX.K w x [.int .i64 x.f0,.int .i64 x.f1,.slice A2 x.f2.length c2]:=⟨[.int .i64 x.f0],[.int .i64 x.f1,.slice A2 x.f2.length c2],rfl,rfl,⟨[.int .i64 x.f1],[.slice A2 x.f2.length c2],rfl,rfl,⟨A2,c2,rfl,l2,g2⟩⟩⟩
theorem ax7 (w:World)(base:Nat)(ok:Nat→Prop)(x:dR){v2:Value}(g2:oN.R 73 w base ok v2 x.f2):pX.M w base ok x [.int .i64 x.f0,.int .i64 x.f1,v2]:=⟨[.int .i64 x.f0],[.int .i64 x.f1,v2],rfl,rfl,⟨[.int .i64 x.f1],[v2],rfl,rfl,⟨v2,rfl,g2⟩⟩⟩
def bf (xs:List dR)(i:Int):dR:=xs.getD i.toNat z71
theorem zU {w:World}{A:Option Addr}{n:Nat}{xs:List dR}(h:Kd.C pX w A n xs)(i:Int)(h0:0≤i)(h1:i<n):∃ ad A2 c2,A=some ad∧w.cell? (ad.add (i.toNat * 3))=some (.int .i64 (bf xs i).f0)∧w.cell? ⟨(ad.add (i.toNat * 3)).block,(ad.add (i.toNat * 3)).off+1,none⟩=some (.int .i64 (bf xs i).f1)∧w.cell? ⟨(ad.add (i.toNat * 3)).block,(ad.add (i.toNat * 3)).off+2,none⟩=some (.slice A2 (bf xs i).f2.length c2)∧(bf xs i).f2.length≤c2∧oN.C w A2 (bf xs i).f2.length (bf xs i).f2:=by
 obtain ⟨ad,c,e,_,hK,hc0⟩:=Kd.Et h z71 i h0 h1;have hc:∀ j u,c[j]? = some u→w.cell? (ad.add (i.toNat * 3+j))=some u:=hc0;obtain ⟨A2,c2,rfl,l2,g2⟩:=ax8 hK
 exact ⟨ad,A2,c2,e,hc 0 _ rfl,by rw [← ol _ _ 1 (by omega)];exact hc 1 _ rfl,by rw [← ol _ _ 2 (by omega)];exact hc 2 _ rfl,l2,g2⟩
structure Yu where
 f0:ByteArray
 f1:ByteArray
 f2:Int
 f3:(List mK)
def k24:Kd Yu:=Kd.Am (Kd.pair Kd.string (Kd.pair Kd.string (Kd.pair (Kd.int .i64) (Kd.slice 56 DR)))) (fun x:Yu=>(x.f0,x.f1,x.f2,x.f3))
theorem ax2 {w:World}{x:Yu}{cs:List Value}(h:k24.K w x cs):∃ A3 c3,cs=[.string x.f0,.string x.f1,.int .i64 x.f2,.slice A3 x.f3.length c3]∧x.f3.length≤c3∧DR.C w A3 x.f3.length x.f3:=by
 obtain ⟨_,_,rfl,rfl,⟨_,_,rfl,rfl,⟨_,_,rfl,rfl,⟨A3,c3,rfl,l3,g3⟩⟩⟩⟩:=h
 exact ⟨A3,c3,rfl,l3,g3⟩
def oO:Kd bn where
 sz:=kP.sz
 E:=97 :: jO.E
 K:=kP.K
 M:=fun w base ok x cs=>∃ v,cs=[.string x.f0,v]∧Kd.S jO 97 w base ok v x.f1
 K_len:=kP.K_len
 K_one:=kP.K_one
 K_below:=kP.K_below
 K_of_M:=fun ⟨_,e,h⟩=>by subst e;exact kP.K_of_M (am5 _ _ _ _ (Kd.rW h))
 M_mono:=fun hk ⟨v,e,h⟩=>⟨v,e,Kd.eF h hk⟩
 M_bound:=fun ⟨v,e,h⟩=>⟨v,e,Kd.pQ h⟩
 M_move:=fun hm ⟨v,e,h⟩=>⟨v,e,Kd.Yz h hm⟩
 M_lower:=fun hb ⟨v,e,h⟩=>⟨v,e,Kd.mM h hb⟩
theorem am6 {W:World}{base e:Nat}{ok:Nat→Prop}{v:Value}{xs:List bn}(h:Kd.S oO e W base ok v xs):Kd.N kP e W base ok v xs:=(Kd.S_N h:Kd.N oO e W base ok v xs)
def zD:Kd iG where
 sz:=oN.sz
 E:=62 :: oO.E
 K:=oN.K
 M:=fun w base ok x cs=>∃ v,cs=[.int .i64 x.f0,v]∧Kd.S oO 62 w base ok v x.f1
 K_len:=oN.K_len
 K_one:=oN.K_one
 K_below:=oN.K_below
 K_of_M:=fun {w} {_} {_} {x} {_} ⟨_,e,h⟩=>by
  subst e
  obtain ⟨A,c,e⟩:=Kd.ji h
  subst e
  exact ax9 w x (Kd.sI h).2.1 (Kd.sI h).2.2
 M_mono:=fun hk ⟨v,e,h⟩=>⟨v,e,Kd.eF h hk⟩
 M_bound:=fun ⟨v,e,h⟩=>⟨v,e,Kd.pQ h⟩
 M_move:=fun hm ⟨v,e,h⟩=>⟨v,e,Kd.Yz h hm⟩
 M_lower:=fun hb ⟨v,e,h⟩=>⟨v,e,Kd.mM h hb⟩
def oP:Kd dR where
 sz:=pX.sz
 E:=73 :: zD.E
 K:=pX.K
 M:=fun w base ok x cs=>∃ v,cs=[.int .i64 x.f0,.int .i64 x.f1,v]∧Kd.S zD 73 w base ok v x.f2
 K_len:=pX.K_len
 K_one:=pX.K_one
 K_below:=pX.K_below
 K_of_M:=fun {w} {_} {_} {x} {_} ⟨_,e,h⟩=>by
  subst e
  obtain ⟨A,c,e⟩:=Kd.ji h
  subst e
  exact ax6 w x (Kd.sI h).2.1 (Kd.sI h).2.2
 M_mono:=fun hk ⟨v,e,h⟩=>⟨v,e,Kd.eF h hk⟩
 M_bound:=fun ⟨v,e,h⟩=>⟨v,e,Kd.pQ h⟩
 M_move:=fun hm ⟨v,e,h⟩=>⟨v,e,Kd.Yz h hm⟩
 M_lower:=fun hb ⟨v,e,h⟩=>⟨v,e,Kd.mM h hb⟩
theorem afQ {α:Type}{d d':Kd α}{e base:Nat}{w:World}{ok:Nat→Prop}{v:Value}{xs:List α}(hs:d.sz=d'.sz)(hM:∀ b ok x cs,d.M w b ok x cs→d'.M w b ok x cs)(h:d.R e w base ok v xs):d'.R e w base ok v xs:=by
 obtain ⟨h0,inner,ho,hr⟩:=h
 rw [hs] at ho hr
 exact ⟨h0,inner,ho,hr.xy (fun _ _ hp=>hM _ _ _ _ hp)⟩
theorem ayg {e base:Nat}{w:World}{ok:Nat→Prop}{v:Value}{xs:List bn}(h:Kd.S oO e w base ok v xs):Kd.R kP e w base ok v xs:=afQ (d:=oO) (d':=kP) rfl (fun _ _ _ _ ⟨_,e,h⟩=>by subst e;exact am5 _ _ _ _ (Kd.rW h)) (Kd.rW h)
theorem ayh {e base:Nat}{w:World}{ok:Nat→Prop}{v:Value}{xs:List iG}(h:Kd.S zD e w base ok v xs):Kd.R oN e w base ok v xs:=afQ (d:=zD) (d':=oN) rfl (fun _ _ _ _ ⟨_,e,h⟩=>by subst e;exact aya _ _ _ _ (ayg h)) (Kd.rW h)
theorem DT {e base:Nat}{w:World}{ok:Nat→Prop}{v:Value}{xs:List dR}(h:Kd.S oP e w base ok v xs):Kd.R pX e w base ok v xs:=afQ (d:=oP) (d':=pX) rfl (fun _ _ _ _ ⟨_,e,h⟩=>by subst e;exact ax7 _ _ _ _ (ayh h)) (Kd.rW h)
theorem atm {W W2:World}{g:Nat}{t:TypeId}{z0 z1 z2 z3 z4 z5 v0 v1 v2 v3 v4 v5:Value}(h:W.heap[g]? = some (.cells #[z0,z1,z2,z3,z4,z5] t (0,0)))(hw:W2=((((((W.setCell ⟨g,0,none⟩ v0).setCell ⟨g,1,none⟩ v1).setCell ⟨g,2,none⟩ v2).setCell ⟨g,3,none⟩ v3).setCell ⟨g,4,none⟩ v4).setCell ⟨g,5,none⟩ v5)):W2.heap[g]? = some (.cells #[v0,v1,v2,v3,v4,v5] t (0,0))∧Kept W W2 (fun k=>k=g)∧∀ w:World,Below w.heap.size w W→w.heap.size≤g→Below w.heap.size w W2:=by
 subst hw
 refine ⟨kp ⟨h⟩,?_,fun w hb hg=>?_⟩
 ·refine Kept.setCell (Kept.setCell (Kept.setCell (Kept.setCell (Kept.setCell (Kept.setCell (Kept.refl W _) ?_ _) ?_ _) ?_ _) ?_ _) ?_ _) ?_ _
  all_goals exact Or.inl rfl
 ·exact eX (eX (eX (eX (eX (eX hb hg) hg) hg) hg) hg) hg
theorem NU {W W2:World}{g:Nat}{t:TypeId}{z0 z1 z2 z3 v0 v1 v2 v3:Value}(h:W.heap[g]? = some (.cells #[z0,z1,z2,z3] t (0,0)))(hw:W2=((((W.setCell ⟨g,0,none⟩ v0).setCell ⟨g,1,none⟩ v1).setCell ⟨g,2,none⟩ v2).setCell ⟨g,3,none⟩ v3)):W2.heap[g]? = some (.cells #[v0,v1,v2,v3] t (0,0))∧Kept W W2 (fun k=>k=g)∧∀ w:World,Below w.heap.size w W→w.heap.size≤g→Below w.heap.size w W2:=by
 subst hw
 refine ⟨kp ⟨h⟩,?_,fun w hb hg=>?_⟩
 ·refine Kept.setCell (Kept.setCell (Kept.setCell (Kept.setCell (Kept.refl W _) ?_ _) ?_ _) ?_ _) ?_ _
  all_goals exact Or.inl rfl
 ·exact eX (eX (eX (eX hb hg) hg) hg) hg
theorem Yx {α:Type}{d:Kd α}{e base:Nat}{ok:Nat→Prop}{W w1:World}{u v:Value}{xs:List α}(h:Kd.S d e W base ok v xs)(hbase:∀ k,u.ownBlock=some k→W.heap.size≤k)(hb:Below W.heap.size W w1):Kd.S d e w1 base (fun k=>(ok k∧some k≠u.ownBlock)∧k<W.heap.size) v xs :=
 Kd.eF (Kd.l6 (Kd.pQ h) hb) (fun k hk=>⟨⟨hk.1,fun he=>by have:=hbase k he.symm;have:=hk.2.2.1;omega⟩,hk.2.2.1⟩)
end Go.Proofs.YtapilmimgiaglaaGreatDoor.QX
