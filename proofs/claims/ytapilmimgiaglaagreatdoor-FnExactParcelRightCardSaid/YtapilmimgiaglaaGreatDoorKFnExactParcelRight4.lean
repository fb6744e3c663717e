-- Merged by a program of this session (wip/tool/pack.py) out of its own texts for this claim.
import Derived.Test.YtapilmimgiaglaaGreatDoorProg
import Derived.Below
import Derived.Deep.Draws
import Derived.Deep.AppendLies
import Derived.Maps.AppendAt
import Derived.OwnWalk
import Derived.Laws.BytesArg
import Derived.Laws.MakeOwn
import Derived.Laws.OwnMore
import Derived.Deep.OwnRows
import Derived.Tactics
import Derived.Lib.ConvBytes
import Derived.Laws.Slices
import Derived.WalkKit
import Derived.KernelRfl
import Derived.RowKit3
import Derived.Deep.LoopGhost
import Derived.Deep.QuietTactic
import Derived.BigQuiet
import Derived.WideLaws
import Derived.Deep.DeepCutAuto
import Derived.Deep.CutBlock
import Derived.Deep.RegionHeld3
import Derived.Laws.Rows
import Derived.Lib.AppendStr
import Derived.ArgAppend
import Derived.Laws.IdiomCopy
import Derived.OrdersHeld
import Derived.Laws.BitsLemmas
import Derived.RowKit
import Derived.StillTailTactics
import Derived.Lib.Bytealg
import Derived.Room.Shelf.Join48
import Derived.Lib.AppendIntMem
import Derived.Lib.OthersKept
import Derived.Test.YtapilmimgiaglaaGreatDoorKFnExactParcelRight3
set_option linter.unusedSimpArgs false
set_option linter.unusedVariables false
namespace Go.Proofs.YtapilmimgiaglaaGreatDoor.QA
open Go.RowKit Go.Proofs.bB.fA Go.Proofs.bB.PrintLast Go.Proofs.bB.PrintMore
attribute [local go_sem] o6 pg o9 pE o8 pz o7 pq   -- for this text's walks alone
def ahr:Option Int→Value
 | none=>.nilIface
 | some c=>.iface 0 (.int .i64 c)
theorem ou:ahr none=.nilIface:=rfl
theorem oz (c:Int):ahr (some c)=.iface 0 (.int .i64 c):=rfl
theorem info5:(Tryz.prog.info? 5).map (fun i=>(i.zero,i.size,i.bytes))=some (some (.int .u8 0),1,1):=by kernel_rfl
theorem xQ:(Tryz.prog.info? 9).map (fun i=>(i.zero,i.size,i.bytes))=some (some (.string ⟨#[]⟩),1,16):=by kernel_rfl
theorem auP:(Tryz.prog.info? 45).map (fun i=>(i.zero,i.size,i.bytes))=some (some (.agg #[(.int .i64 0),(.string ⟨#[]⟩),(.string ⟨#[]⟩),(.int .i64 0),(.slice none 0 0),(.slice none 0 0)]),6,96):=by kernel_rfl
theorem Sq:(Tryz.prog.info? 62).map (fun i=>(i.zero,i.size,i.bytes))=some (some (.agg #[(.string ⟨#[]⟩),(.slice none 0 0)]),2,40):=by kernel_rfl
theorem akd:(Tryz.prog.info? 71).map (fun i=>(i.zero,i.size,i.bytes))=some (some (.agg #[(.int .i64 0),(.int .i64 0),(.slice none 0 0)]),3,40):=by kernel_rfl
theorem ake:(Tryz.prog.info? 73).map (fun i=>(i.zero,i.size,i.bytes))=some (some (.agg #[(.int .i64 0),(.slice none 0 0)]),2,32):=by kernel_rfl
theorem Xg:(Tryz.prog.info? 95).map (fun i=>(i.zero,i.size,i.bytes))=some (some (.agg #[(.int .i64 0),(.string ⟨#[]⟩),(.int .i64 0),(.int .i64 0),(.string ⟨#[]⟩)]),5,56):=by kernel_rfl
theorem akf:(Tryz.prog.info? 97).map (fun i=>(i.zero,i.size,i.bytes))=some (some (.agg #[(.slice none 0 0)]),1,24):=by kernel_rfl
structure lL where
 f0:Int
 f1:ByteArray
 f2:Int
 f3:Int
 f4:ByteArray
def z127:lL:=⟨(0:Int),(⟨#[]⟩:ByteArray),(0:Int),(0:Int),(⟨#[]⟩:ByteArray)⟩
def Br:Kd lL:=Kd.yG (Kd.pair (Kd.int .i64) (Kd.pair Kd.string (Kd.pair (Kd.int .i64) (Kd.pair (Kd.int .i64) Kd.string)))) (fun x:lL=>(x.f0,x.f1,x.f2,x.f3,x.f4))
theorem auZ {w:World} {x:lL} {cs:List Value} (h:Br.K w x cs):cs=[.int .i64 x.f0,.string x.f1,.int .i64 x.f2,.int .i64 x.f3,.string x.f4]:=by
 obtain ⟨_,_,rfl,rfl,⟨_,_,rfl,rfl,⟨_,_,rfl,rfl,⟨_,_,rfl,rfl,rfl⟩⟩⟩⟩:=h
 exact rfl
def ma (xs:List lL) (i:Int):lL:=xs.getD i.toNat z127
theorem agn {w:World} {A:Option Addr} {n:Nat} {xs:List lL} (h:Kd.C Br w A n xs) (i:Int) (h0:0≤i) (h1:i<n):∃ ad ,A=some ad∧w.cell? (ad.add (i.toNat * 5))=some (.int .i64 (ma xs i).f0)∧w.cell? ⟨(ad.add (i.toNat * 5)).block,(ad.add (i.toNat * 5)).off+1,none⟩=some (.string (ma xs i).f1)∧w.cell? ⟨(ad.add (i.toNat * 5)).block,(ad.add (i.toNat * 5)).off+2,none⟩=some (.int .i64 (ma xs i).f2)∧w.cell? ⟨(ad.add (i.toNat * 5)).block,(ad.add (i.toNat * 5)).off+3,none⟩=some (.int .i64 (ma xs i).f3)∧w.cell? ⟨(ad.add (i.toNat * 5)).block,(ad.add (i.toNat * 5)).off+4,none⟩=some (.string (ma xs i).f4):=by
 obtain ⟨ad,c,e,_,hK,hc0⟩:=Kd.Ch h z127 i h0 h1;have hc:∀ j u,c[j]? = some u→w.cell? (ad.add (i.toNat * 5+j))=some u:=hc0;obtain rfl:=auZ hK
 exact ⟨ad,e,hc 0 _ rfl,by rw [← mM _ _ 1 (by omega)];exact hc 1 _ rfl,by rw [← mM _ _ 2 (by omega)];exact hc 2 _ rfl,by rw [← mM _ _ 3 (by omega)];exact hc 3 _ rfl,by rw [← mM _ _ 4 (by omega)];exact hc 4 _ rfl⟩
structure lM where
 f0:Int
 f1:ByteArray
 f2:ByteArray
 f3:Int
 f4:(List ByteArray)
 f5:(List lL)
def z56:lM:=⟨(0:Int),(⟨#[]⟩:ByteArray),(⟨#[]⟩:ByteArray),(0:Int),([]:List ByteArray),([]:List lL)⟩
def Bt:Kd lM:=Kd.yG (Kd.pair (Kd.int .i64) (Kd.pair Kd.string (Kd.pair Kd.string (Kd.pair (Kd.int .i64) (Kd.pair (Kd.slice 9 Kd.string) (Kd.slice 127 Br)))))) (fun x:lM=>(x.f0,x.f1,x.f2,x.f3,x.f4,x.f5))
theorem au2 {w:World} {x:lM} {cs:List Value} (h:Bt.K w x cs):∃ A4 c4 A5 c5,cs=[.int .i64 x.f0,.string x.f1,.string x.f2,.int .i64 x.f3,.slice A4 x.f4.length c4,.slice A5 x.f5.length c5]∧x.f4.length≤c4∧Kd.string.C w A4 x.f4.length x.f4∧x.f5.length≤c5∧Br.C w A5 x.f5.length x.f5:=by
 obtain ⟨_,_,rfl,rfl,⟨_,_,rfl,rfl,⟨_,_,rfl,rfl,⟨_,_,rfl,rfl,⟨_,_,rfl,⟨A4,c4,rfl,l4,g4⟩,⟨A5,c5,rfl,l5,g5⟩⟩⟩⟩⟩⟩:=h
 exact ⟨A4,c4,A5,c5,rfl,l4,g4,l5,g5⟩
def jo (xs:List lM) (i:Int):lM:=xs.getD i.toNat z56
theorem agp {w:World} {A:Option Addr} {n:Nat} {xs:List lM} (h:Kd.C Bt w A n xs) (i:Int) (h0:0≤i) (h1:i<n):∃ ad A4 c4 A5 c5,A=some ad∧w.cell? (ad.add (i.toNat * 6))=some (.int .i64 (jo xs i).f0)∧w.cell? ⟨(ad.add (i.toNat * 6)).block,(ad.add (i.toNat * 6)).off+1,none⟩=some (.string (jo xs i).f1)∧w.cell? ⟨(ad.add (i.toNat * 6)).block,(ad.add (i.toNat * 6)).off+2,none⟩=some (.string (jo xs i).f2)∧w.cell? ⟨(ad.add (i.toNat * 6)).block,(ad.add (i.toNat * 6)).off+3,none⟩=some (.int .i64 (jo xs i).f3)∧w.cell? ⟨(ad.add (i.toNat * 6)).block,(ad.add (i.toNat * 6)).off+4,none⟩=some (.slice A4 (jo xs i).f4.length c4)∧w.cell? ⟨(ad.add (i.toNat * 6)).block,(ad.add (i.toNat * 6)).off+5,none⟩=some (.slice A5 (jo xs i).f5.length c5)∧(jo xs i).f4.length≤c4∧Kd.string.C w A4 (jo xs i).f4.length (jo xs i).f4∧(jo xs i).f5.length≤c5∧Br.C w A5 (jo xs i).f5.length (jo xs i).f5:=by
 obtain ⟨ad,c,e,_,hK,hc0⟩:=Kd.Ch h z56 i h0 h1;have hc:∀ j u,c[j]? = some u→w.cell? (ad.add (i.toNat * 6+j))=some u:=hc0;obtain ⟨A4,c4,A5,c5,rfl,l4,g4,l5,g5⟩:=au2 hK
 exact ⟨ad,A4,c4,A5,c5,e,hc 0 _ rfl,by rw [← mM _ _ 1 (by omega)];exact hc 1 _ rfl,by rw [← mM _ _ 2 (by omega)];exact hc 2 _ rfl,by rw [← mM _ _ 3 (by omega)];exact hc 3 _ rfl,by rw [← mM _ _ 4 (by omega)];exact hc 4 _ rfl,by rw [← mM _ _ 5 (by omega)];exact hc 5 _ rfl,l4,g4,l5,g5⟩
structure aY where
 f0:Int
 f1:ByteArray
 f2:Int
 f3:Int
 f4:ByteArray
def D9:aY:=⟨(0:Int),(⟨#[]⟩:ByteArray),(0:Int),(0:Int),(⟨#[]⟩:ByteArray)⟩
def iR:Kd aY:=Kd.yG (Kd.pair (Kd.int .i64) (Kd.pair Kd.string (Kd.pair (Kd.int .i64) (Kd.pair (Kd.int .i64) Kd.string)))) (fun x:aY=>(x.f0,x.f1,x.f2,x.f3,x.f4))
theorem ava:Kd.Heap iR:=Kd.as8 _ (Kd.Ws (Kd.abn .i64) (Kd.Ws Kd.ahZ (Kd.Ws (Kd.abn .i64) (Kd.Ws (Kd.abn .i64) Kd.ahZ))))
theorem avb {w:World} {x:aY} {cs:List Value} (h:iR.K w x cs):cs=[.int .i64 x.f0,.string x.f1,.int .i64 x.f2,.int .i64 x.f3,.string x.f4]:=by
 obtain ⟨_,_,rfl,rfl,⟨_,_,rfl,rfl,⟨_,_,rfl,rfl,⟨_,_,rfl,rfl,rfl⟩⟩⟩⟩:=h
 exact rfl
theorem akl {w:World} {base:Nat} {ok:Nat→Prop} {x:aY} {cs:List Value} (h:iR.M w base ok x cs):cs=[.int .i64 x.f0,.string x.f1,.int .i64 x.f2,.int .i64 x.f3,.string x.f4]:=by
 obtain ⟨_,_,rfl,rfl,⟨_,_,rfl,rfl,⟨_,_,rfl,rfl,⟨_,_,rfl,rfl,rfl⟩⟩⟩⟩:=h
 exact rfl
theorem Su (w:World) (base:Nat) (ok:Nat→Prop) (x:aY)  : iR.M w base ok x [.int .i64 x.f0,.string x.f1,.int .i64 x.f2,.int .i64 x.f3,.string x.f4]:=⟨[.int .i64 x.f0],[.string x.f1,.int .i64 x.f2,.int .i64 x.f3,.string x.f4],rfl,rfl,⟨[.string x.f1],[.int .i64 x.f2,.int .i64 x.f3,.string x.f4],rfl,rfl,⟨[.int .i64 x.f2],[.int .i64 x.f3,.string x.f4],rfl,rfl,⟨[.int .i64 x.f3],[.string x.f4],rfl,rfl,rfl⟩⟩⟩⟩
def ai (xs:List aY) (i:Int):aY:=xs.getD i.toNat D9
theorem rM {w:World} {A:Option Addr} {n:Nat} {xs:List aY} (h:Kd.C iR w A n xs) (i:Int) (h0:0≤i) (h1:i<n):∃ ad ,A=some ad∧w.cell? (ad.add (i.toNat * 5))=some (.int .i64 (ai xs i).f0)∧w.cell? ⟨(ad.add (i.toNat * 5)).block,(ad.add (i.toNat * 5)).off+1,none⟩=some (.string (ai xs i).f1)∧w.cell? ⟨(ad.add (i.toNat * 5)).block,(ad.add (i.toNat * 5)).off+2,none⟩=some (.int .i64 (ai xs i).f2)∧w.cell? ⟨(ad.add (i.toNat * 5)).block,(ad.add (i.toNat * 5)).off+3,none⟩=some (.int .i64 (ai xs i).f3)∧w.cell? ⟨(ad.add (i.toNat * 5)).block,(ad.add (i.toNat * 5)).off+4,none⟩=some (.string (ai xs i).f4):=by
 obtain ⟨ad,c,e,_,hK,hc0⟩:=Kd.Ch h D9 i h0 h1;have hc:∀ j u,c[j]? = some u→w.cell? (ad.add (i.toNat * 5+j))=some u:=hc0;obtain rfl:=avb hK
 exact ⟨ad,e,hc 0 _ rfl,by rw [← mM _ _ 1 (by omega)];exact hc 1 _ rfl,by rw [← mM _ _ 2 (by omega)];exact hc 2 _ rfl,by rw [← mM _ _ 3 (by omega)];exact hc 3 _ rfl,by rw [← mM _ _ 4 (by omega)];exact hc 4 _ rfl⟩
structure gN where
 f0:Int
 f1:ByteArray
 f2:ByteArray
 f3:Int
 f4:(List ByteArray)
 f5:(List aY)
def z45:gN:=⟨(0:Int),(⟨#[]⟩:ByteArray),(⟨#[]⟩:ByteArray),(0:Int),([]:List ByteArray),([]:List aY)⟩
def kK:Kd gN:=Kd.yG (Kd.pair (Kd.int .i64) (Kd.pair Kd.string (Kd.pair Kd.string (Kd.pair (Kd.int .i64) (Kd.pair (Kd.slice 9 Kd.string) (Kd.slice 95 iR)))))) (fun x:gN=>(x.f0,x.f1,x.f2,x.f3,x.f4,x.f5))
theorem au1 {w:World} {x:gN} {cs:List Value} (h:kK.K w x cs):∃ A4 c4 A5 c5,cs=[.int .i64 x.f0,.string x.f1,.string x.f2,.int .i64 x.f3,.slice A4 x.f4.length c4,.slice A5 x.f5.length c5]∧x.f4.length≤c4∧Kd.string.C w A4 x.f4.length x.f4∧x.f5.length≤c5∧iR.C w A5 x.f5.length x.f5:=by
 obtain ⟨_,_,rfl,rfl,⟨_,_,rfl,rfl,⟨_,_,rfl,rfl,⟨_,_,rfl,rfl,⟨_,_,rfl,⟨A4,c4,rfl,l4,g4⟩,⟨A5,c5,rfl,l5,g5⟩⟩⟩⟩⟩⟩:=h
 exact ⟨A4,c4,A5,c5,rfl,l4,g4,l5,g5⟩
theorem akj {w:World} {base:Nat} {ok:Nat→Prop} {x:gN} {cs:List Value} (h:kK.M w base ok x cs):∃ v4 v5,cs=[.int .i64 x.f0,.string x.f1,.string x.f2,.int .i64 x.f3,v4,v5]∧Kd.string.R 9 w base ok v4 x.f4∧iR.R 95 w base ok v5 x.f5:=by
 obtain ⟨_,_,rfl,rfl,⟨_,_,rfl,rfl,⟨_,_,rfl,rfl,⟨_,_,rfl,rfl,⟨_,_,rfl,⟨v4,rfl,g4⟩,⟨v5,rfl,g5⟩⟩⟩⟩⟩⟩:=h
 exact ⟨v4,v5,rfl,g4,g5⟩
theorem aki (w:World) (base:Nat) (ok:Nat→Prop) (x:gN) {v4:Value} (g4:Kd.string.R 9 w base ok v4 x.f4) {v5:Value} (g5:iR.R 95 w base ok v5 x.f5):kK.M w base ok x [.int .i64 x.f0,.string x.f1,.string x.f2,.int .i64 x.f3,v4,v5]:=⟨[.int .i64 x.f0],[.string x.f1,.string x.f2,.int .i64 x.f3,v4,v5],rfl,rfl,⟨[.string x.f1],[.string x.f2,.int .i64 x.f3,v4,v5],rfl,rfl,⟨[.string x.f2],[.int .i64 x.f3,v4,v5],rfl,rfl,⟨[.int .i64 x.f3],[v4,v5],rfl,rfl,⟨[v4],[v5],rfl,⟨v4,rfl,g4⟩,⟨v5,rfl,g5⟩⟩⟩⟩⟩⟩
def aG (xs:List gN) (i:Int):gN:=xs.getD i.toNat z45
theorem Ct {w:World} {A:Option Addr} {n:Nat} {xs:List gN} (h:Kd.C kK w A n xs) (i:Int) (h0:0≤i) (h1:i<n):∃ ad A4 c4 A5 c5,A=some ad∧w.cell? (ad.add (i.toNat * 6))=some (.int .i64 (aG xs i).f0)∧w.cell? ⟨(ad.add (i.toNat * 6)).block,(ad.add (i.toNat * 6)).off+1,none⟩=some (.string (aG xs i).f1)∧w.cell? ⟨(ad.add (i.toNat * 6)).block,(ad.add (i.toNat * 6)).off+2,none⟩=some (.string (aG xs i).f2)∧w.cell? ⟨(ad.add (i.toNat * 6)).block,(ad.add (i.toNat * 6)).off+3,none⟩=some (.int .i64 (aG xs i).f3)∧w.cell? ⟨(ad.add (i.toNat * 6)).block,(ad.add (i.toNat * 6)).off+4,none⟩=some (.slice A4 (aG xs i).f4.length c4)∧w.cell? ⟨(ad.add (i.toNat * 6)).block,(ad.add (i.toNat * 6)).off+5,none⟩=some (.slice A5 (aG xs i).f5.length c5)∧(aG xs i).f4.length≤c4∧Kd.string.C w A4 (aG xs i).f4.length (aG xs i).f4∧(aG xs i).f5.length≤c5∧iR.C w A5 (aG xs i).f5.length (aG xs i).f5:=by
 obtain ⟨ad,c,e,_,hK,hc0⟩:=Kd.Ch h z45 i h0 h1;have hc:∀ j u,c[j]? = some u→w.cell? (ad.add (i.toNat * 6+j))=some u:=hc0;obtain ⟨A4,c4,A5,c5,rfl,l4,g4,l5,g5⟩:=au1 hK
 exact ⟨ad,A4,c4,A5,c5,e,hc 0 _ rfl,by rw [← mM _ _ 1 (by omega)];exact hc 1 _ rfl,by rw [← mM _ _ 2 (by omega)];exact hc 2 _ rfl,by rw [← mM _ _ 3 (by omega)];exact hc 3 _ rfl,by rw [← mM _ _ 4 (by omega)];exact hc 4 _ rfl,by rw [← mM _ _ 5 (by omega)];exact hc 5 _ rfl,l4,g4,l5,g5⟩
structure dw where
 f0:(List ByteArray)
def z97:dw:=⟨([]:List ByteArray)⟩
def lG:Kd dw:=Kd.yG (Kd.slice 9 Kd.string) (fun x:dw=>x.f0)
theorem avc {w:World} {x:dw} {cs:List Value} (h:lG.K w x cs):∃ A0 c0,cs=[.slice A0 x.f0.length c0]∧x.f0.length≤c0∧Kd.string.C w A0 x.f0.length x.f0:=by
 obtain ⟨A0,c0,rfl,l0,g0⟩:=h
 exact ⟨A0,c0,rfl,l0,g0⟩
theorem akm (w:World) (base:Nat) (ok:Nat→Prop) (x:dw) {v0:Value} (g0:Kd.string.R 9 w base ok v0 x.f0):lG.M w base ok x [v0]:=⟨v0,rfl,g0⟩
def aH (xs:List dw) (i:Int):dw:=xs.getD i.toNat z97
theorem lZ {w:World} {A:Option Addr} {n:Nat} {xs:List dw} (h:Kd.C lG w A n xs) (i:Int) (h0:0≤i) (h1:i<n):∃ ad A0 c0,A=some ad∧w.cell? (ad.add i.toNat)=some (.slice A0 (aH xs i).f0.length c0)∧(aH xs i).f0.length≤c0∧Kd.string.C w A0 (aH xs i).f0.length (aH xs i).f0:=by
 obtain ⟨ad,c,e,_,hK,hc0⟩:=Kd.Ch h z97 i h0 h1;have hc:∀ j u,c[j]? = some u→w.cell? (ad.add (i.toNat * 1+j))=some u:=hc0;obtain ⟨A0,c0,rfl,l0,g0⟩:=avc hK
 exact ⟨ad,A0,c0,e,by have hq:=hc 0 _ rfl;rwa [Nat.mul_one,Nat.add_zero] at hq,l0,g0⟩
structure bA where
 f0:ByteArray
 f1:(List dw)
def z62:bA:=⟨(⟨#[]⟩:ByteArray),([]:List dw)⟩
def kS:Kd bA:=Kd.yG (Kd.pair Kd.string (Kd.slice 97 lG)) (fun x:bA=>(x.f0,x.f1))
theorem acS {w:World} {x:bA} {cs:List Value} (h:kS.K w x cs):∃ A1 c1,cs=[.string x.f0,.slice A1 x.f1.length c1]∧x.f1.length≤c1∧lG.C w A1 x.f1.length x.f1:=by
 obtain ⟨_,_,rfl,rfl,⟨A1,c1,rfl,l1,g1⟩⟩:=h
 exact ⟨A1,c1,rfl,l1,g1⟩
theorem akk (w:World) (base:Nat) (ok:Nat→Prop) (x:bA) {v1:Value} (g1:lG.R 97 w base ok v1 x.f1):kS.M w base ok x [.string x.f0,v1]:=⟨[.string x.f0],[v1],rfl,rfl,⟨v1,rfl,g1⟩⟩
theorem au3 {W:World} {ok:Nat→Prop} {x:bA} {cs:List Value} (h:Kd.FK kS W ok x cs):∃ A1 c1,cs=[.string x.f0,.slice A1 x.f1.length c1]∧x.f1.length≤c1∧Kd.F lG W ok A1 x.f1.length x.f1:=by
 obtain ⟨A1,c1,rfl,l1,_⟩:=acS (Kd.aeK h)
 exact ⟨A1,c1,rfl,l1,(fun W' hW=>by obtain ⟨A1_,c1_,he,l1_,g1_⟩:=acS (h W' hW);injection (Option.some.inj (show some (Value.slice A1 x.f1.length c1)=some (Value.slice A1_ x.f1.length c1_) from congrArg (fun l=>l[1]?) he)) with ha_ _ _;rw [ha_];exact g1_)⟩
def av (xs:List bA) (i:Int):bA:=xs.getD i.toNat z62
theorem lv {w:World} {A:Option Addr} {n:Nat} {xs:List bA} (h:Kd.C kS w A n xs) (i:Int) (h0:0≤i) (h1:i<n):∃ ad A1 c1,A=some ad∧w.cell? (ad.add (i.toNat * 2))=some (.string (av xs i).f0)∧w.cell? ⟨(ad.add (i.toNat * 2)).block,(ad.add (i.toNat * 2)).off+1,none⟩=some (.slice A1 (av xs i).f1.length c1)∧(av xs i).f1.length≤c1∧lG.C w A1 (av xs i).f1.length (av xs i).f1:=by
 obtain ⟨ad,c,e,_,hK,hc0⟩:=Kd.Ch h z62 i h0 h1;have hc:∀ j u,c[j]? = some u→w.cell? (ad.add (i.toNat * 2+j))=some u:=hc0;obtain ⟨A1,c1,rfl,l1,g1⟩:=acS hK
 exact ⟨ad,A1,c1,e,hc 0 _ rfl,by rw [← mM _ _ 1 (by omega)];exact hc 1 _ rfl,l1,g1⟩
structure aC where
 f0:ByteArray
 f1:Int
 f2:Int
 f3:ByteArray
def al3:aC:=⟨(⟨#[]⟩:ByteArray),(0:Int),(0:Int),(⟨#[]⟩:ByteArray)⟩
def iA:Kd aC:=Kd.yG (Kd.pair Kd.string (Kd.pair (Kd.int .i64) (Kd.pair (Kd.int .i64) Kd.string))) (fun x:aC=>(x.f0,x.f1,x.f2,x.f3))
theorem auY {w:World} {x:aC} {cs:List Value} (h:iA.K w x cs):cs=[.string x.f0,.int .i64 x.f1,.int .i64 x.f2,.string x.f3]:=by
 obtain ⟨_,_,rfl,rfl,⟨_,_,rfl,rfl,⟨_,_,rfl,rfl,rfl⟩⟩⟩:=h
 exact rfl
theorem l8 (w:World) (base:Nat) (ok:Nat→Prop) (x:aC)  : iA.M w base ok x [.string x.f0,.int .i64 x.f1,.int .i64 x.f2,.string x.f3]:=⟨[.string x.f0],[.int .i64 x.f1,.int .i64 x.f2,.string x.f3],rfl,rfl,⟨[.int .i64 x.f1],[.int .i64 x.f2,.string x.f3],rfl,rfl,⟨[.int .i64 x.f2],[.string x.f3],rfl,rfl,rfl⟩⟩⟩
def di (xs:List aC) (i:Int):aC:=xs.getD i.toNat al3
theorem yl {w:World} {A:Option Addr} {n:Nat} {xs:List aC} (h:Kd.C iA w A n xs) (i:Int) (h0:0≤i) (h1:i<n):∃ ad ,A=some ad∧w.cell? (ad.add (i.toNat * 4))=some (.string (di xs i).f0)∧w.cell? ⟨(ad.add (i.toNat * 4)).block,(ad.add (i.toNat * 4)).off+1,none⟩=some (.int .i64 (di xs i).f1)∧w.cell? ⟨(ad.add (i.toNat * 4)).block,(ad.add (i.toNat * 4)).off+2,none⟩=some (.int .i64 (di xs i).f2)∧w.cell? ⟨(ad.add (i.toNat * 4)).block,(ad.add (i.toNat * 4)).off+3,none⟩=some (.string (di xs i).f3):=by
 obtain ⟨ad,c,e,_,hK,hc0⟩:=Kd.Ch h al3 i h0 h1;have hc:∀ j u,c[j]? = some u→w.cell? (ad.add (i.toNat * 4+j))=some u:=hc0;obtain rfl:=auY hK
 exact ⟨ad,e,hc 0 _ rfl,by rw [← mM _ _ 1 (by omega)];exact hc 1 _ rfl,by rw [← mM _ _ 2 (by omega)];exact hc 2 _ rfl,by rw [← mM _ _ 3 (by omega)];exact hc 3 _ rfl⟩
structure kN where
 f0:Int
 f1:(List bA)
def z73:kN:=⟨(0:Int),([]:List bA)⟩
def qA:Kd kN:=Kd.yG (Kd.pair (Kd.int .i64) (Kd.slice 62 kS)) (fun x:kN=>(x.f0,x.f1))
theorem au9 {w:World} {x:kN} {cs:List Value} (h:qA.K w x cs):∃ A1 c1,cs=[.int .i64 x.f0,.slice A1 x.f1.length c1]∧x.f1.length≤c1∧kS.C w A1 x.f1.length x.f1:=by
 obtain ⟨_,_,rfl,rfl,⟨A1,c1,rfl,l1,g1⟩⟩:=h
 exact ⟨A1,c1,rfl,l1,g1⟩
theorem au7 (w:World) (x:kN) {A1:Option Addr} {c1:Nat} (l1:x.f1.length≤c1) (g1:kS.C w A1 x.f1.length x.f1):qA.K w x [.int .i64 x.f0,.slice A1 x.f1.length c1]:=⟨[.int .i64 x.f0],[.slice A1 x.f1.length c1],rfl,rfl,⟨A1,c1,rfl,l1,g1⟩⟩
theorem au8 (w:World) (base:Nat) (ok:Nat→Prop) (x:kN) {v1:Value} (g1:kS.R 62 w base ok v1 x.f1):qA.M w base ok x [.int .i64 x.f0,v1]:=⟨[.int .i64 x.f0],[v1],rfl,rfl,⟨v1,rfl,g1⟩⟩
def lg (xs:List kN) (i:Int):kN:=xs.getD i.toNat z73
theorem agr {w:World} {A:Option Addr} {n:Nat} {xs:List kN} (h:Kd.C qA w A n xs) (i:Int) (h0:0≤i) (h1:i<n):∃ ad A1 c1,A=some ad∧w.cell? (ad.add (i.toNat * 2))=some (.int .i64 (lg xs i).f0)∧w.cell? ⟨(ad.add (i.toNat * 2)).block,(ad.add (i.toNat * 2)).off+1,none⟩=some (.slice A1 (lg xs i).f1.length c1)∧(lg xs i).f1.length≤c1∧kS.C w A1 (lg xs i).f1.length (lg xs i).f1:=by
 obtain ⟨ad,c,e,_,hK,hc0⟩:=Kd.Ch h z73 i h0 h1;have hc:∀ j u,c[j]? = some u→w.cell? (ad.add (i.toNat * 2+j))=some u:=hc0;obtain ⟨A1,c1,rfl,l1,g1⟩:=au9 hK
 exact ⟨ad,A1,c1,e,hc 0 _ rfl,by rw [← mM _ _ 1 (by omega)];exact hc 1 _ rfl,l1,g1⟩
structure gP where
 f0:Int
 f1:Int
 f2:(List kN)
def z71:gP:=⟨(0:Int),(0:Int),([]:List kN)⟩
def sZ:Kd gP:=Kd.yG (Kd.pair (Kd.int .i64) (Kd.pair (Kd.int .i64) (Kd.slice 73 qA))) (fun x:gP=>(x.f0,x.f1,x.f2))
theorem au6 {w:World} {x:gP} {cs:List Value} (h:sZ.K w x cs):∃ A2 c2,cs=[.int .i64 x.f0,.int .i64 x.f1,.slice A2 x.f2.length c2]∧x.f2.length≤c2∧qA.C w A2 x.f2.length x.f2:=by
 obtain ⟨_,_,rfl,rfl,⟨_,_,rfl,rfl,⟨A2,c2,rfl,l2,g2⟩⟩⟩:=h
 exact ⟨A2,c2,rfl,l2,g2⟩
theorem au4 (w:World) (x:gP) {A2:Option Addr} {c2:Nat} (l2:x.f2.length≤c2) (g2:qA.C w A2 x.f2.length x.f2):sZ.K w x [.int .i64 x.f0,.int .i64 x.f1,.slice A2 x.f2.length c2]:=⟨[.int .i64 x.f0],[.int .i64 x.f1,.slice A2 x.f2.length c2],rfl,rfl,⟨[.int .i64 x.f1],[.slice A2 x.f2.length c2],rfl,rfl,⟨A2,c2,rfl,l2,g2⟩⟩⟩
theorem au5 (w:World) (base:Nat) (ok:Nat→Prop) (x:gP) {v2:Value} (g2:qA.R 73 w base ok v2 x.f2):sZ.M w base ok x [.int .i64 x.f0,.int .i64 x.f1,v2]:=⟨[.int .i64 x.f0],[.int .i64 x.f1,v2],rfl,rfl,⟨[.int .i64 x.f1],[v2],rfl,rfl,⟨v2,rfl,g2⟩⟩⟩
def cu (xs:List gP) (i:Int):gP:=xs.getD i.toNat z71
theorem agq {w:World} {A:Option Addr} {n:Nat} {xs:List gP} (h:Kd.C sZ w A n xs) (i:Int) (h0:0≤i) (h1:i<n):∃ ad A2 c2,A=some ad∧w.cell? (ad.add (i.toNat * 3))=some (.int .i64 (cu xs i).f0)∧w.cell? ⟨(ad.add (i.toNat * 3)).block,(ad.add (i.toNat * 3)).off+1,none⟩=some (.int .i64 (cu xs i).f1)∧w.cell? ⟨(ad.add (i.toNat * 3)).block,(ad.add (i.toNat * 3)).off+2,none⟩=some (.slice A2 (cu xs i).f2.length c2)∧(cu xs i).f2.length≤c2∧qA.C w A2 (cu xs i).f2.length (cu xs i).f2:=by
 obtain ⟨ad,c,e,_,hK,hc0⟩:=Kd.Ch h z71 i h0 h1;have hc:∀ j u,c[j]? = some u→w.cell? (ad.add (i.toNat * 3+j))=some u:=hc0;obtain ⟨A2,c2,rfl,l2,g2⟩:=au6 hK
 exact ⟨ad,A2,c2,e,hc 0 _ rfl,by rw [← mM _ _ 1 (by omega)];exact hc 1 _ rfl,by rw [← mM _ _ 2 (by omega)];exact hc 2 _ rfl,l2,g2⟩
structure U5 where
 f0:ByteArray
 f1:ByteArray
 f2:Int
 f3:(List lM)
def k24:Kd U5:=Kd.yG (Kd.pair Kd.string (Kd.pair Kd.string (Kd.pair (Kd.int .i64) (Kd.slice 56 Bt)))) (fun x:U5=>(x.f0,x.f1,x.f2,x.f3))
theorem au0 {w:World} {x:U5} {cs:List Value} (h:k24.K w x cs):∃ A3 c3,cs=[.string x.f0,.string x.f1,.int .i64 x.f2,.slice A3 x.f3.length c3]∧x.f3.length≤c3∧Bt.C w A3 x.f3.length x.f3:=by
 obtain ⟨_,_,rfl,rfl,⟨_,_,rfl,rfl,⟨_,_,rfl,rfl,⟨A3,c3,rfl,l3,g3⟩⟩⟩⟩:=h
 exact ⟨A3,c3,rfl,l3,g3⟩
def qW:Kd bA where
 sz:=kS.sz
 E:=97 :: lG.E
 K:=kS.K
 M:=fun w base ok x cs=>∃ v,cs=[.string x.f0,v]∧Kd.S lG 97 w base ok v x.f1
 K_len:=kS.K_len
 K_one:=kS.K_one
 K_below:=kS.K_below
 K_of_M:=fun ⟨_,e,h⟩=>by subst e;exact kS.K_of_M (akk _ _ _ _ (Kd.ql h))
 M_mono:=fun hk ⟨v,e,h⟩=>⟨v,e,Kd.fU h hk⟩
 M_bound:=fun ⟨v,e,h⟩=>⟨v,e,Kd.uf h⟩
 M_move:=fun hm ⟨v,e,h⟩=>⟨v,e,Kd.U8 h hm⟩
 M_lower:=fun hb ⟨v,e,h⟩=>⟨v,e,Kd.mJ h hb⟩
theorem akn {W:World} {base e:Nat} {ok:Nat→Prop} {v:Value} {xs:List bA} (h:Kd.S qW e W base ok v xs):Kd.N kS e W base ok v xs:=(Kd.S_N h:Kd.N qW e W base ok v xs)
theorem U7 {α:Type} {d:Kd α} {e base:Nat} {ok:Nat→Prop} {W w1:World} {u v:Value} {xs:List α} (h:Kd.S d e W base ok v xs) (hbase:∀ k,u.ownBlock=some k→W.heap.size≤k) (hb:Below W.heap.size W w1):Kd.S d e w1 base (fun k=>(ok k∧some k≠u.ownBlock)∧k<W.heap.size) v xs :=
 Kd.fU (Kd.rJ (Kd.uf h) hb) (fun k hk=>⟨⟨hk.1,fun he=>by have:=hbase k he.symm;have:=hk.2.2.1;omega⟩,hk.2.2.1⟩)
end Go.Proofs.YtapilmimgiaglaaGreatDoor.QA
