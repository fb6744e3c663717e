-- Merged by a program of this session (wip/tool/pack.py) out of its own texts for this claim.
import Derived.Test.YtaememmnhmebcaaGreatDoorProg
import Derived.Below
import Derived.Deep.Draws
import Derived.Deep.AppendLies
import Derived.Maps.AppendAt
import Derived.OwnWalk
import Derived.Laws.BytesArg
import Derived.Laws.MakeOwn
import Derived.Laws.OwnMore
import Derived.Deep.OwnRows
import Derived.Tactics
import Derived.Lib.ConvBytes
import Derived.Laws.Slices
import Derived.WalkKit
import Derived.KernelRfl
import Derived.RowKit3
import Derived.Deep.LoopGhost
import Derived.Deep.QuietTactic
import Derived.BigQuiet
import Derived.WideLaws
import Derived.Deep.DeepCutAuto
import Derived.Deep.CutBlock
import Derived.Deep.RegionHeld3
import Derived.Laws.Rows
import Derived.Lib.AppendStr
import Derived.ArgAppend
import Derived.Laws.IdiomCopy
import Derived.OrdersHeld
import Derived.Laws.BitsLemmas
import Derived.RowKit
import Derived.StillTailTactics
import Derived.Lib.Bytealg
import Derived.Room.Shelf.Join48
import Derived.Lib.AppendIntMem
import Derived.Lib.OthersKept
import Derived.Test.YtaememmnhmebcaaGreatDoorKFnExactPaperBody3
set_option linter.unusedSimpArgs false
set_option linter.unusedVariables false
namespace Go.Proofs.YtaememmnhmebcaaGreatDoor.QB
open Go.RowKit Go.Proofs.YtaememmnhmebcaaGreatDoorW.PrintWords Go.Proofs.YtaememmnhmebcaaGreatDoorW.PrintLast Go.Proofs.YtaememmnhmebcaaGreatDoorW.PrintMore
attribute [local go_sem] max2_int min2_int max_two min_two max_three min_three max_four min_four   -- for this text's walks alone
def errW:Option Int→Value
 | none=>.nilIface
 | some c=>.iface 0 (.int .i64 c)
theorem errW_none:errW none=.nilIface:=rfl
theorem errW_some (c:Int):errW (some c)=.iface 0 (.int .i64 c):=rfl
theorem info5:(Tryz.prog.info? 5).map (fun i=>(i.zero,i.size,i.bytes))=some (some (.int .u8 0),1,1):=by kernel_rfl
theorem info9:(Tryz.prog.info? 9).map (fun i=>(i.zero,i.size,i.bytes))=some (some (.string ⟨#[]⟩),1,16):=by kernel_rfl
theorem info46:(Tryz.prog.info? 46).map (fun i=>(i.zero,i.size,i.bytes))=some (some (.agg #[(.string ⟨#[]⟩),(.slice none 0 0)]),2,40):=by kernel_rfl
theorem info63:(Tryz.prog.info? 63).map (fun i=>(i.zero,i.size,i.bytes))=some (some (.agg #[(.int .i64 0),(.string ⟨#[]⟩),(.int .i64 0),(.int .i64 0),(.string ⟨#[]⟩)]),5,56):=by kernel_rfl
theorem info77:(Tryz.prog.info? 77).map (fun i=>(i.zero,i.size,i.bytes))=some (some (.agg #[(.slice none 0 0)]),1,24):=by kernel_rfl
structure S54 where
 f0:Int
 f1:ByteArray
 f2:Int
 f3:Int
 f4:ByteArray
def z54:S54:=⟨(0:Int),(⟨#[]⟩:ByteArray),(0:Int),(0:Int),(⟨#[]⟩:ByteArray)⟩
def k54:Kd S54:=Kd.iso (Kd.pair (Kd.int .i64) (Kd.pair Kd.string (Kd.pair (Kd.int .i64) (Kd.pair (Kd.int .i64) Kd.string)))) (fun x:S54=>(x.f0,x.f1,x.f2,x.f3,x.f4))
theorem k54_open {w:World} {x:S54} {cs:List Value} (h:k54.K w x cs):cs=[.int .i64 x.f0,.string x.f1,.int .i64 x.f2,.int .i64 x.f3,.string x.f4]:=by
 obtain ⟨_,_,rfl,rfl,⟨_,_,rfl,rfl,⟨_,_,rfl,rfl,⟨_,_,rfl,rfl,rfl⟩⟩⟩⟩:=h
 exact rfl
def rd_T54 (xs:List S54) (i:Int):S54:=xs.getD i.toNat z54
theorem at_T54 {w:World} {A:Option Addr} {n:Nat} {xs:List S54} (h:Kd.C k54 w A n xs) (i:Int) (h0:0≤i) (h1:i<n):∃ ad ,A=some ad∧w.cell? (ad.add (i.toNat * 5))=some (.int .i64 (rd_T54 xs i).f0)∧w.cell? ⟨(ad.add (i.toNat * 5)).block,(ad.add (i.toNat * 5)).off+1,none⟩=some (.string (rd_T54 xs i).f1)∧w.cell? ⟨(ad.add (i.toNat * 5)).block,(ad.add (i.toNat * 5)).off+2,none⟩=some (.int .i64 (rd_T54 xs i).f2)∧w.cell? ⟨(ad.add (i.toNat * 5)).block,(ad.add (i.toNat * 5)).off+3,none⟩=some (.int .i64 (rd_T54 xs i).f3)∧w.cell? ⟨(ad.add (i.toNat * 5)).block,(ad.add (i.toNat * 5)).off+4,none⟩=some (.string (rd_T54 xs i).f4):=by
 obtain ⟨ad,c,e,_,hK,hc0⟩:=Kd.C_get h z54 i h0 h1;have hc:∀ j u,c[j]? = some u→w.cell? (ad.add (i.toNat * 5+j))=some u:=hc0;obtain rfl:=k54_open hK
 exact ⟨ad,e,hc 0 _ rfl,by rw [← add_field _ _ 1 (by omega)];exact hc 1 _ rfl,by rw [← add_field _ _ 2 (by omega)];exact hc 2 _ rfl,by rw [← add_field _ _ 3 (by omega)];exact hc 3 _ rfl,by rw [← add_field _ _ 4 (by omega)];exact hc 4 _ rfl⟩
structure S63 where
 f0:Int
 f1:ByteArray
 f2:Int
 f3:Int
 f4:ByteArray
def z63:S63:=⟨(0:Int),(⟨#[]⟩:ByteArray),(0:Int),(0:Int),(⟨#[]⟩:ByteArray)⟩
def k63:Kd S63:=Kd.iso (Kd.pair (Kd.int .i64) (Kd.pair Kd.string (Kd.pair (Kd.int .i64) (Kd.pair (Kd.int .i64) Kd.string)))) (fun x:S63=>(x.f0,x.f1,x.f2,x.f3,x.f4))
theorem k63_heap:Kd.Heap k63:=Kd.heap_iso _ (Kd.heap_pair (Kd.heap_int .i64) (Kd.heap_pair Kd.heap_string (Kd.heap_pair (Kd.heap_int .i64) (Kd.heap_pair (Kd.heap_int .i64) Kd.heap_string))))
theorem k63_open {w:World} {x:S63} {cs:List Value} (h:k63.K w x cs):cs=[.int .i64 x.f0,.string x.f1,.int .i64 x.f2,.int .i64 x.f3,.string x.f4]:=by
 obtain ⟨_,_,rfl,rfl,⟨_,_,rfl,rfl,⟨_,_,rfl,rfl,⟨_,_,rfl,rfl,rfl⟩⟩⟩⟩:=h
 exact rfl
theorem k63_openM {w:World} {base:Nat} {ok:Nat→Prop} {x:S63} {cs:List Value} (h:k63.M w base ok x cs):cs=[.int .i64 x.f0,.string x.f1,.int .i64 x.f2,.int .i64 x.f3,.string x.f4]:=by
 obtain ⟨_,_,rfl,rfl,⟨_,_,rfl,rfl,⟨_,_,rfl,rfl,⟨_,_,rfl,rfl,rfl⟩⟩⟩⟩:=h
 exact rfl
theorem k63_mkM (w:World) (base:Nat) (ok:Nat→Prop) (x:S63)  : k63.M w base ok x [.int .i64 x.f0,.string x.f1,.int .i64 x.f2,.int .i64 x.f3,.string x.f4]:=⟨[.int .i64 x.f0],[.string x.f1,.int .i64 x.f2,.int .i64 x.f3,.string x.f4],rfl,rfl,⟨[.string x.f1],[.int .i64 x.f2,.int .i64 x.f3,.string x.f4],rfl,rfl,⟨[.int .i64 x.f2],[.int .i64 x.f3,.string x.f4],rfl,rfl,⟨[.int .i64 x.f3],[.string x.f4],rfl,rfl,rfl⟩⟩⟩⟩
def rd_T63 (xs:List S63) (i:Int):S63:=xs.getD i.toNat z63
theorem at_T63 {w:World} {A:Option Addr} {n:Nat} {xs:List S63} (h:Kd.C k63 w A n xs) (i:Int) (h0:0≤i) (h1:i<n):∃ ad ,A=some ad∧w.cell? (ad.add (i.toNat * 5))=some (.int .i64 (rd_T63 xs i).f0)∧w.cell? ⟨(ad.add (i.toNat * 5)).block,(ad.add (i.toNat * 5)).off+1,none⟩=some (.string (rd_T63 xs i).f1)∧w.cell? ⟨(ad.add (i.toNat * 5)).block,(ad.add (i.toNat * 5)).off+2,none⟩=some (.int .i64 (rd_T63 xs i).f2)∧w.cell? ⟨(ad.add (i.toNat * 5)).block,(ad.add (i.toNat * 5)).off+3,none⟩=some (.int .i64 (rd_T63 xs i).f3)∧w.cell? ⟨(ad.add (i.toNat * 5)).block,(ad.add (i.toNat * 5)).off+4,none⟩=some (.string (rd_T63 xs i).f4):=by
 obtain ⟨ad,c,e,_,hK,hc0⟩:=Kd.C_get h z63 i h0 h1;have hc:∀ j u,c[j]? = some u→w.cell? (ad.add (i.toNat * 5+j))=some u:=hc0;obtain rfl:=k63_open hK
 exact ⟨ad,e,hc 0 _ rfl,by rw [← add_field _ _ 1 (by omega)];exact hc 1 _ rfl,by rw [← add_field _ _ 2 (by omega)];exact hc 2 _ rfl,by rw [← add_field _ _ 3 (by omega)];exact hc 3 _ rfl,by rw [← add_field _ _ 4 (by omega)];exact hc 4 _ rfl⟩
structure S77 where
 f0:(List ByteArray)
def z77:S77:=⟨([]:List ByteArray)⟩
def k77:Kd S77:=Kd.iso (Kd.slice 9 Kd.string) (fun x:S77=>x.f0)
theorem k77_open {w:World} {x:S77} {cs:List Value} (h:k77.K w x cs):∃ A0 c0,cs=[.slice A0 x.f0.length c0]∧x.f0.length≤c0∧Kd.string.C w A0 x.f0.length x.f0:=by
 obtain ⟨A0,c0,rfl,l0,g0⟩:=h
 exact ⟨A0,c0,rfl,l0,g0⟩
theorem k77_openM {w:World} {base:Nat} {ok:Nat→Prop} {x:S77} {cs:List Value} (h:k77.M w base ok x cs):∃ v0,cs=[v0]∧Kd.string.R 9 w base ok v0 x.f0:=by
 obtain ⟨v0,rfl,g0⟩:=h
 exact ⟨v0,rfl,g0⟩
theorem k77_mkM (w:World) (base:Nat) (ok:Nat→Prop) (x:S77) {v0:Value} (g0:Kd.string.R 9 w base ok v0 x.f0):k77.M w base ok x [v0]:=⟨v0,rfl,g0⟩
def rd_T77 (xs:List S77) (i:Int):S77:=xs.getD i.toNat z77
theorem at_T77 {w:World} {A:Option Addr} {n:Nat} {xs:List S77} (h:Kd.C k77 w A n xs) (i:Int) (h0:0≤i) (h1:i<n):∃ ad A0 c0,A=some ad∧w.cell? (ad.add i.toNat)=some (.slice A0 (rd_T77 xs i).f0.length c0)∧(rd_T77 xs i).f0.length≤c0∧Kd.string.C w A0 (rd_T77 xs i).f0.length (rd_T77 xs i).f0:=by
 obtain ⟨ad,c,e,_,hK,hc0⟩:=Kd.C_get h z77 i h0 h1;have hc:∀ j u,c[j]? = some u→w.cell? (ad.add (i.toNat * 1+j))=some u:=hc0;obtain ⟨A0,c0,rfl,l0,g0⟩:=k77_open hK
 exact ⟨ad,A0,c0,e,by have hq:=hc 0 _ rfl;rwa [Nat.mul_one,Nat.add_zero] at hq,l0,g0⟩
structure S46 where
 f0:ByteArray
 f1:(List S77)
def z46:S46:=⟨(⟨#[]⟩:ByteArray),([]:List S77)⟩
def k46:Kd S46:=Kd.iso (Kd.pair Kd.string (Kd.slice 77 k77)) (fun x:S46=>(x.f0,x.f1))
theorem k46_open {w:World} {x:S46} {cs:List Value} (h:k46.K w x cs):∃ A1 c1,cs=[.string x.f0,.slice A1 x.f1.length c1]∧x.f1.length≤c1∧k77.C w A1 x.f1.length x.f1:=by
 obtain ⟨_,_,rfl,rfl,⟨A1,c1,rfl,l1,g1⟩⟩:=h
 exact ⟨A1,c1,rfl,l1,g1⟩
theorem k46_mk (w:World) (x:S46) {A1:Option Addr} {c1:Nat} (l1:x.f1.length≤c1) (g1:k77.C w A1 x.f1.length x.f1):k46.K w x [.string x.f0,.slice A1 x.f1.length c1]:=⟨[.string x.f0],[.slice A1 x.f1.length c1],rfl,rfl,⟨A1,c1,rfl,l1,g1⟩⟩
theorem k46_mkM (w:World) (base:Nat) (ok:Nat→Prop) (x:S46) {v1:Value} (g1:k77.R 77 w base ok v1 x.f1):k46.M w base ok x [.string x.f0,v1]:=⟨[.string x.f0],[v1],rfl,rfl,⟨v1,rfl,g1⟩⟩
theorem k46_openF {W:World} {ok:Nat→Prop} {x:S46} {cs:List Value} (h:Kd.FK k46 W ok x cs):∃ A1 c1,cs=[.string x.f0,.slice A1 x.f1.length c1]∧x.f1.length≤c1∧Kd.F k77 W ok A1 x.f1.length x.f1:=by
 obtain ⟨A1,c1,rfl,l1,_⟩:=k46_open (Kd.FK_now h)
 exact ⟨A1,c1,rfl,l1,(fun W' hW=>by obtain ⟨A1_,c1_,he,l1_,g1_⟩:=k46_open (h W' hW);injection (Option.some.inj (show some (Value.slice A1 x.f1.length c1)=some (Value.slice A1_ x.f1.length c1_) from congrArg (fun l=>l[1]?) he)) with ha_ _ _;rw [ha_];exact g1_)⟩
theorem k46_mkF (W:World) (ok:Nat→Prop) (x:S46) {A1:Option Addr} {c1:Nat} (l1:x.f1.length≤c1) (g1:Kd.F k77 W ok A1 x.f1.length x.f1):Kd.FK k46 W ok x [.string x.f0,.slice A1 x.f1.length c1]:=fun W2 hW=>k46_mk W2 x l1 (g1 W2 hW)
def rd_T46 (xs:List S46) (i:Int):S46:=xs.getD i.toNat z46
theorem at_T46 {w:World} {A:Option Addr} {n:Nat} {xs:List S46} (h:Kd.C k46 w A n xs) (i:Int) (h0:0≤i) (h1:i<n):∃ ad A1 c1,A=some ad∧w.cell? (ad.add (i.toNat * 2))=some (.string (rd_T46 xs i).f0)∧w.cell? ⟨(ad.add (i.toNat * 2)).block,(ad.add (i.toNat * 2)).off+1,none⟩=some (.slice A1 (rd_T46 xs i).f1.length c1)∧(rd_T46 xs i).f1.length≤c1∧k77.C w A1 (rd_T46 xs i).f1.length (rd_T46 xs i).f1:=by
 obtain ⟨ad,c,e,_,hK,hc0⟩:=Kd.C_get h z46 i h0 h1;have hc:∀ j u,c[j]? = some u→w.cell? (ad.add (i.toNat * 2+j))=some u:=hc0;obtain ⟨A1,c1,rfl,l1,g1⟩:=k46_open hK
 exact ⟨ad,A1,c1,e,hc 0 _ rfl,by rw [← add_field _ _ 1 (by omega)];exact hc 1 _ rfl,l1,g1⟩
structure S87 where
 f0:ByteArray
 f1:Int
 f2:Int
 f3:ByteArray
def z87:S87:=⟨(⟨#[]⟩:ByteArray),(0:Int),(0:Int),(⟨#[]⟩:ByteArray)⟩
def k87:Kd S87:=Kd.iso (Kd.pair Kd.string (Kd.pair (Kd.int .i64) (Kd.pair (Kd.int .i64) Kd.string))) (fun x:S87=>(x.f0,x.f1,x.f2,x.f3))
theorem k87_open {w:World} {x:S87} {cs:List Value} (h:k87.K w x cs):cs=[.string x.f0,.int .i64 x.f1,.int .i64 x.f2,.string x.f3]:=by
 obtain ⟨_,_,rfl,rfl,⟨_,_,rfl,rfl,⟨_,_,rfl,rfl,rfl⟩⟩⟩:=h
 exact rfl
theorem k87_mkM (w:World) (base:Nat) (ok:Nat→Prop) (x:S87)  : k87.M w base ok x [.string x.f0,.int .i64 x.f1,.int .i64 x.f2,.string x.f3]:=⟨[.string x.f0],[.int .i64 x.f1,.int .i64 x.f2,.string x.f3],rfl,rfl,⟨[.int .i64 x.f1],[.int .i64 x.f2,.string x.f3],rfl,rfl,⟨[.int .i64 x.f2],[.string x.f3],rfl,rfl,rfl⟩⟩⟩
def rd_T87 (xs:List S87) (i:Int):S87:=xs.getD i.toNat z87
theorem at_T87 {w:World} {A:Option Addr} {n:Nat} {xs:List S87} (h:Kd.C k87 w A n xs) (i:Int) (h0:0≤i) (h1:i<n):∃ ad ,A=some ad∧w.cell? (ad.add (i.toNat * 4))=some (.string (rd_T87 xs i).f0)∧w.cell? ⟨(ad.add (i.toNat * 4)).block,(ad.add (i.toNat * 4)).off+1,none⟩=some (.int .i64 (rd_T87 xs i).f1)∧w.cell? ⟨(ad.add (i.toNat * 4)).block,(ad.add (i.toNat * 4)).off+2,none⟩=some (.int .i64 (rd_T87 xs i).f2)∧w.cell? ⟨(ad.add (i.toNat * 4)).block,(ad.add (i.toNat * 4)).off+3,none⟩=some (.string (rd_T87 xs i).f3):=by
 obtain ⟨ad,c,e,_,hK,hc0⟩:=Kd.C_get h z87 i h0 h1;have hc:∀ j u,c[j]? = some u→w.cell? (ad.add (i.toNat * 4+j))=some u:=hc0;obtain rfl:=k87_open hK
 exact ⟨ad,e,hc 0 _ rfl,by rw [← add_field _ _ 1 (by omega)];exact hc 1 _ rfl,by rw [← add_field _ _ 2 (by omega)];exact hc 2 _ rfl,by rw [← add_field _ _ 3 (by omega)];exact hc 3 _ rfl⟩
structure S25 where
 f0:Int
 f1:ByteArray
 f2:ByteArray
 f3:Int
 f4:(List ByteArray)
 f5:(List S54)
def k25:Kd S25:=Kd.iso (Kd.pair (Kd.int .i64) (Kd.pair Kd.string (Kd.pair Kd.string (Kd.pair (Kd.int .i64) (Kd.pair (Kd.slice 9 Kd.string) (Kd.slice 54 k54)))))) (fun x:S25=>(x.f0,x.f1,x.f2,x.f3,x.f4,x.f5))
theorem k25_open {w:World} {x:S25} {cs:List Value} (h:k25.K w x cs):∃ A4 c4 A5 c5,cs=[.int .i64 x.f0,.string x.f1,.string x.f2,.int .i64 x.f3,.slice A4 x.f4.length c4,.slice A5 x.f5.length c5]∧x.f4.length≤c4∧Kd.string.C w A4 x.f4.length x.f4∧x.f5.length≤c5∧k54.C w A5 x.f5.length x.f5:=by
 obtain ⟨_,_,rfl,rfl,⟨_,_,rfl,rfl,⟨_,_,rfl,rfl,⟨_,_,rfl,rfl,⟨_,_,rfl,⟨A4,c4,rfl,l4,g4⟩,⟨A5,c5,rfl,l5,g5⟩⟩⟩⟩⟩⟩:=h
 exact ⟨A4,c4,A5,c5,rfl,l4,g4,l5,g5⟩
def kA46:Kd S46 where
 sz:=k46.sz
 E:=77 :: k77.E
 K:=k46.K
 M:=fun w base ok x cs=>∃ v,cs=[.string x.f0,v]∧Kd.S k77 77 w base ok v x.f1
 K_len:=k46.K_len
 K_one:=k46.K_one
 K_below:=k46.K_below
 K_of_M:=fun ⟨_,e,h⟩=>by subst e;exact k46.K_of_M (k46_mkM _ _ _ _ (Kd.S_R h))
 M_mono:=fun hk ⟨v,e,h⟩=>⟨v,e,Kd.S_mono h hk⟩
 M_bound:=fun ⟨v,e,h⟩=>⟨v,e,Kd.S_bound h⟩
 M_move:=fun hm ⟨v,e,h⟩=>⟨v,e,Kd.S_move h hm⟩
 M_lower:=fun hb ⟨v,e,h⟩=>⟨v,e,Kd.S_lower h hb⟩
theorem kA46_N {W:World} {base e:Nat} {ok:Nat→Prop} {v:Value} {xs:List S46} (h:Kd.S kA46 e W base ok v xs):Kd.N k46 e W base ok v xs:=(Kd.S_N h:Kd.N kA46 e W base ok v xs)
theorem S_eldT {α:Type} {d:Kd α} {e base:Nat} {ok:Nat→Prop} {W w1:World} {u v:Value} {xs:List α} (h:Kd.S d e W base ok v xs) (hbase:∀ k,u.ownBlock=some k→W.heap.size≤k) (hb:Below W.heap.size W w1):Kd.S d e w1 base (fun k=>(ok k∧some k≠u.ownBlock)∧k<W.heap.size) v xs :=
 Kd.S_mono (Kd.S_below (Kd.S_bound h) hb) (fun k hk=>⟨⟨hk.1,fun he=>by have:=hbase k he.symm;have:=hk.2.2.1;omega⟩,hk.2.2.1⟩)
def laws_szStringS.l0:Nat→List ByteArray→Int→Int→Option (Int)
 | 0,_,_,_=>none
 | k+1,x0,x1,x5=>if x5<(x0.length:Int) then (if 0≤x5 then (if (wrap64 (x1 - ((rdOf ByteArray.empty x0 x5).size:Int)))<0 then (some (-1)) else (laws_szStringS.l0 k x0 (wrap64 (x1 - ((rdOf ByteArray.empty x0 x5).size:Int))) (wrap64 (x5+1)))) else (none)) else (some x1)
def laws_szStringS.f (k:Nat) (l0:List ByteArray) (a1:Int):Option (Int):=if (wrap64 (a1 - (l0.length:Int)))<0 then (some (-1)) else (laws_szStringS.l0 k l0 (wrap64 (a1 - (l0.length:Int))) 0)
def laws_szLine.f (a0_0:Int) (a0_1:ByteArray) (a0_2:Int) (a0_3:Int) (a0_4:ByteArray) (a1:Int):Option (Int):=if (wrap64 (a1 - (a0_1.size:Int)))<0 then (some (-1)) else (if (wrap64 ((wrap64 (a1 - (a0_1.size:Int))) - (a0_4.size:Int)))<0 then (some (-1)) else (some (wrap64 ((wrap64 (a1 - (a0_1.size:Int))) - (a0_4.size:Int)))))
def laws_szLineS.l0:Nat→List (S54)→Int→Int→Option (Int)
 | 0,_,_,_=>none
 | k+1,x0,x1,x5=>if x5<(x0.length:Int) then (if 0≤x5 then ((laws_szLine.f ((rd_T54 x0 x5).f0) ((rd_T54 x0 x5).f1) ((rd_T54 x0 x5).f2) ((rd_T54 x0 x5).f3) ((rd_T54 x0 x5).f4) x1).bind fun t104=>(if t104<0 then (some (-1)) else (laws_szLineS.l0 k x0 t104 (wrap64 (x5+1))))) else (none)) else (some x1)
def laws_szLineS.f (k:Nat) (l0:List (S54)) (a1:Int):Option (Int):=if (wrap64 (a1 - (l0.length:Int)))<0 then (some (-1)) else (laws_szLineS.l0 k l0 (wrap64 (a1 - (l0.length:Int))) 0)
def laws_szPaper.f (k:Nat) (a0_0:Int) (a0_1:ByteArray) (a0_2:ByteArray) (a0_3:Int) (l0_4:List ByteArray) (l0_5:List (S54)) (a1:Int):Option (Int):=if (wrap64 (a1 - (a0_1.size:Int)))<0 then (some (-1)) else (if (wrap64 ((wrap64 (a1 - (a0_1.size:Int))) - (a0_2.size:Int)))<0 then (some (-1)) else ((laws_szStringS.f k l0_4 (wrap64 ((wrap64 (a1 - (a0_1.size:Int))) - (a0_2.size:Int)))).bind fun t106=>(if t106<0 then (some (-1)) else ((laws_szLineS.f k l0_5 t106).bind fun t107=>(if t107<0 then (some (-1)) else (some t107))))))
def laws_toStringS.l0:Nat→List ByteArray→List ByteArray→Int→Option (List ByteArray)
 | 0,_,_,_=>none
 | k+1,x0,x3,x4=>if x4<(x0.length:Int) then (if 0≤x4 then (if x4<(x3.length:Int) then (laws_toStringS.l0 k x0 (x3.set (x4:Int).toNat (rdOf ByteArray.empty x0 x4)) (wrap64 (x4+1))) else (none)) else (none)) else (some x3)
def laws_toStringS.f (k:Nat) (l0:List ByteArray):Option (List ByteArray):=if 0≤(l0.length:Int) then (if ((l0.length:Int):Int).toNat≤17592186044416 then (laws_toStringS.l0 k l0 (List.replicate ((l0.length:Int):Int).toNat (⟨#[]⟩:ByteArray)) 0) else (none)) else (none)
def laws_toLine.f (a0_0:Int) (a0_1:ByteArray) (a0_2:Int) (a0_3:Int) (a0_4:ByteArray):Option (Int × ByteArray × Int × Int × ByteArray):=some (a0_0,a0_1,a0_2,a0_3,a0_4)
def laws_toLineS.l0:Nat→List S54→List S63→Int→Option (List S63)
 | 0,_,_,_=>none
 | k+1,x0,x3,x4=>if x4<(x0.length:Int) then (if 0≤x4 then ((laws_toLine.f ((rd_T54 x0 x4).f0) ((rd_T54 x0 x4).f1) ((rd_T54 x0 x4).f2) ((rd_T54 x0 x4).f3) ((rd_T54 x0 x4).f4)).bind fun bt=>(if x4<(x3.length:Int) then (laws_toLineS.l0 k x0 (x3.set (x4:Int).toNat (⟨bt.1,bt.2.1,bt.2.2.1,bt.2.2.2.1,bt.2.2.2.2⟩:S63)) (wrap64 (x4+1))) else (none))) else (none)) else (some x3)
def laws_toLineS.f (k:Nat) (l0:List S54):Option (List S63):=if 0≤(l0.length:Int) then (if ((l0.length:Int):Int).toNat≤5026338869833 then (laws_toLineS.l0 k l0 (List.replicate ((l0.length:Int):Int).toNat z63) 0) else (none)) else (none)
def laws_toPaper.f (k:Nat) (a0_0:Int) (a0_1:ByteArray) (a0_2:ByteArray) (a0_3:Int) (l0_4:List ByteArray) (l0_5:List (S54)):Option (Int × ByteArray × ByteArray × Int × List ByteArray × (List (S63))):=(laws_toStringS.f k l0_4).bind fun t119=>((laws_toLineS.f k l0_5).bind fun t122=>(some (a0_0,a0_1,a0_2,a0_3,t119,t122)))
def spec_l01Dec.l0:Nat→Int→Bool→ByteArray→Option (ByteArray)
 | 0,_,_,_=>none
 | k+1,x0,x3,x4=>if x0=0 then (if x3=true then (if 1+x4.size≤9223372036854775807 then (some ((⟨#[45]⟩:ByteArray)++x4)) else (none)) else (some x4)) else (if (Int.tmod x0 10)<0 then ((some (([(wrap64 (48+(wrap64 (-(Int.tmod x0 10))))) % 256]:List Int):List Int)).bind fun y125=>(if (strOfNums y125).size+x4.size≤9223372036854775807 then (spec_l01Dec.l0 k (wrap64 (Int.tdiv x0 10)) x3 ((strOfNums y125)++x4)) else (none))) else ((some (([(wrap64 (48+(Int.tmod x0 10))) % 256]:List Int):List Int)).bind fun y128=>(if (strOfNums y128).size+x4.size≤9223372036854775807 then (spec_l01Dec.l0 k (wrap64 (Int.tdiv x0 10)) x3 ((strOfNums y128)++x4)) else (none))))
def spec_l01Dec.f (k:Nat) (a0:Int):Option (ByteArray):=if a0=0 then (some (⟨#[48]⟩:ByteArray)) else (spec_l01Dec.l0 k a0 (decide (a0<0)) (⟨#[]⟩:ByteArray))
def spec_l05Has.f (a0:Int):Option (Bool):=if a0=2 then (some true) else (if a0=3 then (some true) else (some (a0 == 4)))
def spec_l03Seg.l0:Nat→List ByteArray→Int→ByteArray→List (S77)→Option (ByteArray × (List (S77)))
 | 0,_,_,_,_=>none
 | k+1,x1,x6,x133000,x133001=>if x6<(x1.length:Int) then (if 0≤x6 then (if x133001.length<5864062014805 then (spec_l03Seg.l0 k x1 (wrap64 (x6+1)) x133000 (x133001++[(⟨(([rdOf ByteArray.empty x1 x6]:List ByteArray))⟩:S77)])) else (none)) else (none)) else (some (x133000,x133001))
def spec_l03Seg.f (k:Nat) (a0:ByteArray) (l1:List ByteArray):Option (ByteArray × (List (S77))):=spec_l03Seg.l0 k l1 0 a0 ([]:List (S77))
mutual
def spec_l05Line.j0:Nat→Int→List ByteArray→Int→ByteArray→Int→Int→ByteArray→Option (ByteArray × (List (S77)))
 | 0,_,_,_,_,_,_,_=>none
 | k+1,x0,x5,x141000,x141001,x141002,x141003,x141004=>if x141004.toList=([]:List UInt8) then (spec_l05Line.j1 k x0 x5) else (if x5.length<8796093022208 then (spec_l05Line.j1 k x0 (x5++[x141004])) else (none))
def spec_l05Line.j1:Nat→Int→List ByteArray→Option (ByteArray × (List (S77)))
 | 0,_,_=>none
 | k+1,x0,x5=>if x0=6 then ((spec_l03Seg.f k (⟨#[73,84,77]⟩:ByteArray) x5).bind fun bt199=>(some (bt199.1,bt199.2))) else ((spec_l03Seg.f k (⟨#[76,73,78]⟩:ByteArray) x5).bind fun bt203=>(some (bt203.1,bt203.2)))
end
def spec_l05Line.f (k:Nat) (a0:Int) (a1_0:Int) (a1_1:ByteArray) (a1_2:Int) (a1_3:Int) (a1_4:ByteArray):Option (ByteArray × (List (S77))):=if a0=1 then ((spec_l01Dec.f k a1_0).bind fun t145=>((spec_l01Dec.f k a1_2).bind fun t146=>((some (([t145,a1_1,t146]:List ByteArray):List ByteArray)).bind fun y147=>(if a1_3=0 then ((spec_l03Seg.f k (⟨#[76,73,78]⟩:ByteArray) y147).bind fun bt150=>(some (bt150.1,bt150.2))) else ((spec_l01Dec.f k a1_3).bind fun t154=>(if y147.length<8796093022208 then ((spec_l03Seg.f k (⟨#[76,73,78]⟩:ByteArray) (y147++[t154])).bind fun bt158=>(some (bt158.1,bt158.2))) else (none))))))) else (if a0=5 then ((spec_l01Dec.f k a1_2).bind fun t162=>((spec_l03Seg.f k (⟨#[73,84,77]⟩:ByteArray) (([a1_1,t162]:List ByteArray))).bind fun bt166=>(some (bt166.1,bt166.2)))) else (if a0=7 then ((spec_l01Dec.f k a1_0).bind fun t170=>((spec_l01Dec.f k a1_2).bind fun t171=>((some (([t170,t171]:List ByteArray):List ByteArray)).bind fun y172=>(if a1_3=0 then ((spec_l03Seg.f k (⟨#[65,67,75]⟩:ByteArray) y172).bind fun bt175=>(some (bt175.1,bt175.2))) else ((spec_l01Dec.f k a1_3).bind fun t179=>(if y172.length<8796093022208 then ((spec_l03Seg.f k (⟨#[65,67,75]⟩:ByteArray) (y172++[t179])).bind fun bt183=>(some (bt183.1,bt183.2))) else (none))))))) else (if a0=6 then ((spec_l01Dec.f k a1_2).bind fun t187=>(spec_l05Line.j0 k a0 (([a1_1,t187]:List ByteArray)) a1_0 a1_1 a1_2 a1_3 a1_4)) else ((spec_l01Dec.f k a1_0).bind fun t191=>((spec_l01Dec.f k a1_2).bind fun t192=>(spec_l05Line.j0 k a0 (([t191,t192]:List ByteArray)) a1_0 a1_1 a1_2 a1_3 a1_4))))))
mutual
def spec_l05Body.j0:Nat→List ByteArray→Int→ByteArray→ByteArray→Int→List ByteArray→List (S63)→Option ((List (S46)))
 | 0,_,_,_,_,_,_,_=>none
 | k+1,x3,x208000,x208001,x208002,x208003,x208004,x208005=>(spec_l03Seg.f k (⟨#[68,79,67]⟩:ByteArray) x3).bind fun bt217=>(spec_l05Body.l0 k (([(⟨bt217.1,bt217.2⟩:S46)]:List (S46))) 0 x208000 x208001 x208002 x208003 x208004 x208005)
def spec_l05Body.l0:Nat→List (S46)→Int→Int→ByteArray→ByteArray→Int→List ByteArray→List (S63)→Option ((List (S46)))
 | 0,_,_,_,_,_,_,_,_=>none
 | k+1,x4,x5,x208000,x208001,x208002,x208003,x208004,x208005=>if x5<(x208004.length:Int) then (if 0≤x5 then ((spec_l03Seg.f k (⟨#[78,79,84]⟩:ByteArray) (([rdOf ByteArray.empty x208004 x5]:List ByteArray))).bind fun bt228=>(if x4.length<3518437208883 then (spec_l05Body.l0 k (x4++[(⟨bt228.1,bt228.2⟩:S46)]) (wrap64 (x5+1)) x208000 x208001 x208002 x208003 x208004 x208005) else (none))) else (none)) else (spec_l05Body.l1 k x4 0 x208000 x208001 x208002 x208003 x208004 x208005)
def spec_l05Body.l1:Nat→List (S46)→Int→Int→ByteArray→ByteArray→Int→List ByteArray→List (S63)→Option ((List (S46)))
 | 0,_,_,_,_,_,_,_,_=>none
 | k+1,x4,x6,x208000,x208001,x208002,x208003,x208004,x208005=>if x6<(x208005.length:Int) then (if 0≤x6 then ((spec_l05Line.f k x208000 ((rd_T63 x208005 x6).f0) ((rd_T63 x208005 x6).f1) ((rd_T63 x208005 x6).f2) ((rd_T63 x208005 x6).f3) ((rd_T63 x208005 x6).f4)).bind fun bt236=>(if x4.length<3518437208883 then (spec_l05Body.l1 k (x4++[(⟨bt236.1,bt236.2⟩:S46)]) (wrap64 (x6+1)) x208000 x208001 x208002 x208003 x208004 x208005) else (none))) else (none)) else (some x4)
end
def spec_l05Body.f (k:Nat) (a0_0:Int) (a0_1:ByteArray) (a0_2:ByteArray) (a0_3:Int) (l0_4:List ByteArray) (l0_5:List (S63)):Option ((List (S46))):=(spec_l01Dec.f k a0_3).bind fun t208=>((spec_l05Has.f a0_0).bind fun t212=>(if t212=true then ((spec_l01Dec.f k a0_3).bind fun t213=>(spec_l05Body.j0 k (([a0_1,a0_2,t213]:List ByteArray)) a0_0 a0_1 a0_2 a0_3 l0_4 l0_5)) else (spec_l05Body.j0 k (([a0_1,t208]:List ByteArray)) a0_0 a0_1 a0_2 a0_3 l0_4 l0_5)))
def spec_l02Tag.l0:Nat→ByteArray→Int→Option (Bool)
 | 0,_,_=>none
 | k+1,x0,x3=>if x3<3 then (if 0≤x3 then (if x3<(x0.size:Int) then (if (bt x0 x3)<65 then (some false) else (if (bt x0 x3)>90 then (some false) else (spec_l02Tag.l0 k x0 (wrap64 (x3+1))))) else (none)) else (none)) else (some true)
def spec_l02Tag.f (k:Nat) (a0:ByteArray):Option (Bool):=if (a0.size:Int)=3 then (spec_l02Tag.l0 k a0 0) else (some false)
def spec_l02Part.l0:Nat→ByteArray→Int→Option (Bool)
 | 0,_,_=>none
 | k+1,x0,x3=>if x3<(x0.size:Int) then (if 0≤x3 then (if (bt x0 x3)<32 then (some false) else (if (bt x0 x3)>126 then (some false) else (spec_l02Part.l0 k x0 (wrap64 (x3+1))))) else (none)) else (some true)
def spec_l02Part.f (k:Nat) (a0:ByteArray):Option (Bool):=if (a0.size:Int)>40 then (some false) else (spec_l02Part.l0 k a0 0)
def spec_l02Empty.f (l0_0:List ByteArray):Option (Bool):=if (l0_0.length:Int)=1 then (if 0<(l0_0.length:Int) then (some ((rdOf ByteArray.empty l0_0 0).toList == ([]:List UInt8))) else (none)) else (some false)
mutual
def spec_SegmentRight.j0:Nat→Bool→ByteArray→List (S77)→Option (Bool)
 | 0,_,_,_=>none
 | k+1,x15,x246000,x246001=>if x15=true then (some false) else (spec_SegmentRight.l0 k 0 x246000 x246001)
def spec_SegmentRight.l0:Nat→Int→ByteArray→List (S77)→Option (Bool)
 | 0,_,_,_=>none
 | k+1,x3,x246000,x246001=>if x3<(x246001.length:Int) then (if 0≤x3 then (if (((rd_T77 x246001 x3).f0).length:Int)<1 then (spec_SegmentRight.j2 k x3 ((rd_T77 x246001 x3).f0) true x246000 x246001) else (if (((rd_T77 x246001 x3).f0).length:Int)>4 then (spec_SegmentRight.j2 k x3 ((rd_T77 x246001 x3).f0) true x246000 x246001) else (if (((rd_T77 x246001 x3).f0).length:Int)>1 then (if 0≤(wrap64 ((((rd_T77 x246001 x3).f0).length:Int) - 1)) then (if (wrap64 ((((rd_T77 x246001 x3).f0).length:Int) - 1))<(((rd_T77 x246001 x3).f0).length:Int) then (spec_SegmentRight.j2 k x3 ((rd_T77 x246001 x3).f0) ((rdOf ByteArray.empty ((rd_T77 x246001 x3).f0) (wrap64 ((((rd_T77 x246001 x3).f0).length:Int) - 1))).toList == ([]:List UInt8)) x246000 x246001) else (none)) else (none)) else (spec_SegmentRight.j2 k x3 ((rd_T77 x246001 x3).f0) false x246000 x246001)))) else (none)) else (if (x246001.length:Int)=0 then (some true) else (if 0≤(wrap64 ((x246001.length:Int) - 1)) then (if (wrap64 ((x246001.length:Int) - 1))<(x246001.length:Int) then ((spec_l02Empty.f ((rd_T77 x246001 (wrap64 ((x246001.length:Int) - 1))).f0)).bind fun t248=>(some (!t248))) else (none)) else (none)))
def spec_SegmentRight.j2:Nat→Int→List ByteArray→Bool→ByteArray→List (S77)→Option (Bool)
 | 0,_,_,_,_,_=>none
 | k+1,x3,x4,x50,x246000,x246001=>if x50=true then (some false) else (spec_SegmentRight.l1 k x3 x4 0 x246000 x246001)
def spec_SegmentRight.l1:Nat→Int→List ByteArray→Int→ByteArray→List (S77)→Option (Bool)
 | 0,_,_,_,_,_=>none
 | k+1,x3,x4,x5,x246000,x246001=>if x5<(x4.length:Int) then (if 0≤x5 then ((spec_l02Part.f k (rdOf ByteArray.empty x4 x5)).bind fun t252=>(if t252=true then (spec_SegmentRight.l1 k x3 x4 (wrap64 (x5+1)) x246000 x246001) else (some false))) else (none)) else (spec_SegmentRight.l0 k (wrap64 (x3+1)) x246000 x246001)
end
def spec_SegmentRight.f (k:Nat) (a0_0:ByteArray) (l0_1:List (S77)):Option (Bool):=(spec_l02Tag.f k a0_0).bind fun t246=>(if t246=true then (spec_SegmentRight.j0 k (decide ((l0_1.length:Int)>10)) a0_0 l0_1) else (spec_SegmentRight.j0 k true a0_0 l0_1))
def spec_TableOf.j0:Nat→Int→Bool→ByteArray→Int→Int→ByteArray→ByteArray→Int→Int→ByteArray→ByteArray→Int→Int→ByteArray→Option ((List (S87)))
 | 0,_,_,_,_,_,_,_,_,_,_,_,_,_,_=>none
 | k+1,x9,x16,x254000,x254001,x254002,x254003,x255000,x255001,x255002,x255003,x256000,x256001,x256002,x256003=>if x16=true then (some (([(⟨x255000,x255001,x255002,x255003⟩:S87),(⟨(⟨#[76,73,78]⟩:ByteArray),1,20,(⟨#[110,113,63,116]⟩:ByteArray)⟩:S87)]:List (S87)))) else (if x9=3 then (some (([(⟨x255000,x255001,x255002,x255003⟩:S87),(⟨x256000,x256001,x256002,x256003⟩:S87),(⟨(⟨#[76,73,78]⟩:ByteArray),1,20,(⟨#[110,113]⟩:ByteArray)⟩:S87)]:List (S87)))) else (if x9=5 then (some (([(⟨x254000,x254001,x254002,x254003⟩:S87),(⟨(⟨#[73,84,77]⟩:ByteArray),1,20,(⟨#[114,110]⟩:ByteArray)⟩:S87)]:List (S87)))) else (if x9=6 then (some (([(⟨x254000,x254001,x254002,x254003⟩:S87),(⟨(⟨#[73,84,77]⟩:ByteArray),1,20,(⟨#[114,122,63,116]⟩:ByteArray)⟩:S87)]:List (S87)))) else (if x9=7 then (some (([(⟨x254000,x254001,x254002,x254003⟩:S87),(⟨(⟨#[65,67,75]⟩:ByteArray),1,1,(⟨#[110,110,63,110]⟩:ByteArray)⟩:S87)]:List (S87)))) else (some (([]:List (S87))))))))
def spec_TableOf.f (k:Nat) (a0:Int):Option ((List (S87))):=if a0=1 then (some (([(⟨(⟨#[68,79,67]⟩:ByteArray),1,1,(⟨#[114,100]⟩:ByteArray)⟩:S87),(⟨(⟨#[78,79,84]⟩:ByteArray),0,2,(⟨#[116]⟩:ByteArray)⟩:S87),(⟨(⟨#[76,73,78]⟩:ByteArray),1,20,(⟨#[110,114,113,63,110]⟩:ByteArray)⟩:S87)]:List (S87)))) else (if a0=2 then (spec_TableOf.j0 k a0 (a0 == 2) (⟨#[68,79,67]⟩:ByteArray) 1 1 (⟨#[114,100]⟩:ByteArray) (⟨#[68,79,67]⟩:ByteArray) 1 1 (⟨#[114,114,100]⟩:ByteArray) (⟨#[78,79,84]⟩:ByteArray) 0 2 (⟨#[116]⟩:ByteArray)) else (spec_TableOf.j0 k a0 (a0 == 4) (⟨#[68,79,67]⟩:ByteArray) 1 1 (⟨#[114,100]⟩:ByteArray) (⟨#[68,79,67]⟩:ByteArray) 1 1 (⟨#[114,114,100]⟩:ByteArray) (⟨#[78,79,84]⟩:ByteArray) 0 2 (⟨#[116]⟩:ByteArray)))
mutual
def spec_l01Num.j0:Nat→ByteArray→Bool→Option (Int × Bool)
 | 0,_,_=>none
 | k+1,x0,x4=>if x4=true then (if 1≤(x0.size:Int) then (spec_l01Num.j1 k x0 x4 (x0.extract 1 x0.size)) else (none)) else (spec_l01Num.j1 k x0 x4 x0)
def spec_l01Num.j1:Nat→ByteArray→Bool→ByteArray→Option (Int × Bool)
 | 0,_,_,_=>none
 | k+1,x0,x4,x5=>if (x5.size:Int)<1 then (spec_l01Num.j2 k x0 x4 x5 true) else (spec_l01Num.j2 k x0 x4 x5 (decide ((x5.size:Int)>12)))
def spec_l01Num.j2:Nat→ByteArray→Bool→ByteArray→Bool→Option (Int × Bool)
 | 0,_,_,_,_=>none
 | k+1,x0,x4,x5,x27=>if x27=true then (some (0,false)) else (spec_l01Num.l0 k x0 x4 x5 0 0)
def spec_l01Num.l0:Nat→ByteArray→Bool→ByteArray→Int→Int→Option (Int × Bool)
 | 0,_,_,_,_,_=>none
 | k+1,x0,x4,x5,x6,x7=>if x7<(x5.size:Int) then (if 0≤x7 then (if (bt x5 x7)<48 then (some (0,false)) else (if (bt x5 x7)>57 then (some (0,false)) else (spec_l01Num.l0 k x0 x4 x5 (wrap64 ((wrap64 (10 * x6))+(((bt x5 x7) - 48) % 256))) (wrap64 (x7+1))))) else (none)) else (if x4=true then ((spec_l01Dec.f k (wrap64 (-x6))).bind fun t277=>(some (wrap64 (-x6),(t277.toList == x0.toList)))) else ((spec_l01Dec.f k x6).bind fun t278=>(some (x6,(t278.toList == x0.toList)))))
end
def spec_l01Num.f (k:Nat) (a0:ByteArray):Option (Int × Bool):=if (a0.size:Int)>0 then (if 0<(a0.size:Int) then (spec_l01Num.j0 k a0 ((bt a0 0) == 45)) else (none)) else (spec_l01Num.j0 k a0 false)
mutual
def spec_l01Name.j0:Nat→ByteArray→Bool→Option (Bool)
 | 0,_,_=>none
 | k+1,x0,x22=>if x22=true then (some false) else (spec_l01Name.l0 k x0 0)
def spec_l01Name.l0:Nat→ByteArray→Int→Option (Bool)
 | 0,_,_=>none
 | k+1,x0,x3=>if x3<(x0.size:Int) then (if 0≤x3 then (if (bt x0 x3)≥65 then (if (bt x0 x3)≤90 then (spec_l01Name.l0 k x0 (wrap64 (x3+1))) else (if (bt x0 x3)≥48 then (if (bt x0 x3)≤57 then (spec_l01Name.l0 k x0 (wrap64 (x3+1))) else (if ((bt x0 x3)=45) then (spec_l01Name.l0 k x0 (wrap64 (x3+1))) else (some false))) else (if ((bt x0 x3)=45) then (spec_l01Name.l0 k x0 (wrap64 (x3+1))) else (some false)))) else (if (bt x0 x3)≥48 then (if (bt x0 x3)≤57 then (spec_l01Name.l0 k x0 (wrap64 (x3+1))) else (if ((bt x0 x3)=45) then (spec_l01Name.l0 k x0 (wrap64 (x3+1))) else (some false))) else (if ((bt x0 x3)=45) then (spec_l01Name.l0 k x0 (wrap64 (x3+1))) else (some false)))) else (none)) else (some true)
end
def spec_l01Name.f (k:Nat) (a0:ByteArray):Option (Bool):=if (a0.size:Int)<1 then (spec_l01Name.j0 k a0 true) else (if (a0.size:Int)>12 then (spec_l01Name.j0 k a0 true) else (if 0<(a0.size:Int) then (if (bt a0 0)<65 then (spec_l01Name.j0 k a0 true) else (spec_l01Name.j0 k a0 (decide ((bt a0 0)>90)))) else (none)))
def spec_l01Qty.f (a0:Int):Option (Bool):=if a0≥1 then (some (decide (a0≤1000000))) else (some false)
def spec_l01Day.f (a0:Int):Option (Bool):=if a0≥0 then (some (decide (a0≤100000))) else (some false)
def spec_l04Element.f (k:Nat) (a0:Int) (l1_0:List ByteArray):Option (Bool):=if (l1_0.length:Int)=1 then (if 0<(l1_0.length:Int) then ((spec_l01Num.f k (rdOf ByteArray.empty l1_0 0)).bind fun bt281=>(if a0=114 then ((spec_l01Name.f k (rdOf ByteArray.empty l1_0 0)).bind fun t283=>(some t283)) else (if a0=110 then (if bt281.2=true then (if bt281.1≥0 then (some (decide (bt281.1≤1000000000))) else (some false)) else (some false)) else (if a0=113 then (if bt281.2=true then ((spec_l01Qty.f bt281.1).bind fun t284=>(some t284)) else (some false)) else (if a0=122 then (if bt281.2=true then (if bt281.1≥(-1000000) then (if bt281.1≤1000000 then (some (bt281.1 != 0)) else (some false)) else (some false)) else (some false)) else (if a0=100 then (if bt281.2=true then ((spec_l01Day.f bt281.1).bind fun t285=>(some t285)) else (some false)) else (if (rdOf ByteArray.empty l1_0 0).toList=([]:List UInt8) then (some false) else ((spec_l02Part.f k (rdOf ByteArray.empty l1_0 0)).bind fun t286=>(some t286))))))))) else (none)) else (some false)
mutual
def spec_FormRight.l0:Nat→ByteArray→List Int→Int→Int→ByteArray→List (S77)→Option (Int)
 | 0,_,_,_,_,_,_=>none
 | k+1,x0,x5,x6,x7,x288000,x288001=>if x7<(x0.size:Int) then (if 0≤x7 then (if (bt x0 x7)=63 then (if x6≥0 then (some 0) else (spec_FormRight.l0 k x0 x5 (x5.length:Int) (wrap64 (x7+1)) x288000 x288001)) else (if (bt x0 x7)=114 then (if x5.length<140737488355328 then (spec_FormRight.l0 k x0 (x5++[bt x0 x7]) x6 (wrap64 (x7+1)) x288000 x288001) else (none)) else (if (bt x0 x7)=110 then (if x5.length<140737488355328 then (spec_FormRight.l0 k x0 (x5++[bt x0 x7]) x6 (wrap64 (x7+1)) x288000 x288001) else (none)) else (if (bt x0 x7)=113 then (if x5.length<140737488355328 then (spec_FormRight.l0 k x0 (x5++[bt x0 x7]) x6 (wrap64 (x7+1)) x288000 x288001) else (none)) else (if (bt x0 x7)=122 then (if x5.length<140737488355328 then (spec_FormRight.l0 k x0 (x5++[bt x0 x7]) x6 (wrap64 (x7+1)) x288000 x288001) else (none)) else (if (bt x0 x7)=100 then (if x5.length<140737488355328 then (spec_FormRight.l0 k x0 (x5++[bt x0 x7]) x6 (wrap64 (x7+1)) x288000 x288001) else (none)) else (if (bt x0 x7)=116 then (if x5.length<140737488355328 then (spec_FormRight.l0 k x0 (x5++[bt x0 x7]) x6 (wrap64 (x7+1)) x288000 x288001) else (none)) else (some 0)))))))) else (none)) else (if x6<0 then (spec_FormRight.j1 k x5 (x5.length:Int) x288000 x288001) else (spec_FormRight.j1 k x5 x6 x288000 x288001))
def spec_FormRight.j1:Nat→List Int→Int→ByteArray→List (S77)→Option (Int)
 | 0,_,_,_,_=>none
 | k+1,x5,x6,x288000,x288001=>spec_FormRight.l1 k x5 x6 0 x288000 x288001
def spec_FormRight.l1:Nat→List Int→Int→Int→ByteArray→List (S77)→Option (Int)
 | 0,_,_,_,_,_=>none
 | k+1,x5,x6,x9,x288000,x288001=>if x9<(x288001.length:Int) then (spec_FormRight.j3 k x5 x6 x9 true x288000 x288001) else (spec_FormRight.j3 k x5 x6 x9 (decide (x9<x6)) x288000 x288001)
def spec_FormRight.j3:Nat→List Int→Int→Int→Bool→ByteArray→List (S77)→Option (Int)
 | 0,_,_,_,_,_,_=>none
 | k+1,x5,x6,x9,x68,x288000,x288001=>if x68=true then (if x9≥(x288001.length:Int) then (some x9) else (if x9≥(x5.length:Int) then (some x9) else (if 0≤x9 then (if x9<(x5.length:Int) then (if x9<(x288001.length:Int) then ((spec_l04Element.f k (rd x5 x9) ((rd_T77 x288001 x9).f0)).bind fun t311=>(if t311=true then (spec_FormRight.l1 k x5 x6 (wrap64 (x9+1)) x288000 x288001) else (some x9))) else (none)) else (none)) else (none)))) else (some (-1))
end
def spec_FormRight.f (k:Nat) (a0:ByteArray) (a1_0:ByteArray) (l1_1:List (S77)):Option (Int):=if (a0.size:Int)>20000 then (some 0) else (spec_FormRight.l0 k a0 (([]:List Int)) (-1) 0 a1_0 l1_1)
mutual
def spec_TableCheck.l0:Nat→List (S46)→List (S87)→Int→Int→Option (Int × Int × Int)
 | 0,_,_,_,_=>none
 | k+1,x1,x5,x6,x7=>if x7<(x5.length:Int) then (spec_TableCheck.l1 k x1 x5 x6 x7 0) else (if x6<(x1.length:Int) then (if 0≤x6 then (if 0≤(wrap64 ((x5.length:Int) - 1)) then (if (wrap64 ((x5.length:Int) - 1))<(x5.length:Int) then (if ((rd_T46 x1 x6).f0).toList=((rd_T87 x5 (wrap64 ((x5.length:Int) - 1))).f0).toList then (some (x6,0,7)) else (some (x6,0,3))) else (none)) else (none)) else (none)) else (some (0,0,0)))
def spec_TableCheck.l1:Nat→List (S46)→List (S87)→Int→Int→Int→Option (Int × Int × Int)
 | 0,_,_,_,_,_=>none
 | k+1,x1,x5,x6,x7,x8=>if 0≤x7 then (if x7<(x5.length:Int) then (if x8<((rd_T87 x5 x7).f2) then (if x6<(x1.length:Int) then (if 0≤x6 then (spec_TableCheck.j2 k x1 x5 x6 x7 x8 (((rd_T46 x1 x6).f0).toList == ((rd_T87 x5 x7).f0).toList)) else (none)) else (spec_TableCheck.j2 k x1 x5 x6 x7 x8 false)) else (spec_TableCheck.j2 k x1 x5 x6 x7 x8 false)) else (none)) else (none)
def spec_TableCheck.j2:Nat→List (S46)→List (S87)→Int→Int→Int→Bool→Option (Int × Int × Int)
 | 0,_,_,_,_,_,_=>none
 | k+1,x1,x5,x6,x7,x8,x52=>if x52=true then (if 0≤x7 then (if x7<(x5.length:Int) then (if 0≤x6 then (if x6<(x1.length:Int) then ((spec_FormRight.f k ((rd_T87 x5 x7).f3) ((rd_T46 x1 x6).f0) ((rd_T46 x1 x6).f1)).bind fun t321=>(if t321≥0 then (some (x6,t321,3)) else (spec_TableCheck.l1 k x1 x5 (wrap64 (x6+1)) x7 (wrap64 (x8+1))))) else (none)) else (none)) else (none)) else (none)) else (if 0≤x7 then (if x7<(x5.length:Int) then (if x8<((rd_T87 x5 x7).f1) then (some (x6,0,4)) else (spec_TableCheck.l0 k x1 x5 x6 (wrap64 (x7+1)))) else (none)) else (none))
end
def spec_TableCheck.f (k:Nat) (a0:Int) (l1:List (S46)):Option (Int × Int × Int):=if (l1.length:Int)>400 then (some (0,0,2)) else ((spec_TableOf.f k a0).bind fun t313=>(if (t313.length:Int)=0 then (some (0,0,1)) else (spec_TableCheck.l0 k l1 t313 0 0)))
def spec_PartOf.f (a0_0:ByteArray) (l0_1:List (S77)) (a1:Int) (a2:Int):Option (ByteArray):=if a1<0 then (some (⟨#[]⟩:ByteArray)) else (if a1≥(l0_1.length:Int) then (some (⟨#[]⟩:ByteArray)) else (if a2<0 then (some (⟨#[]⟩:ByteArray)) else (if 0≤a1 then (if a1<(l0_1.length:Int) then (if a2≥(((rd_T77 l0_1 a1).f0).length:Int) then (some (⟨#[]⟩:ByteArray)) else (if 0≤a2 then (if a2<(((rd_T77 l0_1 a1).f0).length:Int) then (some (rdOf ByteArray.empty ((rd_T77 l0_1 a1).f0) a2)) else (none)) else (none))) else (none)) else (none))))
def spec_l05Num.f (k:Nat) (a0_0:ByteArray) (l0_1:List (S77)) (a1:Int):Option (Int):=(spec_PartOf.f a0_0 l0_1 a1 0).bind fun t330=>((spec_l01Num.f k t330).bind fun bt331=>(some bt331.1))
def spec_l05Read.f (k:Nat) (a0:Int) (a1_0:ByteArray) (l1_1:List (S77)):Option (Int × ByteArray × Int × Int × ByteArray):=if a0=1 then ((spec_l05Num.f k a1_0 l1_1 0).bind fun t335=>((spec_PartOf.f a1_0 l1_1 1 0).bind fun t336=>((spec_l05Num.f k a1_0 l1_1 2).bind fun t337=>((spec_l05Num.f k a1_0 l1_1 3).bind fun t338=>(some (t335,t336,t337,t338,(⟨#[]⟩:ByteArray))))))) else (if a0=5 then ((spec_PartOf.f a1_0 l1_1 0 0).bind fun t339=>((spec_l05Num.f k a1_0 l1_1 1).bind fun t340=>(some (0,t339,t340,0,(⟨#[]⟩:ByteArray))))) else (if a0=6 then ((spec_PartOf.f a1_0 l1_1 0 0).bind fun t341=>((spec_l05Num.f k a1_0 l1_1 1).bind fun t342=>((spec_PartOf.f a1_0 l1_1 2 0).bind fun t343=>(some (0,t341,t342,0,t343))))) else (if a0=7 then ((spec_l05Num.f k a1_0 l1_1 0).bind fun t344=>((spec_l05Num.f k a1_0 l1_1 1).bind fun t345=>((spec_l05Num.f k a1_0 l1_1 2).bind fun t346=>(some (t344,(⟨#[]⟩:ByteArray),t345,t346,(⟨#[]⟩:ByteArray)))))) else ((spec_l05Num.f k a1_0 l1_1 0).bind fun t347=>((spec_l05Num.f k a1_0 l1_1 1).bind fun t348=>((spec_PartOf.f a1_0 l1_1 2 0).bind fun t349=>(some (t347,(⟨#[]⟩:ByteArray),t348,0,t349))))))))
def spec_l05Numbered.f (a0:Int):Option (Bool):=if a0≥1 then (some (decide (a0≤4))) else (some false)
def spec_l05Own.f (a0:Int):Option (Bool):=if a0=1 then (some true) else (if a0=5 then (some true) else (some (a0 == 6)))
mutual
def spec_l03SameSeg.j0:Nat→Bool→ByteArray→List (S77)→ByteArray→List (S77)→Option (Bool)
 | 0,_,_,_,_,_=>none
 | k+1,x20,x351000,x351001,x352000,x352001=>if x20=true then (some false) else (spec_l03SameSeg.l0 k 0 x351000 x351001 x352000 x352001)
def spec_l03SameSeg.l0:Nat→Int→ByteArray→List (S77)→ByteArray→List (S77)→Option (Bool)
 | 0,_,_,_,_,_=>none
 | k+1,x5,x351000,x351001,x352000,x352001=>if x5<(x351001.length:Int) then (if 0≤x5 then (if x5<(x352001.length:Int) then (if (((rd_T77 x351001 x5).f0).length:Int)=(((rd_T77 x352001 x5).f0).length:Int) then (spec_l03SameSeg.l1 k x5 0 x351000 x351001 x352000 x352001) else (some false)) else (none)) else (none)) else (some true)
def spec_l03SameSeg.l1:Nat→Int→Int→ByteArray→List (S77)→ByteArray→List (S77)→Option (Bool)
 | 0,_,_,_,_,_,_=>none
 | k+1,x5,x6,x351000,x351001,x352000,x352001=>if 0≤x5 then (if x5<(x351001.length:Int) then (if x6<(((rd_T77 x351001 x5).f0).length:Int) then (if 0≤x6 then (if x5<(x352001.length:Int) then (if x6<(((rd_T77 x352001 x5).f0).length:Int) then (if (rdOf ByteArray.empty ((rd_T77 x351001 x5).f0) x6).toList=(rdOf ByteArray.empty ((rd_T77 x352001 x5).f0) x6).toList then (spec_l03SameSeg.l1 k x5 (wrap64 (x6+1)) x351000 x351001 x352000 x352001) else (some false)) else (none)) else (none)) else (none)) else (spec_l03SameSeg.l0 k (wrap64 (x5+1)) x351000 x351001 x352000 x352001)) else (none)) else (none)
end
def spec_l03SameSeg.f (k:Nat) (a0_0:ByteArray) (l0_1:List (S77)) (a1_0:ByteArray) (l1_1:List (S77)):Option (Bool):=if a0_0.toList=a1_0.toList then (spec_l03SameSeg.j0 k ((l0_1.length:Int) != (l1_1.length:Int)) a0_0 l0_1 a1_0 l1_1) else (spec_l03SameSeg.j0 k true a0_0 l0_1 a1_0 l1_1)
mutual
def spec_PaperOf.j0:Nat→Int→List (S46)→Int→ByteArray→ByteArray→Int→Option (Int × ByteArray × ByteArray × Int × List ByteArray × (List (S63)) × Int × Int)
 | 0,_,_,_,_,_,_=>none
 | k+1,x0,x1,x369000,x369001,x369002,x369003=>spec_PaperOf.l0 k x0 x1 1 x369000 x369001 x369002 x369003 ([]:List ByteArray) ([]:List (S63))
def spec_PaperOf.l0:Nat→Int→List (S46)→Int→Int→ByteArray→ByteArray→Int→List ByteArray→List (S63)→Option (Int × ByteArray × ByteArray × Int × List ByteArray × (List (S63)) × Int × Int)
 | 0,_,_,_,_,_,_,_,_,_=>none
 | k+1,x0,x1,x7,x369000,x369001,x369002,x369003,x369004,x369005=>if x7<(x1.length:Int) then (if 0≤x7 then (if ((rd_T46 x1 x7).f0).toList=([78,79,84]:List UInt8) then ((spec_PartOf.f ((rd_T46 x1 x7).f0) ((rd_T46 x1 x7).f1) 0 0).bind fun t376=>(if x369004.length<8796093022208 then (spec_PaperOf.l0 k x0 x1 (wrap64 (x7+1)) x369000 x369001 x369002 x369003 (x369004++[t376]) x369005) else (none))) else ((spec_l05Read.f k x0 ((rd_T46 x1 x7).f0) ((rd_T46 x1 x7).f1)).bind fun bt381=>(if (x369005.length:Int)>0 then (if 0≤(wrap64 ((x369005.length:Int) - 1)) then (if (wrap64 ((x369005.length:Int) - 1))<(x369005.length:Int) then (spec_PaperOf.j2 k x0 x1 x7 ((rd_T63 x369005 (wrap64 ((x369005.length:Int) - 1))).f0) x369000 x369001 x369002 x369003 x369004 x369005 bt381.1 bt381.2.1 bt381.2.2.1 bt381.2.2.2.1 bt381.2.2.2.2) else (none)) else (none)) else (spec_PaperOf.j2 k x0 x1 x7 0 x369000 x369001 x369002 x369003 x369004 x369005 bt381.1 bt381.2.1 bt381.2.2.1 bt381.2.2.2.1 bt381.2.2.2.2)))) else (none)) else (some (x369000,x369001,x369002,x369003,x369004,x369005,0,0))
def spec_PaperOf.j2:Nat→Int→List (S46)→Int→Int→Int→ByteArray→ByteArray→Int→List ByteArray→List (S63)→Int→ByteArray→Int→Int→ByteArray→Option (Int × ByteArray × ByteArray × Int × List ByteArray × (List (S63)) × Int × Int)
 | 0,_,_,_,_,_,_,_,_,_,_,_,_,_,_,_=>none
 | k+1,x0,x1,x7,x9,x369000,x369001,x369002,x369003,x369004,x369005,x387000,x387001,x387002,x387003,x387004=>(spec_l05Numbered.f x0).bind fun t388=>(if t388=true then (if x387000≤x9 then (spec_PaperOf.j3 k x0 x1 x7 true x369000 x369001 x369002 x369003 x369004 x369005 x387000 x387001 x387002 x387003 x387004) else (spec_PaperOf.j3 k x0 x1 x7 (decide (x387000>999)) x369000 x369001 x369002 x369003 x369004 x369005 x387000 x387001 x387002 x387003 x387004)) else (spec_PaperOf.j3 k x0 x1 x7 false x369000 x369001 x369002 x369003 x369004 x369005 x387000 x387001 x387002 x387003 x387004))
def spec_PaperOf.j3:Nat→Int→List (S46)→Int→Bool→Int→ByteArray→ByteArray→Int→List ByteArray→List (S63)→Int→ByteArray→Int→Int→ByteArray→Option (Int × ByteArray × ByteArray × Int × List ByteArray × (List (S63)) × Int × Int)
 | 0,_,_,_,_,_,_,_,_,_,_,_,_,_,_,_=>none
 | k+1,x0,x1,x7,x97,x369000,x369001,x369002,x369003,x369004,x369005,x387000,x387001,x387002,x387003,x387004=>if x97=true then (some (0,(⟨#[]⟩:ByteArray),(⟨#[]⟩:ByteArray),0,([]:List ByteArray),([]:List (S63)),x7,11)) else (spec_PaperOf.l1 k x0 x1 x7 0 x369000 x369001 x369002 x369003 x369004 x369005 x387000 x387001 x387002 x387003 x387004)
def spec_PaperOf.l1:Nat→Int→List (S46)→Int→Int→Int→ByteArray→ByteArray→Int→List ByteArray→List (S63)→Int→ByteArray→Int→Int→ByteArray→Option (Int × ByteArray × ByteArray × Int × List ByteArray × (List (S63)) × Int × Int)
 | 0,_,_,_,_,_,_,_,_,_,_,_,_,_,_,_=>none
 | k+1,x0,x1,x7,x10,x369000,x369001,x369002,x369003,x369004,x369005,x387000,x387001,x387002,x387003,x387004=>if x10<(x369005.length:Int) then ((spec_l05Own.f x0).bind fun t389=>(spec_PaperOf.j5 k x0 x1 x7 x10 t389 x369000 x369001 x369002 x369003 x369004 x369005 x387000 x387001 x387002 x387003 x387004)) else (spec_PaperOf.j5 k x0 x1 x7 x10 false x369000 x369001 x369002 x369003 x369004 x369005 x387000 x387001 x387002 x387003 x387004)
def spec_PaperOf.j5:Nat→Int→List (S46)→Int→Int→Bool→Int→ByteArray→ByteArray→Int→List ByteArray→List (S63)→Int→ByteArray→Int→Int→ByteArray→Option (Int × ByteArray × ByteArray × Int × List ByteArray × (List (S63)) × Int × Int)
 | 0,_,_,_,_,_,_,_,_,_,_,_,_,_,_,_,_=>none
 | k+1,x0,x1,x7,x10,x108,x369000,x369001,x369002,x369003,x369004,x369005,x387000,x387001,x387002,x387003,x387004=>if x108=true then (if 0≤x10 then (if x10<(x369005.length:Int) then (if ((rd_T63 x369005 x10).f1).toList=x387001.toList then (some (0,(⟨#[]⟩:ByteArray),(⟨#[]⟩:ByteArray),0,([]:List ByteArray),([]:List (S63)),x7,11)) else (spec_PaperOf.l1 k x0 x1 x7 (wrap64 (x10+1)) x369000 x369001 x369002 x369003 x369004 x369005 x387000 x387001 x387002 x387003 x387004)) else (none)) else (none)) else ((spec_l05Line.f k x0 x387000 x387001 x387002 x387003 x387004).bind fun bt391=>(if 0≤x7 then (if x7<(x1.length:Int) then ((spec_l03SameSeg.f k bt391.1 bt391.2 ((rd_T46 x1 x7).f0) ((rd_T46 x1 x7).f1)).bind fun t396=>(if t396=true then (if x369005.length<2513169434916 then (spec_PaperOf.l0 k x0 x1 (wrap64 (x7+1)) x369000 x369001 x369002 x369003 x369004 (x369005++[(⟨x387000,x387001,x387002,x387003,x387004⟩:S63)])) else (none)) else (some (0,(⟨#[]⟩:ByteArray),(⟨#[]⟩:ByteArray),0,([]:List ByteArray),([]:List (S63)),x7,3)))) else (none)) else (none)))
end
def spec_PaperOf.f (k:Nat) (a0:Int) (l1:List (S46)):Option (Int × ByteArray × ByteArray × Int × List ByteArray × (List (S63)) × Int × Int):=(spec_TableCheck.f k a0 l1).bind fun bt360=>(if bt360.2.2=0 then (if 0<(l1.length:Int) then ((spec_PartOf.f ((rd_T46 l1 0).f0) ((rd_T46 l1 0).f1) 0 0).bind fun t365=>((spec_l05Num.f k ((rd_T46 l1 0).f0) ((rd_T46 l1 0).f1) 1).bind fun t367=>((spec_l05Has.f a0).bind fun t369=>(if t369=true then ((spec_PartOf.f ((rd_T46 l1 0).f0) ((rd_T46 l1 0).f1) 1 0).bind fun t371=>((spec_l05Num.f k ((rd_T46 l1 0).f0) ((rd_T46 l1 0).f1) 2).bind fun t373=>(spec_PaperOf.j0 k a0 l1 a0 t365 t371 t373))) else (spec_PaperOf.j0 k a0 l1 a0 t365 (⟨#[]⟩:ByteArray) t367))))) else (none)) else (some (0,(⟨#[]⟩:ByteArray),(⟨#[]⟩:ByteArray),0,([]:List ByteArray),([]:List (S63)),bt360.1,bt360.2.2)))
mutual
def spec_PaperSame.j0:Nat→Bool→Int→ByteArray→ByteArray→Int→List ByteArray→List (S63)→Int→ByteArray→ByteArray→Int→List ByteArray→List (S63)→Option (Bool)
 | 0,_,_,_,_,_,_,_,_,_,_,_,_,_=>none
 | k+1,x50,x401000,x401001,x401002,x401003,x401004,x401005,x402000,x402001,x402002,x402003,x402004,x402005=>if x50=true then (some false) else (spec_PaperSame.l0 k 0 x401000 x401001 x401002 x401003 x401004 x401005 x402000 x402001 x402002 x402003 x402004 x402005)
def spec_PaperSame.l0:Nat→Int→Int→ByteArray→ByteArray→Int→List ByteArray→List (S63)→Int→ByteArray→ByteArray→Int→List ByteArray→List (S63)→Option (Bool)
 | 0,_,_,_,_,_,_,_,_,_,_,_,_,_=>none
 | k+1,x5,x401000,x401001,x401002,x401003,x401004,x401005,x402000,x402001,x402002,x402003,x402004,x402005=>if x5<(x401004.length:Int) then (if 0≤x5 then (if x5<(x402004.length:Int) then (if (rdOf ByteArray.empty x401004 x5).toList=(rdOf ByteArray.empty x402004 x5).toList then (spec_PaperSame.l0 k (wrap64 (x5+1)) x401000 x401001 x401002 x401003 x401004 x401005 x402000 x402001 x402002 x402003 x402004 x402005) else (some false)) else (none)) else (none)) else (spec_PaperSame.l1 k 0 x401000 x401001 x401002 x401003 x401004 x401005 x402000 x402001 x402002 x402003 x402004 x402005)
def spec_PaperSame.l1:Nat→Int→Int→ByteArray→ByteArray→Int→List ByteArray→List (S63)→Int→ByteArray→ByteArray→Int→List ByteArray→List (S63)→Option (Bool)
 | 0,_,_,_,_,_,_,_,_,_,_,_,_,_=>none
 | k+1,x6,x401000,x401001,x401002,x401003,x401004,x401005,x402000,x402001,x402002,x402003,x402004,x402005=>if x6<(x401005.length:Int) then (if 0≤x6 then (if x6<(x402005.length:Int) then (if (!(((rd_T63 x401005 x6).f0) == ((rd_T63 x402005 x6).f0)) || (!((((rd_T63 x401005 x6).f1).toList) == (((rd_T63 x402005 x6).f1).toList)) || (!(((rd_T63 x401005 x6).f2) == ((rd_T63 x402005 x6).f2)) || (!(((rd_T63 x401005 x6).f3) == ((rd_T63 x402005 x6).f3)) || (!((((rd_T63 x401005 x6).f4).toList) == (((rd_T63 x402005 x6).f4).toList)))))))=true then (some false) else (spec_PaperSame.l1 k (wrap64 (x6+1)) x401000 x401001 x401002 x401003 x401004 x401005 x402000 x402001 x402002 x402003 x402004 x402005)) else (none)) else (none)) else (some true)
end
def spec_PaperSame.f (k:Nat) (a0_0:Int) (a0_1:ByteArray) (a0_2:ByteArray) (a0_3:Int) (l0_4:List ByteArray) (l0_5:List (S63)) (a1_0:Int) (a1_1:ByteArray) (a1_2:ByteArray) (a1_3:Int) (l1_4:List ByteArray) (l1_5:List (S63)):Option (Bool):=if a0_0=a1_0 then (if a0_1.toList=a1_1.toList then (if a0_2.toList=a1_2.toList then (if a0_3=a1_3 then (if (l0_4.length:Int)=(l1_4.length:Int) then (spec_PaperSame.j0 k ((l0_5.length:Int) != (l1_5.length:Int)) a0_0 a0_1 a0_2 a0_3 l0_4 l0_5 a1_0 a1_1 a1_2 a1_3 l1_4 l1_5) else (spec_PaperSame.j0 k true a0_0 a0_1 a0_2 a0_3 l0_4 l0_5 a1_0 a1_1 a1_2 a1_3 l1_4 l1_5)) else (spec_PaperSame.j0 k true a0_0 a0_1 a0_2 a0_3 l0_4 l0_5 a1_0 a1_1 a1_2 a1_3 l1_4 l1_5)) else (spec_PaperSame.j0 k true a0_0 a0_1 a0_2 a0_3 l0_4 l0_5 a1_0 a1_1 a1_2 a1_3 l1_4 l1_5)) else (spec_PaperSame.j0 k true a0_0 a0_1 a0_2 a0_3 l0_4 l0_5 a1_0 a1_1 a1_2 a1_3 l1_4 l1_5)) else (spec_PaperSame.j0 k true a0_0 a0_1 a0_2 a0_3 l0_4 l0_5 a1_0 a1_1 a1_2 a1_3 l1_4 l1_5)
mutual
def spec_PaperRight.j0:Nat→Bool→Int→ByteArray→ByteArray→Int→List ByteArray→List (S63)→Option (Bool)
 | 0,_,_,_,_,_,_,_=>none
 | k+1,x15,x407000,x407001,x407002,x407003,x407004,x407005=>if x15=true then (some false) else ((spec_l05Body.f k x407000 x407001 x407002 x407003 x407004 x407005).bind fun t407=>(spec_PaperRight.l0 k t407 0 x407000 x407001 x407002 x407003 x407004 x407005))
def spec_PaperRight.l0:Nat→List (S46)→Int→Int→ByteArray→ByteArray→Int→List ByteArray→List (S63)→Option (Bool)
 | 0,_,_,_,_,_,_,_,_=>none
 | k+1,x3,x4,x407000,x407001,x407002,x407003,x407004,x407005=>if x4<(x3.length:Int) then (if 0≤x4 then ((spec_SegmentRight.f k ((rd_T46 x3 x4).f0) ((rd_T46 x3 x4).f1)).bind fun t411=>(if t411=true then (spec_PaperRight.l0 k x3 (wrap64 (x4+1)) x407000 x407001 x407002 x407003 x407004 x407005) else (some false))) else (none)) else ((spec_PaperOf.f k x407000 x3).bind fun bt412=>(if bt412.2.2.2.2.2.2.2=0 then ((spec_PaperSame.f k bt412.1 bt412.2.1 bt412.2.2.1 bt412.2.2.2.1 bt412.2.2.2.2.1 bt412.2.2.2.2.2.1 x407000 x407001 x407002 x407003 x407004 x407005).bind fun t425=>(some t425)) else (some false)))
end
def spec_PaperRight.f (k:Nat) (a0_0:Int) (a0_1:ByteArray) (a0_2:ByteArray) (a0_3:Int) (l0_4:List ByteArray) (l0_5:List (S63)):Option (Bool):=if (l0_4.length:Int)>40 then (spec_PaperRight.j0 k true a0_0 a0_1 a0_2 a0_3 l0_4 l0_5) else (spec_PaperRight.j0 k (decide ((l0_5.length:Int)>20)) a0_0 a0_1 a0_2 a0_3 l0_4 l0_5)
def spec_PaperBody.f (k:Nat) (a0_0:Int) (a0_1:ByteArray) (a0_2:ByteArray) (a0_3:Int) (l0_4:List ByteArray) (l0_5:List (S63)):Option ((List (S46))):=(spec_PaperRight.f k a0_0 a0_1 a0_2 a0_3 l0_4 l0_5).bind fun t427=>(if t427=true then ((spec_l05Body.f k a0_0 a0_1 a0_2 a0_3 l0_4 l0_5).bind fun t428=>(some t428)) else (some (([]:List (S46)))))
def impl_within.f (a0:Int) (a1:Int) (a2:Int):Option (Bool):=if a1≤a0 then (some (decide (a0≤a2))) else (some false)
def impl_hasTwo.f (a0:Int):Option (Bool):=(impl_within.f a0 2 4).bind fun t434=>(some t434)
def strconv_FormatInt.f (a0 a1:Int):Option ByteArray:=if a1=10 then (if -9223372036854775808≤a0 then (if a0≤9223372036854775807 then some (⟨(Lib.itoa a0).toArray⟩:ByteArray) else none) else none) else none
def impl_decimal.f (a0:Int):Option (ByteArray):=(strconv_FormatInt.f a0 10).bind fun t435=>(some t435)
def impl_plain.l0:Nat→List ByteArray→Int→Int→ByteArray→List (S77)→Option (ByteArray × (List (S77)))
 | 0,_,_,_,_,_=>none
 | k+1,x10,x11,x12,x438000,x438001=>if x12<x11 then (if 0≤x12 then (if x12<(x10.length:Int) then (if x438001.length<5864062014805 then (impl_plain.l0 k x10 x11 (wrap64 (x12+1)) x438000 (x438001++[(⟨(([rdOf ByteArray.empty x10 x12]:List ByteArray))⟩:S77)])) else (none)) else (none)) else (none)) else (some (x438000,x438001))
def impl_plain.f (k:Nat) (a0:ByteArray) (l1:List ByteArray):Option (ByteArray × (List (S77))):=impl_plain.l0 k l1 (l1.length:Int) 0 a0 ([]:List (S77))
def impl_tableOf_1.f (a0:ByteArray):Option (ByteArray × Int × Int × ByteArray):=some ((⟨#[68,79,67]⟩:ByteArray),1,1,a0)
def impl_tableOf_2.f (a0:ByteArray) (a1:ByteArray):Option (ByteArray × Int × Int × ByteArray):=some (a0,1,20,a1)
def impl_tableOf.j0:Nat→Int→Bool→ByteArray→Int→Int→ByteArray→Option ((List (S87)))
 | 0,_,_,_,_,_,_=>none
 | k+1,x7,x16,x448000,x448001,x448002,x448003=>if x16=true then ((impl_tableOf_1.f (⟨#[114,114,100]⟩:ByteArray)).bind fun bt459=>((impl_tableOf_2.f (⟨#[76,73,78]⟩:ByteArray) (⟨#[110,113,63,116]⟩:ByteArray)).bind fun bt463=>(some (([(⟨bt459.1,bt459.2.1,bt459.2.2.1,bt459.2.2.2⟩:S87),(⟨bt463.1,bt463.2.1,bt463.2.2.1,bt463.2.2.2⟩:S87)]:List (S87)))))) else (if x7=3 then ((impl_tableOf_1.f (⟨#[114,114,100]⟩:ByteArray)).bind fun bt470=>((impl_tableOf_2.f (⟨#[76,73,78]⟩:ByteArray) (⟨#[110,113]⟩:ByteArray)).bind fun bt474=>(some (([(⟨bt470.1,bt470.2.1,bt470.2.2.1,bt470.2.2.2⟩:S87),(⟨x448000,x448001,x448002,x448003⟩:S87),(⟨bt474.1,bt474.2.1,bt474.2.2.1,bt474.2.2.2⟩:S87)]:List (S87)))))) else (if x7=5 then ((impl_tableOf_1.f (⟨#[114,100]⟩:ByteArray)).bind fun bt481=>((impl_tableOf_2.f (⟨#[73,84,77]⟩:ByteArray) (⟨#[114,110]⟩:ByteArray)).bind fun bt485=>(some (([(⟨bt481.1,bt481.2.1,bt481.2.2.1,bt481.2.2.2⟩:S87),(⟨bt485.1,bt485.2.1,bt485.2.2.1,bt485.2.2.2⟩:S87)]:List (S87)))))) else (if x7=6 then ((impl_tableOf_1.f (⟨#[114,100]⟩:ByteArray)).bind fun bt492=>((impl_tableOf_2.f (⟨#[73,84,77]⟩:ByteArray) (⟨#[114,122,63,116]⟩:ByteArray)).bind fun bt496=>(some (([(⟨bt492.1,bt492.2.1,bt492.2.2.1,bt492.2.2.2⟩:S87),(⟨bt496.1,bt496.2.1,bt496.2.2.1,bt496.2.2.2⟩:S87)]:List (S87)))))) else (if x7=7 then ((impl_tableOf_1.f (⟨#[114,100]⟩:ByteArray)).bind fun bt503=>(some (([(⟨bt503.1,bt503.2.1,bt503.2.2.1,bt503.2.2.2⟩:S87),(⟨(⟨#[65,67,75]⟩:ByteArray),1,1,(⟨#[110,110,63,110]⟩:ByteArray)⟩:S87)]:List (S87))))) else (some ([]:List (S87)))))))
def impl_tableOf.f (k:Nat) (a0:Int):Option ((List (S87))):=if a0=1 then ((impl_tableOf_1.f (⟨#[114,100]⟩:ByteArray)).bind fun bt448=>((impl_tableOf_2.f (⟨#[76,73,78]⟩:ByteArray) (⟨#[110,114,113,63,110]⟩:ByteArray)).bind fun bt452=>(some (([(⟨bt448.1,bt448.2.1,bt448.2.2.1,bt448.2.2.2⟩:S87),(⟨(⟨#[78,79,84]⟩:ByteArray),0,2,(⟨#[116]⟩:ByteArray)⟩:S87),(⟨bt452.1,bt452.2.1,bt452.2.2.1,bt452.2.2.2⟩:S87)]:List (S87)))))) else (if a0=2 then (impl_tableOf.j0 k a0 (a0 == 2) (⟨#[78,79,84]⟩:ByteArray) 0 2 (⟨#[116]⟩:ByteArray)) else (impl_tableOf.j0 k a0 (a0 == 4) (⟨#[78,79,84]⟩:ByteArray) 0 2 (⟨#[116]⟩:ByteArray)))
def impl_lineTag.f (k:Nat) (a0:Int):Option (ByteArray):=(impl_tableOf.f k a0).bind fun t510=>(if 0≤(wrap64 ((t510.length:Int) - 1)) then (if (wrap64 ((t510.length:Int) - 1))<(t510.length:Int) then (some ((rd_T87 t510 (wrap64 ((t510.length:Int) - 1))).f0)) else (none)) else (none))
def impl_fields.j0:Nat→Int→Bool→Option (ByteArray)
 | 0,_,_=>none
 | k+1,x3,x6=>if x6=true then (some (⟨#[78,81,84]⟩:ByteArray)) else (if x3=3 then (some (⟨#[78,81]⟩:ByteArray)) else (if x3=5 then (some (⟨#[73,81]⟩:ByteArray)) else (if x3=6 then (some (⟨#[73,81,84]⟩:ByteArray)) else (if x3=7 then (some (⟨#[78,81,77]⟩:ByteArray)) else (some (⟨#[]⟩:ByteArray))))))
def impl_fields.f (k:Nat) (a0:Int):Option (ByteArray):=if a0=1 then (some (⟨#[78,73,81,77]⟩:ByteArray)) else (if a0=2 then (impl_fields.j0 k a0 (a0 == 2)) else (impl_fields.j0 k a0 (a0 == 4)))
def impl_isText.f (a0:Int):Option (Bool):=if a0=73 then (some true) else (some (a0 == 84))
def impl_lineParts.l0 (f0:Int) (f1:ByteArray) (f2 f3:Int) (f4:ByteArray):List UInt8→List ByteArray→Option (List ByteArray)
 | [],acc=>some acc
 | c :: cs,acc=>if acc.length<1000 then
   (if c=77 then (if f3=0 then impl_lineParts.l0 f0 f1 f2 f3 f4 cs acc else (impl_decimal.f f3).bind fun d=>impl_lineParts.l0 f0 f1 f2 f3 f4 cs (acc++[d]))
   else if c=84 then (if f4.toList=[] then impl_lineParts.l0 f0 f1 f2 f3 f4 cs acc else impl_lineParts.l0 f0 f1 f2 f3 f4 cs (acc++[f4]))
   else if c=73 then impl_lineParts.l0 f0 f1 f2 f3 f4 cs (acc++[f1])
   else if c=78 then (impl_decimal.f f0).bind fun d=>impl_lineParts.l0 f0 f1 f2 f3 f4 cs (acc++[d])
   else if c=81 then (impl_decimal.f f2).bind fun d=>impl_lineParts.l0 f0 f1 f2 f3 f4 cs (acc++[d])
   else none) else none
def impl_lineParts.f (k:Nat) (a0 f0:Int) (f1:ByteArray) (f2 f3:Int) (f4:ByteArray):Option (List ByteArray):=(impl_fields.f k a0).bind fun s=>impl_lineParts.l0 f0 f1 f2 f3 f4 s.data.toList []
mutual
def impl_bodyOf.j0:Nat→List ByteArray→Int→ByteArray→ByteArray→Int→List ByteArray→List (S63)→Option ((List (S46)))
 | 0,_,_,_,_,_,_,_=>none
 | k+1,x3,x515000,x515001,x515002,x515003,x515004,x515005=>(impl_decimal.f x515003).bind fun t522=>(if x3.length<8796093022208 then ((impl_plain.f k (⟨#[68,79,67]⟩:ByteArray) (x3++[t522])).bind fun bt526=>(impl_bodyOf.l0 k (([(⟨bt526.1,bt526.2⟩:S46)]:List (S46))) x515004 (x515004.length:Int) 0 x515000 x515001 x515002 x515003 x515004 x515005)) else (none))
def impl_bodyOf.l0:Nat→List (S46)→List ByteArray→Int→Int→Int→ByteArray→ByteArray→Int→List ByteArray→List (S63)→Option ((List (S46)))
 | 0,_,_,_,_,_,_,_,_,_,_=>none
 | k+1,x4,x29,x30,x31,x515000,x515001,x515002,x515003,x515004,x515005=>if x31<x30 then (if 0≤x31 then (if x31<(x29.length:Int) then ((impl_plain.f k (⟨#[78,79,84]⟩:ByteArray) (([rdOf ByteArray.empty x29 x31]:List ByteArray))).bind fun bt537=>(if x4.length<3518437208883 then (impl_bodyOf.l0 k (x4++[(⟨bt537.1,bt537.2⟩:S46)]) x29 x30 (wrap64 (x31+1)) x515000 x515001 x515002 x515003 x515004 x515005) else (none))) else (none)) else (none)) else (impl_bodyOf.l1 k x4 x515005 (x515005.length:Int) 0 x515000 x515001 x515002 x515003 x515004 x515005)
def impl_bodyOf.l1:Nat→List (S46)→List (S63)→Int→Int→Int→ByteArray→ByteArray→Int→List ByteArray→List (S63)→Option ((List (S46)))
 | 0,_,_,_,_,_,_,_,_,_,_=>none
 | k+1,x4,x43,x44,x45,x515000,x515001,x515002,x515003,x515004,x515005=>if x45<x44 then (if 0≤x45 then (if x45<(x43.length:Int) then ((impl_lineTag.f k x515000).bind fun t546=>((impl_lineParts.f k x515000 ((rd_T63 x43 x45).f0) ((rd_T63 x43 x45).f1) ((rd_T63 x43 x45).f2) ((rd_T63 x43 x45).f3) ((rd_T63 x43 x45).f4)).bind fun t547=>((impl_plain.f k t546 t547).bind fun bt550=>(if x4.length<3518437208883 then (impl_bodyOf.l1 k (x4++[(⟨bt550.1,bt550.2⟩:S46)]) x43 x44 (wrap64 (x45+1)) x515000 x515001 x515002 x515003 x515004 x515005) else (none))))) else (none)) else (none)) else (some x4)
end
def impl_bodyOf.f (k:Nat) (a0_0:Int) (a0_1:ByteArray) (a0_2:ByteArray) (a0_3:Int) (l0_4:List ByteArray) (l0_5:List (S63)):Option ((List (S46))):=(some (([a0_1]:List ByteArray):List ByteArray)).bind fun y515=>((impl_hasTwo.f a0_0).bind fun t518=>(if t518=true then (if y515.length<8796093022208 then (impl_bodyOf.j0 k (y515++[a0_2]) a0_0 a0_1 a0_2 a0_3 l0_4 l0_5) else (none)) else (impl_bodyOf.j0 k y515 a0_0 a0_1 a0_2 a0_3 l0_4 l0_5)))
def impl_Segment.f (l0:List (S46)):Option (Bool):=some (decide ((l0.length:Int)>400))
def strings_Cut.f (a0 a1:ByteArray):Option (ByteArray × ByteArray × Bool):=if a0.size<4294967281 then some ((⟨(Lib.cut a0.data.toList a1.data.toList).1.toArray⟩:ByteArray),(⟨(Lib.cut a0.data.toList a1.data.toList).2.1.toArray⟩:ByteArray),(Lib.cut a0.data.toList a1.data.toList).2.2) else none
def strings_IndexByte.f (a0:ByteArray) (a1:Int):Option Int:=some (Lib.indexByte a0.data.toList a1.toNat.toUInt8)
def impl_longText_1.f (a0:ByteArray):Option (Bool):=some (decide ((a0.size:Int)>20000))
def slices_IndexFunc_string_string_impl_longText_1.l0:Nat→List ByteArray→Int→Int→Option (Int)
 | 0,_,_,_=>none
 | k+1,x0,x7,x8=>if x8<x7 then (if 0≤x8 then (if x8<(x0.length:Int) then ((impl_longText_1.f (rdOf ByteArray.empty x0 x8)).bind fun t558=>(if t558=true then (some x8) else (slices_IndexFunc_string_string_impl_longText_1.l0 k x0 x7 (wrap64 (x8+1))))) else (none)) else (none)) else (some (-1))
def slices_IndexFunc_string_string_impl_longText_1.f (k:Nat) (l0:List ByteArray)  : Option (Int):=slices_IndexFunc_string_string_impl_longText_1.l0 k l0 (l0.length:Int) 0
def slices_ContainsFunc_string_string_impl_longText_1.f (k:Nat) (l0:List ByteArray)  : Option (Bool):=(slices_IndexFunc_string_string_impl_longText_1.f k l0).bind fun t559=>(some (decide (t559≥0)))
def impl_longText.f (k:Nat) (l0:List ByteArray):Option (Bool):=(slices_ContainsFunc_string_string_impl_longText_1.f k l0).bind fun t560=>(some t560)
def impl_isGreat.f (a0:Int):Option (Bool):=if a0≥65 then (some (decide (a0≤90))) else (some false)
def impl_isDigit.f (a0:Int):Option (Bool):=if a0≥48 then (some (decide (a0≤57))) else (some false)
def impl_isName.l0:Nat→ByteArray→Int→Int→Option (Bool)
 | 0,_,_,_=>none
 | k+1,x0,x5,x6=>if x6<x5 then (if 0≤x6 then (if x6<(x0.size:Int) then ((impl_isGreat.f (bt x0 x6)).bind fun t562=>(if t562=true then (impl_isName.l0 k x0 x5 (wrap64 (x6+1))) else (if x6=0 then (some false) else ((impl_isDigit.f (bt x0 x6)).bind fun t563=>(if t563=true then (impl_isName.l0 k x0 x5 (wrap64 (x6+1))) else (if (bt x0 x6)=45 then (impl_isName.l0 k x0 x5 (wrap64 (x6+1))) else (some false))))))) else (none)) else (none)) else ((impl_within.f (x0.size:Int) 1 12).bind fun t561=>(some t561))
def impl_isName.f (k:Nat) (a0:ByteArray):Option (Bool):=impl_isName.l0 k a0 (a0.size:Int) 0
mutual
def impl_isNumber.j0:Nat→ByteArray→ByteArray→Bool→Option (Bool)
 | 0,_,_,_=>none
 | k+1,x0,x3,x12=>if x12=true then (if 1≤(x0.size:Int) then (impl_isNumber.j1 k x0 (x0.extract 1 x0.size)) else (none)) else (impl_isNumber.j1 k x0 x3)
def impl_isNumber.j1:Nat→ByteArray→ByteArray→Option (Bool)
 | 0,_,_=>none
 | k+1,x0,x3=>impl_isNumber.l0 k x0 x3 (x3.size:Int) 0
def impl_isNumber.l0:Nat→ByteArray→ByteArray→Int→Int→Option (Bool)
 | 0,_,_,_,_=>none
 | k+1,x0,x3,x16,x17=>if x17<x16 then (if 0≤x17 then (if x17<(x3.size:Int) then ((impl_isDigit.f (bt x3 x17)).bind fun t564=>(if t564=true then (impl_isNumber.l0 k x0 x3 x16 (wrap64 (x17+1))) else (some false))) else (none)) else (none)) else (if x3.toList=([]:List UInt8) then (some false) else (if 0<(x3.size:Int) then (if (bt x3 0)=48 then (some (x0.toList == ([48]:List UInt8))) else (some true)) else (none)))
end
def impl_isNumber.f (k:Nat) (a0:ByteArray):Option (Bool):=if a0.toList=([]:List UInt8) then (impl_isNumber.j0 k a0 a0 false) else (if 0<(a0.size:Int) then (impl_isNumber.j0 k a0 a0 ((bt a0 0) == 45)) else (none))
def impl_numberIn.f (k:Nat) (a0:ByteArray) (a1 a2:Int):Option (Int × Bool):=if a0.size≤281474976710656 then (match Lib.parseIntB 64 a0.data.toList with | .ok v=>((impl_isNumber.f k a0).bind fun b=>if b=true then ((impl_within.f v a1 a2).bind fun c=>some (v,c)) else some (v,false)) | .«syntax»=>some (0,false) | .range=>some (Lib.intSat 64 a0.data.toList,false)) else none
def impl_isPrinted.l0:Nat→ByteArray→Int→Int→Option (Bool)
 | 0,_,_,_=>none
 | k+1,x0,x5,x6=>if x6<x5 then (if 0≤x6 then (if x6<(x0.size:Int) then (if (bt x0 x6)<32 then (some false) else (if (bt x0 x6)>126 then (some false) else (impl_isPrinted.l0 k x0 x5 (wrap64 (x6+1))))) else (none)) else (none)) else (some true)
def impl_isPrinted.f (k:Nat) (a0:ByteArray):Option (Bool):=impl_isPrinted.l0 k a0 (a0.size:Int) 0
def impl_isPart.f (k:Nat) (a0:ByteArray):Option (Bool):=if (a0.size:Int)≤40 then ((impl_isPrinted.f k a0).bind fun t565=>(some t565)) else (some false)
def impl_isOf.f (k:Nat) (a0:Int) (a1:ByteArray):Option (Bool):=if a0=114 then ((impl_isName.f k a1).bind fun t566=>(some t566)) else (if a0=110 then ((impl_numberIn.f k a1 0 1000000000).bind fun bt567=>(some bt567.2)) else (if a0=113 then ((impl_numberIn.f k a1 1 1000000).bind fun bt569=>(some bt569.2)) else (if a0=122 then ((impl_numberIn.f k a1 (-1000000) 1000000).bind fun bt571=>(if bt571.2=true then (some (a1.toList != ([48]:List UInt8))) else (some false))) else (if a0=100 then ((impl_numberIn.f k a1 0 100000).bind fun bt573=>(some bt573.2)) else (if a0=116 then (if a1.toList=([]:List UInt8) then (some false) else ((impl_isPart.f k a1).bind fun t575=>(some t575))) else (some false))))))
mutual
def impl_FormRight.l0:Nat→ByteArray→ByteArray→ByteArray→Int→Int→ByteArray→List (S77)→Option (Int)
 | 0,_,_,_,_,_,_,_=>none
 | k+1,x0,x5,x8,x22,x23,x577000,x577001=>if x23<x22 then (if 0≤x23 then (if x23<(x8.size:Int) then ((strings_IndexByte.f (⟨#[114,110,113,122,100,116]⟩:ByteArray) (bt x8 x23)).bind fun t580=>(if t580<0 then (some 0) else (impl_FormRight.l0 k x0 x5 x8 x22 (wrap64 (x23+1)) x577000 x577001))) else (none)) else (none)) else ((impl_longText.f k (([x0]:List ByteArray))).bind fun t584=>(if t584=true then (some 0) else (impl_FormRight.l1 k x5 x8 x577001 (x577001.length:Int) 0 x577000 x577001)))
def impl_FormRight.l1:Nat→ByteArray→ByteArray→List (S77)→Int→Int→ByteArray→List (S77)→Option (Int)
 | 0,_,_,_,_,_,_,_=>none
 | k+1,x5,x8,x36,x37,x38,x577000,x577001=>if x38<x37 then (if 0≤x38 then (if x38<(x36.length:Int) then (if x38=(x8.size:Int) then (some x38) else (if (((rd_T77 x36 x38).f0).length:Int)=1 then (if x38<(x8.size:Int) then (if 0<(((rd_T77 x36 x38).f0).length:Int) then ((impl_isOf.f k (bt x8 x38) (rdOf ByteArray.empty ((rd_T77 x36 x38).f0) 0)).bind fun t588=>(if t588=true then (impl_FormRight.l1 k x5 x8 x36 x37 (wrap64 (x38+1)) x577000 x577001) else (some x38))) else (none)) else (none)) else (some x38))) else (none)) else (none)) else (if (x577001.length:Int)<(x5.size:Int) then (some (x577001.length:Int)) else (some (-1)))
end
def impl_FormRight.f (k:Nat) (a0:ByteArray) (a1_0:ByteArray) (l1_1:List (S77)):Option (Int):=(strings_Cut.f a0 (⟨#[63]⟩:ByteArray)).bind fun bt577=>(if bt577.1.size+bt577.2.1.size≤9223372036854775807 then (impl_FormRight.l0 k a0 bt577.1 (bt577.1++bt577.2.1) ((bt577.1++bt577.2.1).size:Int) 0 a1_0 l1_1) else (none))
end Go.Proofs.YtaememmnhmebcaaGreatDoor.QB
