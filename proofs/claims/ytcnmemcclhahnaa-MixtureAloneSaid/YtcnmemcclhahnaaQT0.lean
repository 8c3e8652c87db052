-- Written by a program of this session, out of the seat's translation; checked by the kernel alone.
import Derived.Test.YtcnmemcclhahnaaProg
import Derived.Test.YtcnmemcclhahnaaQWords
import Derived.Below
import Derived.Deep.Draws
import Derived.Deep.AppendLies
import Derived.Maps.AppendAt
import Derived.OwnWalk
import Derived.Laws.BytesArg
import Derived.Laws.MakeOwn
import Derived.Laws.OwnMore
import Derived.Deep.OwnRows
import Derived.Tactics
import Derived.Lib.ConvBytes
import Derived.Laws.Slices
import Derived.WalkKit
import Derived.KernelRfl
import Derived.RowKit3
import Derived.Deep.LoopGhost
import Derived.Deep.QuietTactic
import Derived.BigQuiet
import Derived.WideLaws
import Derived.Deep.DeepCutAuto
import Derived.Deep.CutBlock
import Derived.Deep.RegionHeld3
import Derived.Laws.Rows
import Derived.Lib.AppendStr
import Derived.ArgAppend
import Derived.Laws.IdiomCopy
import Derived.OrdersHeld
import Derived.Laws.BitsLemmas
import Derived.RowKit
import Derived.Test.YtcnmemcclhahnaaVWords
import Derived.Test.YtcnmemcclhahnaaVLast
import Derived.Test.YtcnmemcclhahnaaVTab
import Derived.Test.YtcnmemcclhahnaaVFour
import Derived.Test.YtcnmemcclhahnaaVQPut
import Derived.Test.YtcnmemcclhahnaaVApart
import Derived.Test.YtcnmemcclhahnaaVArr
import Derived.Test.YtcnmemcclhahnaaVZeros
import Derived.Test.YtcnmemcclhahnaaVFoot
import Derived.Test.YtcnmemcclhahnaaVKept
import Derived.Test.YtcnmemcclhahnaaVShare
import Derived.Test.YtcnmemcclhahnaaVN
import Derived.Test.YtcnmemcclhahnaaVFootNe
import Derived.Test.YtcnmemcclhahnaaVAt
import Derived.Test.YtcnmemcclhahnaaVEqStruct
import Derived.Test.YtcnmemcclhahnaaVRepsOne
import Derived.Test.YtcnmemcclhahnaaVInv
import Derived.Test.YtcnmemcclhahnaaVInvWords
import Derived.Test.YtcnmemcclhahnaaVGuard
import Derived.Test.YtcnmemcclhahnaaVNEv
import Derived.Test.YtcnmemcclhahnaaVMore
namespace Go.Proofs.Ytcnmemcclhahnaa.QT
open Go.RowKit Go.Proofs.YtcnmemcclhahnaaW.PrintWords Go.Proofs.YtcnmemcclhahnaaW.PrintLast Go.Proofs.YtcnmemcclhahnaaW.PrintMore
attribute [local go_sem] max2_int min2_int max_two min_two max_three min_three max_four min_four   -- for this text's walks alone
set_option linter.unusedVariables false
set_option linter.unusedSimpArgs false

def errW : Option Int→Value
 | none=>.nilIface
 | some c=>.iface 0 (.int .i64 c)
theorem errW_none : errW none = .nilIface:=rfl
theorem errW_some (c : Int) : errW (some c) = .iface 0 (.int .i64 c):=rfl

theorem info2 : (Try.prog.info? 2).map (fun i=>(i.zero,i.size,i.bytes))=some (some (.int .i64 0),1,8):=by kernel_rfl
theorem info3 : (Try.prog.info? 3).map (fun i=>(i.zero,i.size,i.bytes))=some (some (.int .i64 0),1,8):=by kernel_rfl
theorem info5 : (Try.prog.info? 5).map (fun i=>(i.zero,i.size,i.bytes))=some (some (.int .u8 0),1,1):=by kernel_rfl
theorem info21 : (Try.prog.info? 21).map (fun i=>(i.zero,i.size,i.bytes))=some (some (.int .i32 0),1,4):=by kernel_rfl
theorem info48 : (Try.prog.info? 48).map (fun i=>(i.zero,i.size,i.bytes))=some (some (.slice none 0 0),1,24):=by kernel_rfl
theorem info54 : (Try.prog.info? 54).map (fun i=>(i.zero,i.size,i.bytes))=some (some (.agg #[(.int .i64 0),(.slice none 0 0),(.int .i64 0),(.int .i64 0),(.slice none 0 0),(.int .i64 0),(.int .i64 0),(.int .i64 0),(.int .i64 0)]),9,104):=by kernel_rfl
-- the values' own types
def rd_L2 (xs : List (List Int)) (i : Int) : (List Int):=xs.getD i.toNat ([] : List Int)
theorem at_L2 {w : World} {A : Option Addr} {n : Nat} {xs : List (List Int)} (h : Kd.C (Kd.slice 3 (Kd.int .i64)) w A n xs) (i : Int) (h0 : 0≤i) (h1 : i<n) : ∃ ad A0 c0,A=some ad∧w.cell? (ad.add i.toNat)=some (.slice A0 (rd_L2 xs i).length c0)∧(rd_L2 xs i).length≤c0∧(Kd.int .i64).C w A0 (rd_L2 xs i).length (rd_L2 xs i):=by
 obtain ⟨ad,c,e,_,hK,hc0⟩:=Kd.C_get h ([] : List Int) i h0 h1;have hc : ∀ j u,c[j]?=some u→w.cell? (ad.add (i.toNat*1+j))=some u:=hc0;obtain ⟨A0,c0,rfl,l0,g0⟩:=hK;exact ⟨ad,A0,c0,e,by have hq:=hc 0 _ rfl;rwa [Nat.mul_one,Nat.add_zero] at hq,l0,g0⟩

def rd_L3 (xs : List (List Int)) (i : Int) : (List Int):=xs.getD i.toNat ([] : List Int)
theorem at_L3 {w : World} {A : Option Addr} {n : Nat} {xs : List (List Int)} (h : Kd.C (Kd.slice 21 (Kd.int .i32)) w A n xs) (i : Int) (h0 : 0≤i) (h1 : i<n) : ∃ ad A0 c0,A=some ad∧w.cell? (ad.add i.toNat)=some (.slice A0 (rd_L3 xs i).length c0)∧(rd_L3 xs i).length≤c0∧(Kd.int .i32).C w A0 (rd_L3 xs i).length (rd_L3 xs i):=by
 obtain ⟨ad,c,e,_,hK,hc0⟩:=Kd.C_get h ([] : List Int) i h0 h1;have hc : ∀ j u,c[j]?=some u→w.cell? (ad.add (i.toNat*1+j))=some u:=hc0;obtain ⟨A0,c0,rfl,l0,g0⟩:=hK;exact ⟨ad,A0,c0,e,by have hq:=hc 0 _ rfl;rwa [Nat.mul_one,Nat.add_zero] at hq,l0,g0⟩

structure S43 where
 f0 : Int
 f1 : (List Int)
def z43 : S43:=⟨(0 : Int),([] : List Int)⟩
def k43 : Kd S43:=Kd.iso (Kd.pair (Kd.int .i64) (Kd.slice 21 (Kd.int .i32))) (fun x : S43=>(x.f0,x.f1))
theorem k43_heap : Kd.Heap k43:=Kd.heap_iso _ (Kd.heap_pair (Kd.heap_int .i64) (Kd.heap_slice 21 (Kd.heap_int .i32)))
theorem k43_open {w : World} {x : S43} {cs : List Value} (h : k43.K w x cs) : ∃ A1 c1,cs=[.int .i64 x.f0,.slice A1 x.f1.length c1]∧x.f1.length≤c1∧(Kd.int .i32).C w A1 x.f1.length x.f1:=by
 obtain ⟨_,_,rfl,rfl,⟨A1,c1,rfl,l1,g1⟩⟩:=h;exact ⟨A1,c1,rfl,l1,g1⟩
theorem k43_openM {w : World} {base : Nat} {ok : Nat→Prop} {x : S43} {cs : List Value} (h : k43.M w base ok x cs) : ∃ v1,cs=[.int .i64 x.f0,v1]∧(Kd.int .i32).R 21 w base ok v1 x.f1:=by
 obtain ⟨_,_,rfl,rfl,⟨v1,rfl,g1⟩⟩:=h;exact ⟨v1,rfl,g1⟩
theorem k43_mk (w : World) (x : S43) {A1 : Option Addr} {c1 : Nat} (l1 : x.f1.length≤c1) (g1 : (Kd.int .i32).C w A1 x.f1.length x.f1) : k43.K w x [.int .i64 x.f0,.slice A1 x.f1.length c1]:=⟨[.int .i64 x.f0],[.slice A1 x.f1.length c1],rfl,rfl,⟨A1,c1,rfl,l1,g1⟩⟩
theorem k43_mkM (w : World) (base : Nat) (ok : Nat→Prop) (x : S43) {v1 : Value} (g1 : (Kd.int .i32).R 21 w base ok v1 x.f1) : k43.M w base ok x [.int .i64 x.f0,v1]:=⟨[.int .i64 x.f0],[v1],rfl,rfl,⟨v1,rfl,g1⟩⟩
theorem k43_openF {W : World} {ok : Nat→Prop} {x : S43} {cs : List Value} (h : Kd.FK k43 W ok x cs) : ∃ A1 c1,cs=[.int .i64 x.f0,.slice A1 x.f1.length c1]∧x.f1.length≤c1∧Kd.F (Kd.int .i32) W ok A1 x.f1.length x.f1:=by
 obtain ⟨A1,c1,rfl,l1,_⟩:=k43_open (Kd.FK_now h);exact ⟨A1,c1,rfl,l1,(fun W' hW=>by obtain ⟨A1_,c1_,he,l1_,g1_⟩:=k43_open (h W' hW);injection (Option.some.inj (show some (Value.slice A1 x.f1.length c1)=some (Value.slice A1_ x.f1.length c1_) from congrArg (fun l=>l[1]?) he)) with ha_ _ _;rw [ha_];exact g1_)⟩
theorem k43_mkF (W : World) (ok : Nat→Prop) (x : S43) {A1 : Option Addr} {c1 : Nat} (l1 : x.f1.length≤c1) (g1 : Kd.F (Kd.int .i32) W ok A1 x.f1.length x.f1) : Kd.FK k43 W ok x [.int .i64 x.f0,.slice A1 x.f1.length c1]:=fun W2 hW=>k43_mk W2 x l1 (g1 W2 hW)
def rd_T43 (xs : List S43) (i : Int) : S43:=xs.getD i.toNat z43
theorem at_T43 {w : World} {A : Option Addr} {n : Nat} {xs : List S43} (h : Kd.C k43 w A n xs) (i : Int) (h0 : 0≤i) (h1 : i<n) : ∃ ad A1 c1,A=some ad∧w.cell? (ad.add (i.toNat*2))=some (.int .i64 (rd_T43 xs i).f0)∧w.cell? ⟨(ad.add (i.toNat*2)).block,(ad.add (i.toNat*2)).off+1,none⟩=some (.slice A1 (rd_T43 xs i).f1.length c1)∧(rd_T43 xs i).f1.length≤c1∧(Kd.int .i32).C w A1 (rd_T43 xs i).f1.length (rd_T43 xs i).f1:=by
 obtain ⟨ad,c,e,_,hK,hc0⟩:=Kd.C_get h z43 i h0 h1;have hc : ∀ j u,c[j]?=some u→w.cell? (ad.add (i.toNat*2+j))=some u:=hc0;obtain ⟨A1,c1,rfl,l1,g1⟩:=k43_open hK;exact ⟨ad,A1,c1,e,hc 0 _ rfl,by rw [← add_field _ _ 1 (by omega)];exact hc 1 _ rfl,l1,g1⟩

structure S50 where
 f0 : Int
 f1 : Int
 f2 : (List Int)
def z50 : S50:=⟨(0 : Int),(0 : Int),([] : List Int)⟩
def k50 : Kd S50:=Kd.iso (Kd.pair (Kd.int .i64) (Kd.pair (Kd.int .i64) (Kd.slice 3 (Kd.int .i64)))) (fun x : S50=>(x.f0,x.f1,x.f2))
theorem k50_heap : Kd.Heap k50:=Kd.heap_iso _ (Kd.heap_pair (Kd.heap_int .i64) (Kd.heap_pair (Kd.heap_int .i64) (Kd.heap_slice 3 (Kd.heap_int .i64))))
theorem k50_open {w : World} {x : S50} {cs : List Value} (h : k50.K w x cs) : ∃ A2 c2,cs=[.int .i64 x.f0,.int .i64 x.f1,.slice A2 x.f2.length c2]∧x.f2.length≤c2∧(Kd.int .i64).C w A2 x.f2.length x.f2:=by
 obtain ⟨_,_,rfl,rfl,⟨_,_,rfl,rfl,⟨A2,c2,rfl,l2,g2⟩⟩⟩:=h;exact ⟨A2,c2,rfl,l2,g2⟩
theorem k50_openM {w : World} {base : Nat} {ok : Nat→Prop} {x : S50} {cs : List Value} (h : k50.M w base ok x cs) : ∃ v2,cs=[.int .i64 x.f0,.int .i64 x.f1,v2]∧(Kd.int .i64).R 3 w base ok v2 x.f2:=by
 obtain ⟨_,_,rfl,rfl,⟨_,_,rfl,rfl,⟨v2,rfl,g2⟩⟩⟩:=h;exact ⟨v2,rfl,g2⟩
theorem k50_mk (w : World) (x : S50) {A2 : Option Addr} {c2 : Nat} (l2 : x.f2.length≤c2) (g2 : (Kd.int .i64).C w A2 x.f2.length x.f2) : k50.K w x [.int .i64 x.f0,.int .i64 x.f1,.slice A2 x.f2.length c2]:=⟨[.int .i64 x.f0],[.int .i64 x.f1,.slice A2 x.f2.length c2],rfl,rfl,⟨[.int .i64 x.f1],[.slice A2 x.f2.length c2],rfl,rfl,⟨A2,c2,rfl,l2,g2⟩⟩⟩
theorem k50_mkM (w : World) (base : Nat) (ok : Nat→Prop) (x : S50) {v2 : Value} (g2 : (Kd.int .i64).R 3 w base ok v2 x.f2) : k50.M w base ok x [.int .i64 x.f0,.int .i64 x.f1,v2]:=⟨[.int .i64 x.f0],[.int .i64 x.f1,v2],rfl,rfl,⟨[.int .i64 x.f1],[v2],rfl,rfl,⟨v2,rfl,g2⟩⟩⟩
theorem k50_openF {W : World} {ok : Nat→Prop} {x : S50} {cs : List Value} (h : Kd.FK k50 W ok x cs) : ∃ A2 c2,cs=[.int .i64 x.f0,.int .i64 x.f1,.slice A2 x.f2.length c2]∧x.f2.length≤c2∧Kd.F (Kd.int .i64) W ok A2 x.f2.length x.f2:=by
 obtain ⟨A2,c2,rfl,l2,_⟩:=k50_open (Kd.FK_now h);exact ⟨A2,c2,rfl,l2,(fun W' hW=>by obtain ⟨A2_,c2_,he,l2_,g2_⟩:=k50_open (h W' hW);injection (Option.some.inj (show some (Value.slice A2 x.f2.length c2)=some (Value.slice A2_ x.f2.length c2_) from congrArg (fun l=>l[2]?) he)) with ha_ _ _;rw [ha_];exact g2_)⟩
theorem k50_mkF (W : World) (ok : Nat→Prop) (x : S50) {A2 : Option Addr} {c2 : Nat} (l2 : x.f2.length≤c2) (g2 : Kd.F (Kd.int .i64) W ok A2 x.f2.length x.f2) : Kd.FK k50 W ok x [.int .i64 x.f0,.int .i64 x.f1,.slice A2 x.f2.length c2]:=fun W2 hW=>k50_mk W2 x l2 (g2 W2 hW)
def rd_T50 (xs : List S50) (i : Int) : S50:=xs.getD i.toNat z50
theorem at_T50 {w : World} {A : Option Addr} {n : Nat} {xs : List S50} (h : Kd.C k50 w A n xs) (i : Int) (h0 : 0≤i) (h1 : i<n) : ∃ ad A2 c2,A=some ad∧w.cell? (ad.add (i.toNat*3))=some (.int .i64 (rd_T50 xs i).f0)∧w.cell? ⟨(ad.add (i.toNat*3)).block,(ad.add (i.toNat*3)).off+1,none⟩=some (.int .i64 (rd_T50 xs i).f1)∧w.cell? ⟨(ad.add (i.toNat*3)).block,(ad.add (i.toNat*3)).off+2,none⟩=some (.slice A2 (rd_T50 xs i).f2.length c2)∧(rd_T50 xs i).f2.length≤c2∧(Kd.int .i64).C w A2 (rd_T50 xs i).f2.length (rd_T50 xs i).f2:=by
 obtain ⟨ad,c,e,_,hK,hc0⟩:=Kd.C_get h z50 i h0 h1;have hc : ∀ j u,c[j]?=some u→w.cell? (ad.add (i.toNat*3+j))=some u:=hc0;obtain ⟨A2,c2,rfl,l2,g2⟩:=k50_open hK;exact ⟨ad,A2,c2,e,hc 0 _ rfl,by rw [← add_field _ _ 1 (by omega)];exact hc 1 _ rfl,by rw [← add_field _ _ 2 (by omega)];exact hc 2 _ rfl,l2,g2⟩

structure S52 where
 f0 : Int
 f1 : Int
 f2 : Int
 f3 : Int
def z52 : S52:=⟨(0 : Int),(0 : Int),(0 : Int),(0 : Int)⟩
def k52 : Kd S52:=Kd.iso (Kd.pair (Kd.int .i64) (Kd.pair (Kd.int .i64) (Kd.pair (Kd.int .i64) (Kd.int .i64)))) (fun x : S52=>(x.f0,x.f1,x.f2,x.f3))
theorem k52_heap : Kd.Heap k52:=Kd.heap_iso _ (Kd.heap_pair (Kd.heap_int .i64) (Kd.heap_pair (Kd.heap_int .i64) (Kd.heap_pair (Kd.heap_int .i64) (Kd.heap_int .i64))))
theorem k52_open {w : World} {x : S52} {cs : List Value} (h : k52.K w x cs) : cs=[.int .i64 x.f0,.int .i64 x.f1,.int .i64 x.f2,.int .i64 x.f3]:=by
 obtain ⟨_,_,rfl,rfl,⟨_,_,rfl,rfl,⟨_,_,rfl,rfl,rfl⟩⟩⟩:=h;exact rfl
theorem k52_openM {w : World} {base : Nat} {ok : Nat→Prop} {x : S52} {cs : List Value} (h : k52.M w base ok x cs) : cs=[.int .i64 x.f0,.int .i64 x.f1,.int .i64 x.f2,.int .i64 x.f3]:=by
 obtain ⟨_,_,rfl,rfl,⟨_,_,rfl,rfl,⟨_,_,rfl,rfl,rfl⟩⟩⟩:=h;exact rfl
theorem k52_mk (w : World) (x : S52)  : k52.K w x [.int .i64 x.f0,.int .i64 x.f1,.int .i64 x.f2,.int .i64 x.f3]:=⟨[.int .i64 x.f0],[.int .i64 x.f1,.int .i64 x.f2,.int .i64 x.f3],rfl,rfl,⟨[.int .i64 x.f1],[.int .i64 x.f2,.int .i64 x.f3],rfl,rfl,⟨[.int .i64 x.f2],[.int .i64 x.f3],rfl,rfl,rfl⟩⟩⟩
theorem k52_mkM (w : World) (base : Nat) (ok : Nat→Prop) (x : S52)  : k52.M w base ok x [.int .i64 x.f0,.int .i64 x.f1,.int .i64 x.f2,.int .i64 x.f3]:=⟨[.int .i64 x.f0],[.int .i64 x.f1,.int .i64 x.f2,.int .i64 x.f3],rfl,rfl,⟨[.int .i64 x.f1],[.int .i64 x.f2,.int .i64 x.f3],rfl,rfl,⟨[.int .i64 x.f2],[.int .i64 x.f3],rfl,rfl,rfl⟩⟩⟩
theorem k52_mkF (W : World) (ok : Nat→Prop) (x : S52) : Kd.FK k52 W ok x [.int .i64 x.f0,.int .i64 x.f1,.int .i64 x.f2,.int .i64 x.f3]:=fun W2 _=>k52_mk W2 x
def rd_T52 (xs : List S52) (i : Int) : S52:=xs.getD i.toNat z52
theorem at_T52 {w : World} {A : Option Addr} {n : Nat} {xs : List S52} (h : Kd.C k52 w A n xs) (i : Int) (h0 : 0≤i) (h1 : i<n) : ∃ ad ,A=some ad∧w.cell? (ad.add (i.toNat*4))=some (.int .i64 (rd_T52 xs i).f0)∧w.cell? ⟨(ad.add (i.toNat*4)).block,(ad.add (i.toNat*4)).off+1,none⟩=some (.int .i64 (rd_T52 xs i).f1)∧w.cell? ⟨(ad.add (i.toNat*4)).block,(ad.add (i.toNat*4)).off+2,none⟩=some (.int .i64 (rd_T52 xs i).f2)∧w.cell? ⟨(ad.add (i.toNat*4)).block,(ad.add (i.toNat*4)).off+3,none⟩=some (.int .i64 (rd_T52 xs i).f3):=by
 obtain ⟨ad,c,e,_,hK,hc0⟩:=Kd.C_get h z52 i h0 h1;have hc : ∀ j u,c[j]?=some u→w.cell? (ad.add (i.toNat*4+j))=some u:=hc0;obtain rfl:=k52_open hK;exact ⟨ad,e,hc 0 _ rfl,by rw [← add_field _ _ 1 (by omega)];exact hc 1 _ rfl,by rw [← add_field _ _ 2 (by omega)];exact hc 2 _ rfl,by rw [← add_field _ _ 3 (by omega)];exact hc 3 _ rfl⟩

structure S54 where
 f0 : S43
 f1 : S50
 f2 : S52
def z54 : S54:=⟨z43,z50,z52⟩
def k54 : Kd S54:=Kd.iso (Kd.pair k43 (Kd.pair k50 k52)) (fun x : S54=>(x.f0,x.f1,x.f2))
theorem k54_heap : Kd.Heap k54:=Kd.heap_iso _ (Kd.heap_pair k43_heap (Kd.heap_pair k50_heap k52_heap))
theorem k54_open {w : World} {x : S54} {cs : List Value} (h : k54.K w x cs) : ∃ A1 c1 A4 c4,cs=[.int .i64 x.f0.f0,.slice A1 x.f0.f1.length c1,.int .i64 x.f1.f0,.int .i64 x.f1.f1,.slice A4 x.f1.f2.length c4,.int .i64 x.f2.f0,.int .i64 x.f2.f1,.int .i64 x.f2.f2,.int .i64 x.f2.f3]∧x.f0.f1.length≤c1∧(Kd.int .i32).C w A1 x.f0.f1.length x.f0.f1∧x.f1.f2.length≤c4∧(Kd.int .i64).C w A4 x.f1.f2.length x.f1.f2:=by
 obtain ⟨_,_,rfl,s0,⟨_,_,rfl,s2,s5⟩⟩:=h;obtain ⟨A1,c1,rfl,l1,g1⟩:=k43_open s0;obtain ⟨A4,c4,rfl,l4,g4⟩:=k50_open s2;obtain rfl:=k52_open s5;exact ⟨A1,c1,A4,c4,rfl,l1,g1,l4,g4⟩
theorem k54_openM {w : World} {base : Nat} {ok : Nat→Prop} {x : S54} {cs : List Value} (h : k54.M w base ok x cs) : ∃ v1 v4,cs=[.int .i64 x.f0.f0,v1,.int .i64 x.f1.f0,.int .i64 x.f1.f1,v4,.int .i64 x.f2.f0,.int .i64 x.f2.f1,.int .i64 x.f2.f2,.int .i64 x.f2.f3]∧(Kd.int .i32).R 21 w base ok v1 x.f0.f1∧(Kd.int .i64).R 3 w base ok v4 x.f1.f2:=by
 obtain ⟨_,_,rfl,s0,⟨_,_,rfl,s2,s5⟩⟩:=h;obtain ⟨v1,rfl,g1⟩:=k43_openM s0;obtain ⟨v4,rfl,g4⟩:=k50_openM s2;obtain rfl:=k52_openM s5;exact ⟨v1,v4,rfl,g1,g4⟩
theorem k54_mk (w : World) (x : S54) {A1 : Option Addr} {c1 : Nat} (l1 : x.f0.f1.length≤c1) (g1 : (Kd.int .i32).C w A1 x.f0.f1.length x.f0.f1) {A4 : Option Addr} {c4 : Nat} (l4 : x.f1.f2.length≤c4) (g4 : (Kd.int .i64).C w A4 x.f1.f2.length x.f1.f2) : k54.K w x [.int .i64 x.f0.f0,.slice A1 x.f0.f1.length c1,.int .i64 x.f1.f0,.int .i64 x.f1.f1,.slice A4 x.f1.f2.length c4,.int .i64 x.f2.f0,.int .i64 x.f2.f1,.int .i64 x.f2.f2,.int .i64 x.f2.f3]:=⟨[.int .i64 x.f0.f0,.slice A1 x.f0.f1.length c1],[.int .i64 x.f1.f0,.int .i64 x.f1.f1,.slice A4 x.f1.f2.length c4,.int .i64 x.f2.f0,.int .i64 x.f2.f1,.int .i64 x.f2.f2,.int .i64 x.f2.f3],rfl,(k43_mk w x.f0 l1 g1),⟨[.int .i64 x.f1.f0,.int .i64 x.f1.f1,.slice A4 x.f1.f2.length c4],[.int .i64 x.f2.f0,.int .i64 x.f2.f1,.int .i64 x.f2.f2,.int .i64 x.f2.f3],rfl,(k50_mk w x.f1 l4 g4),(k52_mk w x.f2 )⟩⟩
theorem k54_mkM (w : World) (base : Nat) (ok : Nat→Prop) (x : S54) {v1 : Value} (g1 : (Kd.int .i32).R 21 w base ok v1 x.f0.f1) {v4 : Value} (g4 : (Kd.int .i64).R 3 w base ok v4 x.f1.f2) : k54.M w base ok x [.int .i64 x.f0.f0,v1,.int .i64 x.f1.f0,.int .i64 x.f1.f1,v4,.int .i64 x.f2.f0,.int .i64 x.f2.f1,.int .i64 x.f2.f2,.int .i64 x.f2.f3]:=⟨[.int .i64 x.f0.f0,v1],[.int .i64 x.f1.f0,.int .i64 x.f1.f1,v4,.int .i64 x.f2.f0,.int .i64 x.f2.f1,.int .i64 x.f2.f2,.int .i64 x.f2.f3],rfl,(k43_mkM w base ok x.f0 g1),⟨[.int .i64 x.f1.f0,.int .i64 x.f1.f1,v4],[.int .i64 x.f2.f0,.int .i64 x.f2.f1,.int .i64 x.f2.f2,.int .i64 x.f2.f3],rfl,(k50_mkM w base ok x.f1 g4),(k52_mkM w base ok x.f2 )⟩⟩
theorem k54_openF {W : World} {ok : Nat→Prop} {x : S54} {cs : List Value} (h : Kd.FK k54 W ok x cs) : ∃ A1 c1 A4 c4,cs=[.int .i64 x.f0.f0,.slice A1 x.f0.f1.length c1,.int .i64 x.f1.f0,.int .i64 x.f1.f1,.slice A4 x.f1.f2.length c4,.int .i64 x.f2.f0,.int .i64 x.f2.f1,.int .i64 x.f2.f2,.int .i64 x.f2.f3]∧x.f0.f1.length≤c1∧Kd.F (Kd.int .i32) W ok A1 x.f0.f1.length x.f0.f1∧x.f1.f2.length≤c4∧Kd.F (Kd.int .i64) W ok A4 x.f1.f2.length x.f1.f2:=by
 obtain ⟨A1,c1,A4,c4,rfl,l1,_,l4,_⟩:=k54_open (Kd.FK_now h);exact ⟨A1,c1,A4,c4,rfl,l1,(fun W' hW=>by obtain ⟨A1_,c1_,A4_,c4_,he,l1_,g1_,l4_,g4_⟩:=k54_open (h W' hW);injection (Option.some.inj (show some (Value.slice A1 x.f0.f1.length c1)=some (Value.slice A1_ x.f0.f1.length c1_) from congrArg (fun l=>l[1]?) he)) with ha_ _ _;rw [ha_];exact g1_),l4,(fun W' hW=>by obtain ⟨A1_,c1_,A4_,c4_,he,l1_,g1_,l4_,g4_⟩:=k54_open (h W' hW);injection (Option.some.inj (show some (Value.slice A4 x.f1.f2.length c4)=some (Value.slice A4_ x.f1.f2.length c4_) from congrArg (fun l=>l[4]?) he)) with ha_ _ _;rw [ha_];exact g4_)⟩
theorem k54_mkF (W : World) (ok : Nat→Prop) (x : S54) {A1 : Option Addr} {c1 : Nat} (l1 : x.f0.f1.length≤c1) (g1 : Kd.F (Kd.int .i32) W ok A1 x.f0.f1.length x.f0.f1) {A4 : Option Addr} {c4 : Nat} (l4 : x.f1.f2.length≤c4) (g4 : Kd.F (Kd.int .i64) W ok A4 x.f1.f2.length x.f1.f2) : Kd.FK k54 W ok x [.int .i64 x.f0.f0,.slice A1 x.f0.f1.length c1,.int .i64 x.f1.f0,.int .i64 x.f1.f1,.slice A4 x.f1.f2.length c4,.int .i64 x.f2.f0,.int .i64 x.f2.f1,.int .i64 x.f2.f2,.int .i64 x.f2.f3]:=fun W2 hW=>k54_mk W2 x l1 (g1 W2 hW) l4 (g4 W2 hW)
def rd_T54 (xs : List S54) (i : Int) : S54:=xs.getD i.toNat z54
theorem at_T54 {w : World} {A : Option Addr} {n : Nat} {xs : List S54} (h : Kd.C k54 w A n xs) (i : Int) (h0 : 0≤i) (h1 : i<n) : ∃ ad A1 c1 A4 c4,A=some ad∧w.cell? (ad.add (i.toNat*9))=some (.int .i64 (rd_T54 xs i).f0.f0)∧w.cell? ⟨(ad.add (i.toNat*9)).block,(ad.add (i.toNat*9)).off+1,none⟩=some (.slice A1 (rd_T54 xs i).f0.f1.length c1)∧w.cell? ⟨(ad.add (i.toNat*9)).block,(ad.add (i.toNat*9)).off+2,none⟩=some (.int .i64 (rd_T54 xs i).f1.f0)∧w.cell? ⟨(ad.add (i.toNat*9)).block,(ad.add (i.toNat*9)).off+3,none⟩=some (.int .i64 (rd_T54 xs i).f1.f1)∧w.cell? ⟨(ad.add (i.toNat*9)).block,(ad.add (i.toNat*9)).off+4,none⟩=some (.slice A4 (rd_T54 xs i).f1.f2.length c4)∧w.cell? ⟨(ad.add (i.toNat*9)).block,(ad.add (i.toNat*9)).off+5,none⟩=some (.int .i64 (rd_T54 xs i).f2.f0)∧w.cell? ⟨(ad.add (i.toNat*9)).block,(ad.add (i.toNat*9)).off+6,none⟩=some (.int .i64 (rd_T54 xs i).f2.f1)∧w.cell? ⟨(ad.add (i.toNat*9)).block,(ad.add (i.toNat*9)).off+7,none⟩=some (.int .i64 (rd_T54 xs i).f2.f2)∧w.cell? ⟨(ad.add (i.toNat*9)).block,(ad.add (i.toNat*9)).off+8,none⟩=some (.int .i64 (rd_T54 xs i).f2.f3)∧(rd_T54 xs i).f0.f1.length≤c1∧(Kd.int .i32).C w A1 (rd_T54 xs i).f0.f1.length (rd_T54 xs i).f0.f1∧(rd_T54 xs i).f1.f2.length≤c4∧(Kd.int .i64).C w A4 (rd_T54 xs i).f1.f2.length (rd_T54 xs i).f1.f2:=by
 obtain ⟨ad,c,e,_,hK,hc0⟩:=Kd.C_get h z54 i h0 h1;have hc : ∀ j u,c[j]?=some u→w.cell? (ad.add (i.toNat*9+j))=some u:=hc0;obtain ⟨A1,c1,A4,c4,rfl,l1,g1,l4,g4⟩:=k54_open hK;exact ⟨ad,A1,c1,A4,c4,e,hc 0 _ rfl,by rw [← add_field _ _ 1 (by omega)];exact hc 1 _ rfl,by rw [← add_field _ _ 2 (by omega)];exact hc 2 _ rfl,by rw [← add_field _ _ 3 (by omega)];exact hc 3 _ rfl,by rw [← add_field _ _ 4 (by omega)];exact hc 4 _ rfl,by rw [← add_field _ _ 5 (by omega)];exact hc 5 _ rfl,by rw [← add_field _ _ 6 (by omega)];exact hc 6 _ rfl,by rw [← add_field _ _ 7 (by omega)];exact hc 7 _ rfl,by rw [← add_field _ _ 8 (by omega)];exact hc 8 _ rfl,l1,g1,l4,g4⟩

end Go.Proofs.Ytcnmemcclhahnaa.QT
