/- FnExactSend: functions as plain Lean, in the machine of values. -/
import Derived.Test.YtpheniajdbbphaaVFnExactSend5
namespace Go.Proofs.Ytpheniajdbbphaa.DI
open Go
set_option linter.unusedVariables false
/-! laws.eqChan -/
noncomputable def laws_eqChan.c : Code := bodyOf Try.f18
def laws_eqChan.h : Nat → Hint := look ⟨[], [], []⟩ []
def laws_eqChan.ps : List PK := [.agg 9, .agg 9]
def laws_eqChan.rs : List RK := [.one true]
def laws_eqChan.vs : List ResultVar := [.tmp 4]
def laws_eqChan.x : Cx := ⟨tt, look none [(54, some laws_eqStringS.K), (55, some laws_eqPendingS.K), (56, some laws_eqEarlyS.K), (51, some laws_eqIntS.K)]⟩
def laws_eqChan.f (k : Nat) (a0_0 : Int) (a0_1 : Int) (a0_2 : Int) (a0_3 : List (ByteArray)) (a0_4 : List (Int × ByteArray × Int × Int)) (a0_5 : Int) (a0_6 : List (Int × ByteArray)) (a0_7 : List (Int)) (a0_8 : List (ByteArray)) (a1_0 : Int) (a1_1 : Int) (a1_2 : Int) (a1_3 : List (ByteArray)) (a1_4 : List (Int × ByteArray × Int × Int)) (a1_5 : Int) (a1_6 : List (Int × ByteArray)) (a1_7 : List (Int)) (a1_8 : List (ByteArray)) : Option (Bool) :=
  (bif (a0_0 != a1_0) then some false else (bif (a0_1 != a1_1) then some false else (bif (a0_2 != a1_2) then some false else (laws_eqStringS.f k a0_3 a1_3).bind fun r1 => (bif (!r1) then some false else (laws_eqPendingS.f k a0_4 a1_4).bind fun r2 => (bif (!r2) then some false else (bif (a0_5 != a1_5) then some false else (laws_eqEarlyS.f k a0_6 a1_6).bind fun r3 => (bif (!r3) then some false else (laws_eqIntS.f k a0_7 a1_7).bind fun r4 => (bif (!r4) then some false else (laws_eqStringS.f k a0_8 a1_8).bind fun r5 => (bif (!r5) then some false else some true)))))))))
def laws_eqChan.K : Ctr := ⟨laws_eqChan.ps, laws_eqChan.rs, false, (.two (.int .i64) (.two (.int .i64) (.two (.int .i64) (.two (.sl 9 .str) (.two (.sl 92 (.two (.int .i64) (.two .str (.two (.int .i64) (.int .i64))))) (.two (.int .i64) (.two (.sl 87 (.two (.int .i64) .str)) (.two (.sl 3 (.int .i64)) (.two (.sl 9 .str) (.two (.int .i64) (.two (.int .i64) (.two (.int .i64) (.two (.sl 9 .str) (.two (.sl 92 (.two (.int .i64) (.two .str (.two (.int .i64) (.int .i64))))) (.two (.int .i64) (.two (.sl 87 (.two (.int .i64) .str)) (.two (.sl 3 (.int .i64)) (.sl 9 .str)))))))))))))))))), .bool, fun k x => laws_eqChan.f k x.1 x.2.1 x.2.2.1 x.2.2.2.1 x.2.2.2.2.1 x.2.2.2.2.2.1 x.2.2.2.2.2.2.1 x.2.2.2.2.2.2.2.1 x.2.2.2.2.2.2.2.2.1 x.2.2.2.2.2.2.2.2.2.1 x.2.2.2.2.2.2.2.2.2.2.1 x.2.2.2.2.2.2.2.2.2.2.2.1 x.2.2.2.2.2.2.2.2.2.2.2.2.1 x.2.2.2.2.2.2.2.2.2.2.2.2.2.1 x.2.2.2.2.2.2.2.2.2.2.2.2.2.2.1 x.2.2.2.2.2.2.2.2.2.2.2.2.2.2.2.1 x.2.2.2.2.2.2.2.2.2.2.2.2.2.2.2.2.1 x.2.2.2.2.2.2.2.2.2.2.2.2.2.2.2.2.2⟩
theorem laws_eqChan.eq (k : Nat) (x : (laws_eqChan.K.I).den) : func laws_eqChan.x laws_eqChan.h laws_eqChan.ps laws_eqChan.rs laws_eqChan.vs laws_eqChan.K.I laws_eqChan.K.O laws_eqChan.c k x = laws_eqChan.K.run k x := by
  show _ = laws_eqChan.f k x.1 x.2.1 x.2.2.1 x.2.2.2.1 x.2.2.2.2.1 x.2.2.2.2.2.1 x.2.2.2.2.2.2.1 x.2.2.2.2.2.2.2.1 x.2.2.2.2.2.2.2.2.1 x.2.2.2.2.2.2.2.2.2.1 x.2.2.2.2.2.2.2.2.2.2.1 x.2.2.2.2.2.2.2.2.2.2.2.1 x.2.2.2.2.2.2.2.2.2.2.2.2.1 x.2.2.2.2.2.2.2.2.2.2.2.2.2.1 x.2.2.2.2.2.2.2.2.2.2.2.2.2.2.1 x.2.2.2.2.2.2.2.2.2.2.2.2.2.2.2.1 x.2.2.2.2.2.2.2.2.2.2.2.2.2.2.2.2.1 x.2.2.2.2.2.2.2.2.2.2.2.2.2.2.2.2.2
  kernel_rfl
theorem laws_eqChan.ok : CtrOk Try.prog 18 laws_eqChan.K :=
  CtrOk.of (fn := Try.f18) (cd := laws_eqChan.c) (cx := laws_eqChan.x) (hs := laws_eqChan.h) (by kernel_rfl) (by kernel_rfl) (by kernel_rfl) (by kernel_rfl) tt_ok (envOk_cons laws_eqStringS.ok (envOk_cons laws_eqPendingS.ok (envOk_cons laws_eqEarlyS.ok (envOk_cons laws_eqIntS.ok (envOk_nil))))) (by kernel_rfl) (by kernel_rfl) (by kernel_rfl) (by kernel_rfl) fun k x r h => (laws_eqChan.eq k x).trans h
/-! laws.eqPacket -/
noncomputable def laws_eqPacket.c : Code := bodyOf Try.f15
def laws_eqPacket.h : Nat → Hint := look ⟨[], [], []⟩ []
def laws_eqPacket.ps : List PK := [.agg 7, .agg 7]
def laws_eqPacket.rs : List RK := [.one true]
def laws_eqPacket.vs : List ResultVar := [.tmp 4]
def laws_eqPacket.x : Cx := ⟨tt, look none [(51, some laws_eqIntS.K)]⟩
def laws_eqPacket.f (k : Nat) (a0_0 : Int) (a0_1 : Int) (a0_2 : Int) (a0_3 : Int) (a0_4 : Int) (a0_5 : List (Int)) (a0_6 : ByteArray) (a1_0 : Int) (a1_1 : Int) (a1_2 : Int) (a1_3 : Int) (a1_4 : Int) (a1_5 : List (Int)) (a1_6 : ByteArray) : Option (Bool) :=
  (bif (a0_0 != a1_0) then some false else (bif (a0_1 != a1_1) then some false else (bif (a0_2 != a1_2) then some false else (bif (a0_3 != a1_3) then some false else (bif (a0_4 != a1_4) then some false else (laws_eqIntS.f k a0_5 a1_5).bind fun r1 => (bif (!r1) then some false else (bif (!(a0_6.toList == a1_6.toList)) then some false else some true)))))))
def laws_eqPacket.K : Ctr := ⟨laws_eqPacket.ps, laws_eqPacket.rs, false, (.two (.int .i64) (.two (.int .i64) (.two (.int .i64) (.two (.int .i64) (.two (.int .i64) (.two (.sl 3 (.int .i64)) (.two .str (.two (.int .i64) (.two (.int .i64) (.two (.int .i64) (.two (.int .i64) (.two (.int .i64) (.two (.sl 3 (.int .i64)) .str))))))))))))), .bool, fun k x => laws_eqPacket.f k x.1 x.2.1 x.2.2.1 x.2.2.2.1 x.2.2.2.2.1 x.2.2.2.2.2.1 x.2.2.2.2.2.2.1 x.2.2.2.2.2.2.2.1 x.2.2.2.2.2.2.2.2.1 x.2.2.2.2.2.2.2.2.2.1 x.2.2.2.2.2.2.2.2.2.2.1 x.2.2.2.2.2.2.2.2.2.2.2.1 x.2.2.2.2.2.2.2.2.2.2.2.2.1 x.2.2.2.2.2.2.2.2.2.2.2.2.2⟩
theorem laws_eqPacket.eq (k : Nat) (x : (laws_eqPacket.K.I).den) : func laws_eqPacket.x laws_eqPacket.h laws_eqPacket.ps laws_eqPacket.rs laws_eqPacket.vs laws_eqPacket.K.I laws_eqPacket.K.O laws_eqPacket.c k x = laws_eqPacket.K.run k x := by
  show _ = laws_eqPacket.f k x.1 x.2.1 x.2.2.1 x.2.2.2.1 x.2.2.2.2.1 x.2.2.2.2.2.1 x.2.2.2.2.2.2.1 x.2.2.2.2.2.2.2.1 x.2.2.2.2.2.2.2.2.1 x.2.2.2.2.2.2.2.2.2.1 x.2.2.2.2.2.2.2.2.2.2.1 x.2.2.2.2.2.2.2.2.2.2.2.1 x.2.2.2.2.2.2.2.2.2.2.2.2.1 x.2.2.2.2.2.2.2.2.2.2.2.2.2
  kernel_rfl
theorem laws_eqPacket.ok : CtrOk Try.prog 15 laws_eqPacket.K :=
  CtrOk.of (fn := Try.f15) (cd := laws_eqPacket.c) (cx := laws_eqPacket.x) (hs := laws_eqPacket.h) (by kernel_rfl) (by kernel_rfl) (by kernel_rfl) (by kernel_rfl) tt_ok (envOk_cons laws_eqIntS.ok (envOk_nil)) (by kernel_rfl) (by kernel_rfl) (by kernel_rfl) (by kernel_rfl) fun k x r h => (laws_eqPacket.eq k x).trans h
/-! laws.eqPacketS -/
noncomputable def laws_eqPacketS.c : Code := bodyOf Try.f29
def laws_eqPacketS.h : Nat → Hint := look ⟨[], [], []⟩ [(0, ⟨[0, 1, 5], [], []⟩)]
def laws_eqPacketS.ps : List PK := [.one, .one]
def laws_eqPacketS.rs : List RK := [.one true]
def laws_eqPacketS.vs : List ResultVar := [.tmp 4]
def laws_eqPacketS.x : Cx := ⟨tt, look none [(15, some laws_eqPacket.K)]⟩
def laws_eqPacketS.s0 (k : Nat) (rec0 : (Int × (List (Int × Int × Int × Int × Int × (List (Int)) × ByteArray)) × (List (Int × Int × Int × Int × Int × (List (Int)) × ByteArray))) → Option (Bool)) (p : (Int × (List (Int × Int × Int × Int × Int × (List (Int)) × ByteArray)) × (List (Int × Int × Int × Int × Int × (List (Int)) × ByteArray)))) : Option (Bool) :=
  (bif (decide (p.1 < (p.2.1.length : Int))) then (bif ((decide ((0 : Int) ≤ p.1)) && (decide (p.1 < (p.2.1.length : Int)))) then (p.2.1[p.1.toNat]?).bind fun x1 => (bif ((decide ((0 : Int) ≤ p.1)) && (decide (p.1 < (p.2.2.length : Int)))) then (p.2.2[p.1.toNat]?).bind fun x2 => (laws_eqPacket.f k x1.1 x1.2.1 x1.2.2.1 x1.2.2.2.1 x1.2.2.2.2.1 x1.2.2.2.2.2.1 x1.2.2.2.2.2.2 x2.1 x2.2.1 x2.2.2.1 x2.2.2.2.1 x2.2.2.2.2.1 x2.2.2.2.2.2.1 x2.2.2.2.2.2.2).bind fun r3 => (bif (!r3) then some false else rec0 ((IntKind.i64.wrap (p.1 + (1 : Int))), p.2.1, p.2.2)) else none) else none) else some true)
def laws_eqPacketS.l0 (k : Nat) : Nat → (Int × (List (Int × Int × Int × Int × Int × (List (Int)) × ByteArray)) × (List (Int × Int × Int × Int × Int × (List (Int)) × ByteArray))) → Option (Bool)
  | 0 => fun _ => none
  | j + 1 => laws_eqPacketS.s0 k (laws_eqPacketS.l0 k j)
def laws_eqPacketS.S0 (p : (Int × (List (Int × Int × Int × Int × Int × (List (Int)) × ByteArray)) × (List (Int × Int × Int × Int × Int × (List (Int)) × ByteArray)))) : DS := ⟨tl [(0, .at (.whole 0)), (1, .at (.whole 16)), (5, .at (.int .i64 p.1))], lookO [(0, .row 28 (.two (.int .i64) (.two (.int .i64) (.two (.int .i64) (.two (.int .i64) (.two (.int .i64) (.two (.sl 3 (.int .i64)) .str)))))) false p.2.1), (16, .row 28 (.two (.int .i64) (.two (.int .i64) (.two (.int .i64) (.two (.int .i64) (.two (.int .i64) (.two (.sl 3 (.int .i64)) .str)))))) false p.2.2)]⟩
noncomputable def laws_eqPacketS.D0 (k : Nat) (j : Nat) (p : (Int × (List (Int × Int × Int × Int × Int × (List (Int)) × ByteArray)) × (List (Int × Int × Int × Int × Int × (List (Int)) × ByteArray)))) : Option (Bool) := loopK (normK [0, 16] (laws_eqPacketS.h 0)) (runK laws_eqPacketS.x k 0 [0, 16] laws_eqPacketS.h 0 (sub laws_eqPacketS.c [1, 1, 0, 1, 0, 0])) j (laws_eqPacketS.S0 p) (kBlk 0 (kSeq (runK laws_eqPacketS.x k 0 [0, 16] laws_eqPacketS.h 0 (sub laws_eqPacketS.c [1, 1, 1])) (fin tt laws_eqPacketS.ps laws_eqPacketS.rs laws_eqPacketS.vs .bool)))
theorem laws_eqPacketS.D0_eq (k : Nat) : ∀ j, laws_eqPacketS.D0 k j = laws_eqPacketS.l0 k j := by
  intro j
  induction j with
  | zero => rfl
  | succ j ih =>
    show _ = laws_eqPacketS.s0 k (laws_eqPacketS.l0 k j)
    rw [← ih]
    funext p
    kernel_rfl
def laws_eqPacketS.f (k : Nat) (a0 : List (Int × Int × Int × Int × Int × (List (Int)) × ByteArray)) (a1 : List (Int × Int × Int × Int × Int × (List (Int)) × ByteArray)) : Option (Bool) :=
  (bif ((a0.length : Int) != (a1.length : Int)) then some false else laws_eqPacketS.l0 k k ((0 : Int), a0, a1))
def laws_eqPacketS.K : Ctr := ⟨laws_eqPacketS.ps, laws_eqPacketS.rs, false, (.two (.sl 28 (.two (.int .i64) (.two (.int .i64) (.two (.int .i64) (.two (.int .i64) (.two (.int .i64) (.two (.sl 3 (.int .i64)) .str))))))) (.sl 28 (.two (.int .i64) (.two (.int .i64) (.two (.int .i64) (.two (.int .i64) (.two (.int .i64) (.two (.sl 3 (.int .i64)) .str)))))))), .bool, fun k x => laws_eqPacketS.f k x.1 x.2⟩
theorem laws_eqPacketS.eq (k : Nat) (x : (laws_eqPacketS.K.I).den) : func laws_eqPacketS.x laws_eqPacketS.h laws_eqPacketS.ps laws_eqPacketS.rs laws_eqPacketS.vs laws_eqPacketS.K.I laws_eqPacketS.K.O laws_eqPacketS.c k x = laws_eqPacketS.K.run k x := by
  show _ = laws_eqPacketS.f k x.1 x.2
  unfold laws_eqPacketS.f
  rw [← laws_eqPacketS.D0_eq k k]
  kernel_rfl
theorem laws_eqPacketS.ok : CtrOk Try.prog 29 laws_eqPacketS.K :=
  CtrOk.of (fn := Try.f29) (cd := laws_eqPacketS.c) (cx := laws_eqPacketS.x) (hs := laws_eqPacketS.h) (by kernel_rfl) (by kernel_rfl) (by kernel_rfl) (by kernel_rfl) tt_ok (envOk_cons laws_eqPacket.ok (envOk_nil)) (by kernel_rfl) (by kernel_rfl) (by kernel_rfl) (by kernel_rfl) fun k x r h => (laws_eqPacketS.eq k x).trans h
/-! laws.markText -/
noncomputable def laws_markText.c : Code := bodyOf Try.f80
def laws_markText.h : Nat → Hint := look ⟨[], [], []⟩ [(0, ⟨[0, 3], [], []⟩)]
def laws_markText.ps : List PK := [.one]
def laws_markText.rs : List RK := [.one true]
def laws_markText.vs : List ResultVar := [.tmp 2]
def laws_markText.x : Cx := ⟨tt, look none []⟩
def laws_markText.s0 (_k : Nat) (rec0 : (Int × ByteArray) → Option (ByteArray)) (p : (Int × ByteArray)) : Option (ByteArray) :=
  (bif (decide (p.1 > (0 : Int))) then (bif decide ((strOfNums [(IntKind.u8.wrap (IntKind.i64.wrap ((48 : Int) + (p.1.tmod (10 : Int)))))]).size + p.2.size ≤ 140737488351232) then rec0 ((IntKind.i64.wrap (p.1.tdiv (10 : Int))), ((strOfNums [(IntKind.u8.wrap (IntKind.i64.wrap ((48 : Int) + (p.1.tmod (10 : Int)))))]) ++ p.2)) else none) else (bif decide ((⟨#[109]⟩ : ByteArray).size + p.2.size ≤ 140737488351232) then some ((⟨#[109]⟩ : ByteArray) ++ p.2) else none))
def laws_markText.l0 (k : Nat) : Nat → (Int × ByteArray) → Option (ByteArray)
  | 0 => fun _ => none
  | j + 1 => laws_markText.s0 k (laws_markText.l0 k j)
def laws_markText.S0 (p : (Int × ByteArray)) : DS := ⟨tl [(0, .at (.int .i64 p.1)), (3, .at (.str p.2))], lookO []⟩
noncomputable def laws_markText.D0 (k : Nat) (j : Nat) (p : (Int × ByteArray)) : Option (ByteArray) := loopK (normK [] (laws_markText.h 0)) (runK laws_markText.x k 0 [] laws_markText.h 0 (sub laws_markText.c [1, 1, 1, 0, 0, 0])) j (laws_markText.S0 p) (kBlk 0 (kSeq (runK laws_markText.x k 0 [] laws_markText.h 0 (sub laws_markText.c [1, 1, 1, 1])) (fin tt laws_markText.ps laws_markText.rs laws_markText.vs .str)))
theorem laws_markText.D0_eq (k : Nat) : ∀ j, laws_markText.D0 k j = laws_markText.l0 k j := by
  intro j
  induction j with
  | zero => rfl
  | succ j ih =>
    show _ = laws_markText.s0 k (laws_markText.l0 k j)
    rw [← ih]
    funext p
    kernel_rfl
def laws_markText.f (k : Nat) (a0 : Int) : Option (ByteArray) :=
  (bif (decide (a0 ≤ (0 : Int))) then some (⟨#[109, 48]⟩ : ByteArray) else laws_markText.l0 k k (a0, ByteArray.empty))
def laws_markText.K : Ctr := ⟨laws_markText.ps, laws_markText.rs, false, (.int .i64), .str, fun k x => laws_markText.f k x⟩
theorem laws_markText.eq (k : Nat) (x : (laws_markText.K.I).den) : func laws_markText.x laws_markText.h laws_markText.ps laws_markText.rs laws_markText.vs laws_markText.K.I laws_markText.K.O laws_markText.c k x = laws_markText.K.run k x := by
  show _ = laws_markText.f k x
  unfold laws_markText.f
  rw [← laws_markText.D0_eq k k]
  kernel_rfl
theorem laws_markText.ok : CtrOk Try.prog 80 laws_markText.K :=
  CtrOk.of (fn := Try.f80) (cd := laws_markText.c) (cx := laws_markText.x) (hs := laws_markText.h) (by kernel_rfl) (by kernel_rfl) (by kernel_rfl) (by kernel_rfl) tt_ok (envOk_nil) (by kernel_rfl) (by kernel_rfl) (by kernel_rfl) (by kernel_rfl) fun k x r h => (laws_markText.eq k x).trans h
/-! laws.markStringS -/
noncomputable def laws_markStringS.c : Code := bodyOf Try.f57
def laws_markStringS.h : Nat → Hint := look ⟨[], [], []⟩ [(0, ⟨[0, 1, 5], [], []⟩)]
def laws_markStringS.ps : List PK := [.row, .one]
def laws_markStringS.rs : List RK := [.one true]
def laws_markStringS.vs : List ResultVar := [.tmp 4]
def laws_markStringS.x : Cx := ⟨tt, look none [(80, some laws_markText.K)]⟩
def laws_markStringS.s0 (k : Nat) (rec0 : (Int × Int × (List (ByteArray))) → Option (Int × (List (ByteArray)))) (p : (Int × Int × (List (ByteArray)))) : Option (Int × (List (ByteArray))) :=
  (bif (decide (p.2.1 < (p.2.2.length : Int))) then (laws_markText.f k p.1).bind fun r1 => (bif ((decide ((0 : Int) ≤ p.2.1)) && (decide (p.2.1 < (p.2.2.length : Int)))) then (p.2.2[p.2.1.toNat]?).bind fun x2 => rec0 ((IntKind.i64.wrap (p.1 + (1 : Int))), (IntKind.i64.wrap (p.2.1 + (1 : Int))), (p.2.2.set p.2.1.toNat r1)) else none) else some (p.1, p.2.2))
def laws_markStringS.l0 (k : Nat) : Nat → (Int × Int × (List (ByteArray))) → Option (Int × (List (ByteArray)))
  | 0 => fun _ => none
  | j + 1 => laws_markStringS.s0 k (laws_markStringS.l0 k j)
def laws_markStringS.S0 (p : (Int × Int × (List (ByteArray)))) : DS := ⟨tl [(0, .at (.whole 0)), (1, .at (.int .i64 p.1)), (5, .at (.int .i64 p.2.1))], lookO [(0, .row 9 .str true p.2.2)]⟩
noncomputable def laws_markStringS.D0 (k : Nat) (j : Nat) (p : (Int × Int × (List (ByteArray)))) : Option (Int × (List (ByteArray))) := loopK (normK [0] (laws_markStringS.h 0)) (runK laws_markStringS.x k 0 [0] laws_markStringS.h 0 (sub laws_markStringS.c [1, 0, 1, 0, 0])) j (laws_markStringS.S0 p) (kBlk 0 (kSeq (runK laws_markStringS.x k 0 [0] laws_markStringS.h 0 (sub laws_markStringS.c [1, 1])) (fin tt laws_markStringS.ps laws_markStringS.rs laws_markStringS.vs (.two (.int .i64) (.sl 9 .str)))))
theorem laws_markStringS.D0_eq (k : Nat) : ∀ j, laws_markStringS.D0 k j = laws_markStringS.l0 k j := by
  intro j
  induction j with
  | zero => rfl
  | succ j ih =>
    show _ = laws_markStringS.s0 k (laws_markStringS.l0 k j)
    rw [← ih]
    funext p
    kernel_rfl
def laws_markStringS.f (k : Nat) (a0 : List (ByteArray)) (a1 : Int) : Option (Int × (List (ByteArray))) :=
  laws_markStringS.l0 k k (a1, (0 : Int), a0)
def laws_markStringS.K : Ctr := ⟨laws_markStringS.ps, laws_markStringS.rs, false, (.two (.sl 9 .str) (.int .i64)), (.two (.int .i64) (.sl 9 .str)), fun k x => laws_markStringS.f k x.1 x.2⟩
theorem laws_markStringS.eq (k : Nat) (x : (laws_markStringS.K.I).den) : func laws_markStringS.x laws_markStringS.h laws_markStringS.ps laws_markStringS.rs laws_markStringS.vs laws_markStringS.K.I laws_markStringS.K.O laws_markStringS.c k x = laws_markStringS.K.run k x := by
  show _ = laws_markStringS.f k x.1 x.2
  unfold laws_markStringS.f
  rw [← laws_markStringS.D0_eq k k]
  kernel_rfl
theorem laws_markStringS.ok : CtrOk Try.prog 57 laws_markStringS.K :=
  CtrOk.of (fn := Try.f57) (cd := laws_markStringS.c) (cx := laws_markStringS.x) (hs := laws_markStringS.h) (by kernel_rfl) (by kernel_rfl) (by kernel_rfl) (by kernel_rfl) tt_ok (envOk_cons laws_markText.ok (envOk_nil)) (by kernel_rfl) (by kernel_rfl) (by kernel_rfl) (by kernel_rfl) fun k x r h => (laws_markStringS.eq k x).trans h
/-! laws.markPendingS -/
noncomputable def laws_markPendingS.c : Code := bodyOf Try.f58
def laws_markPendingS.h : Nat → Hint := look ⟨[], [], []⟩ [(0, ⟨[0, 1, 5], [], []⟩)]
def laws_markPendingS.ps : List PK := [.row, .one]
def laws_markPendingS.rs : List RK := [.one true]
def laws_markPendingS.vs : List ResultVar := [.tmp 4]
def laws_markPendingS.x : Cx := ⟨tt, look none [(80, some laws_markText.K)]⟩
def laws_markPendingS.s0 (k : Nat) (rec0 : (Int × Int × (List (Int × ByteArray × Int × Int))) → Option (Int × (List (Int × ByteArray × Int × Int)))) (p : (Int × Int × (List (Int × ByteArray × Int × Int)))) : Option (Int × (List (Int × ByteArray × Int × Int))) :=
  (bif (decide (p.2.1 < (p.2.2.length : Int))) then (bif ((decide ((0 : Int) ≤ p.2.1)) && (decide (p.2.1 < (p.2.2.length : Int)))) then (p.2.2[p.2.1.toNat]?).bind fun x1 => (laws_markText.f k (IntKind.i64.wrap (p.1 + (1 : Int)))).bind fun r2 => (bif ((decide ((0 : Int) ≤ p.2.1)) && (decide (p.2.1 < ((p.2.2.set p.2.1.toNat (p.1, x1.2)).length : Int)))) then ((p.2.2.set p.2.1.toNat (p.1, x1.2))[p.2.1.toNat]?).bind fun x3 => (bif ((decide ((0 : Int) ≤ p.2.1)) && (decide (p.2.1 < (((p.2.2.set p.2.1.toNat (p.1, x1.2)).set p.2.1.toNat (x3.1, r2, x3.2.2)).length : Int)))) then (((p.2.2.set p.2.1.toNat (p.1, x1.2)).set p.2.1.toNat (x3.1, r2, x3.2.2))[p.2.1.toNat]?).bind fun x4 => (bif ((decide ((0 : Int) ≤ p.2.1)) && (decide (p.2.1 < ((((p.2.2.set p.2.1.toNat (p.1, x1.2)).set p.2.1.toNat (x3.1, r2, x3.2.2)).set p.2.1.toNat (x4.1, x4.2.1, (IntKind.i64.wrap ((IntKind.i64.wrap (p.1 + (1 : Int))) + (1 : Int))), x4.2.2.2)).length : Int)))) then ((((p.2.2.set p.2.1.toNat (p.1, x1.2)).set p.2.1.toNat (x3.1, r2, x3.2.2)).set p.2.1.toNat (x4.1, x4.2.1, (IntKind.i64.wrap ((IntKind.i64.wrap (p.1 + (1 : Int))) + (1 : Int))), x4.2.2.2))[p.2.1.toNat]?).bind fun x5 => rec0 ((IntKind.i64.wrap ((IntKind.i64.wrap ((IntKind.i64.wrap ((IntKind.i64.wrap (p.1 + (1 : Int))) + (1 : Int))) + (1 : Int))) + (1 : Int))), (IntKind.i64.wrap (p.2.1 + (1 : Int))), ((((p.2.2.set p.2.1.toNat (p.1, x1.2)).set p.2.1.toNat (x3.1, r2, x3.2.2)).set p.2.1.toNat (x4.1, x4.2.1, (IntKind.i64.wrap ((IntKind.i64.wrap (p.1 + (1 : Int))) + (1 : Int))), x4.2.2.2)).set p.2.1.toNat (x5.1, x5.2.1, x5.2.2.1, (IntKind.i64.wrap ((IntKind.i64.wrap ((IntKind.i64.wrap (p.1 + (1 : Int))) + (1 : Int))) + (1 : Int)))))) else none) else none) else none) else none) else some (p.1, p.2.2))
def laws_markPendingS.l0 (k : Nat) : Nat → (Int × Int × (List (Int × ByteArray × Int × Int))) → Option (Int × (List (Int × ByteArray × Int × Int)))
  | 0 => fun _ => none
  | j + 1 => laws_markPendingS.s0 k (laws_markPendingS.l0 k j)
def laws_markPendingS.S0 (p : (Int × Int × (List (Int × ByteArray × Int × Int)))) : DS := ⟨tl [(0, .at (.whole 0)), (1, .at (.int .i64 p.1)), (5, .at (.int .i64 p.2.1))], lookO [(0, .row 92 (.two (.int .i64) (.two .str (.two (.int .i64) (.int .i64)))) true p.2.2)]⟩
noncomputable def laws_markPendingS.D0 (k : Nat) (j : Nat) (p : (Int × Int × (List (Int × ByteArray × Int × Int)))) : Option (Int × (List (Int × ByteArray × Int × Int))) := loopK (normK [0] (laws_markPendingS.h 0)) (runK laws_markPendingS.x k 0 [0] laws_markPendingS.h 0 (sub laws_markPendingS.c [1, 0, 1, 0, 0])) j (laws_markPendingS.S0 p) (kBlk 0 (kSeq (runK laws_markPendingS.x k 0 [0] laws_markPendingS.h 0 (sub laws_markPendingS.c [1, 1])) (fin tt laws_markPendingS.ps laws_markPendingS.rs laws_markPendingS.vs (.two (.int .i64) (.sl 92 (.two (.int .i64) (.two .str (.two (.int .i64) (.int .i64)))))))))
theorem laws_markPendingS.D0_eq (k : Nat) : ∀ j, laws_markPendingS.D0 k j = laws_markPendingS.l0 k j := by
  intro j
  induction j with
  | zero => rfl
  | succ j ih =>
    show _ = laws_markPendingS.s0 k (laws_markPendingS.l0 k j)
    rw [← ih]
    funext p
    kernel_rfl
def laws_markPendingS.f (k : Nat) (a0 : List (Int × ByteArray × Int × Int)) (a1 : Int) : Option (Int × (List (Int × ByteArray × Int × Int))) :=
  laws_markPendingS.l0 k k (a1, (0 : Int), a0)
def laws_markPendingS.K : Ctr := ⟨laws_markPendingS.ps, laws_markPendingS.rs, false, (.two (.sl 92 (.two (.int .i64) (.two .str (.two (.int .i64) (.int .i64))))) (.int .i64)), (.two (.int .i64) (.sl 92 (.two (.int .i64) (.two .str (.two (.int .i64) (.int .i64)))))), fun k x => laws_markPendingS.f k x.1 x.2⟩
theorem laws_markPendingS.eq (k : Nat) (x : (laws_markPendingS.K.I).den) : func laws_markPendingS.x laws_markPendingS.h laws_markPendingS.ps laws_markPendingS.rs laws_markPendingS.vs laws_markPendingS.K.I laws_markPendingS.K.O laws_markPendingS.c k x = laws_markPendingS.K.run k x := by
  show _ = laws_markPendingS.f k x.1 x.2
  unfold laws_markPendingS.f
  rw [← laws_markPendingS.D0_eq k k]
  kernel_rfl
theorem laws_markPendingS.ok : CtrOk Try.prog 58 laws_markPendingS.K :=
  CtrOk.of (fn := Try.f58) (cd := laws_markPendingS.c) (cx := laws_markPendingS.x) (hs := laws_markPendingS.h) (by kernel_rfl) (by kernel_rfl) (by kernel_rfl) (by kernel_rfl) tt_ok (envOk_cons laws_markText.ok (envOk_nil)) (by kernel_rfl) (by kernel_rfl) (by kernel_rfl) (by kernel_rfl) fun k x r h => (laws_markPendingS.eq k x).trans h
/-! laws.markEarlyS -/
noncomputable def laws_markEarlyS.c : Code := bodyOf Try.f59
def laws_markEarlyS.h : Nat → Hint := look ⟨[], [], []⟩ [(0, ⟨[0, 1, 5], [], []⟩)]
def laws_markEarlyS.ps : List PK := [.row, .one]
def laws_markEarlyS.rs : List RK := [.one true]
def laws_markEarlyS.vs : List ResultVar := [.tmp 4]
def laws_markEarlyS.x : Cx := ⟨tt, look none [(80, some laws_markText.K)]⟩
def laws_markEarlyS.s0 (k : Nat) (rec0 : (Int × Int × (List (Int × ByteArray))) → Option (Int × (List (Int × ByteArray)))) (p : (Int × Int × (List (Int × ByteArray)))) : Option (Int × (List (Int × ByteArray))) :=
  (bif (decide (p.2.1 < (p.2.2.length : Int))) then (bif ((decide ((0 : Int) ≤ p.2.1)) && (decide (p.2.1 < (p.2.2.length : Int)))) then (p.2.2[p.2.1.toNat]?).bind fun x1 => (laws_markText.f k (IntKind.i64.wrap (p.1 + (1 : Int)))).bind fun r2 => (bif ((decide ((0 : Int) ≤ p.2.1)) && (decide (p.2.1 < ((p.2.2.set p.2.1.toNat (p.1, x1.2)).length : Int)))) then ((p.2.2.set p.2.1.toNat (p.1, x1.2))[p.2.1.toNat]?).bind fun x3 => rec0 ((IntKind.i64.wrap ((IntKind.i64.wrap (p.1 + (1 : Int))) + (1 : Int))), (IntKind.i64.wrap (p.2.1 + (1 : Int))), ((p.2.2.set p.2.1.toNat (p.1, x1.2)).set p.2.1.toNat (x3.1, r2))) else none) else none) else some (p.1, p.2.2))
def laws_markEarlyS.l0 (k : Nat) : Nat → (Int × Int × (List (Int × ByteArray))) → Option (Int × (List (Int × ByteArray)))
  | 0 => fun _ => none
  | j + 1 => laws_markEarlyS.s0 k (laws_markEarlyS.l0 k j)
def laws_markEarlyS.S0 (p : (Int × Int × (List (Int × ByteArray)))) : DS := ⟨tl [(0, .at (.whole 0)), (1, .at (.int .i64 p.1)), (5, .at (.int .i64 p.2.1))], lookO [(0, .row 87 (.two (.int .i64) .str) true p.2.2)]⟩
noncomputable def laws_markEarlyS.D0 (k : Nat) (j : Nat) (p : (Int × Int × (List (Int × ByteArray)))) : Option (Int × (List (Int × ByteArray))) := loopK (normK [0] (laws_markEarlyS.h 0)) (runK laws_markEarlyS.x k 0 [0] laws_markEarlyS.h 0 (sub laws_markEarlyS.c [1, 0, 1, 0, 0])) j (laws_markEarlyS.S0 p) (kBlk 0 (kSeq (runK laws_markEarlyS.x k 0 [0] laws_markEarlyS.h 0 (sub laws_markEarlyS.c [1, 1])) (fin tt laws_markEarlyS.ps laws_markEarlyS.rs laws_markEarlyS.vs (.two (.int .i64) (.sl 87 (.two (.int .i64) .str))))))
theorem laws_markEarlyS.D0_eq (k : Nat) : ∀ j, laws_markEarlyS.D0 k j = laws_markEarlyS.l0 k j := by
  intro j
  induction j with
  | zero => rfl
  | succ j ih =>
    show _ = laws_markEarlyS.s0 k (laws_markEarlyS.l0 k j)
    rw [← ih]
    funext p
    kernel_rfl
def laws_markEarlyS.f (k : Nat) (a0 : List (Int × ByteArray)) (a1 : Int) : Option (Int × (List (Int × ByteArray))) :=
  laws_markEarlyS.l0 k k (a1, (0 : Int), a0)
def laws_markEarlyS.K : Ctr := ⟨laws_markEarlyS.ps, laws_markEarlyS.rs, false, (.two (.sl 87 (.two (.int .i64) .str)) (.int .i64)), (.two (.int .i64) (.sl 87 (.two (.int .i64) .str))), fun k x => laws_markEarlyS.f k x.1 x.2⟩
theorem laws_markEarlyS.eq (k : Nat) (x : (laws_markEarlyS.K.I).den) : func laws_markEarlyS.x laws_markEarlyS.h laws_markEarlyS.ps laws_markEarlyS.rs laws_markEarlyS.vs laws_markEarlyS.K.I laws_markEarlyS.K.O laws_markEarlyS.c k x = laws_markEarlyS.K.run k x := by
  show _ = laws_markEarlyS.f k x.1 x.2
  unfold laws_markEarlyS.f
  rw [← laws_markEarlyS.D0_eq k k]
  kernel_rfl
theorem laws_markEarlyS.ok : CtrOk Try.prog 59 laws_markEarlyS.K :=
  CtrOk.of (fn := Try.f59) (cd := laws_markEarlyS.c) (cx := laws_markEarlyS.x) (hs := laws_markEarlyS.h) (by kernel_rfl) (by kernel_rfl) (by kernel_rfl) (by kernel_rfl) tt_ok (envOk_cons laws_markText.ok (envOk_nil)) (by kernel_rfl) (by kernel_rfl) (by kernel_rfl) (by kernel_rfl) fun k x r h => (laws_markEarlyS.eq k x).trans h
/-! laws.markIntS -/
noncomputable def laws_markIntS.c : Code := bodyOf Try.f60
def laws_markIntS.h : Nat → Hint := look ⟨[], [], []⟩ [(0, ⟨[0, 1, 5], [], []⟩)]
def laws_markIntS.ps : List PK := [.row, .one]
def laws_markIntS.rs : List RK := [.one true]
def laws_markIntS.vs : List ResultVar := [.tmp 4]
def laws_markIntS.x : Cx := ⟨tt, look none []⟩
def laws_markIntS.s0 (_k : Nat) (rec0 : (Int × Int × (List (Int))) → Option (Int × (List (Int)))) (p : (Int × Int × (List (Int)))) : Option (Int × (List (Int))) :=
  (bif (decide (p.2.1 < (p.2.2.length : Int))) then (bif ((decide ((0 : Int) ≤ p.2.1)) && (decide (p.2.1 < (p.2.2.length : Int)))) then (p.2.2[p.2.1.toNat]?).bind fun x1 => rec0 ((IntKind.i64.wrap (p.1 + (1 : Int))), (IntKind.i64.wrap (p.2.1 + (1 : Int))), (p.2.2.set p.2.1.toNat p.1)) else none) else some (p.1, p.2.2))
def laws_markIntS.l0 (k : Nat) : Nat → (Int × Int × (List (Int))) → Option (Int × (List (Int)))
  | 0 => fun _ => none
  | j + 1 => laws_markIntS.s0 k (laws_markIntS.l0 k j)
def laws_markIntS.S0 (p : (Int × Int × (List (Int)))) : DS := ⟨tl [(0, .at (.whole 0)), (1, .at (.int .i64 p.1)), (5, .at (.int .i64 p.2.1))], lookO [(0, .row 3 (.int .i64) true p.2.2)]⟩
noncomputable def laws_markIntS.D0 (k : Nat) (j : Nat) (p : (Int × Int × (List (Int)))) : Option (Int × (List (Int))) := loopK (normK [0] (laws_markIntS.h 0)) (runK laws_markIntS.x k 0 [0] laws_markIntS.h 0 (sub laws_markIntS.c [1, 0, 1, 0, 0])) j (laws_markIntS.S0 p) (kBlk 0 (kSeq (runK laws_markIntS.x k 0 [0] laws_markIntS.h 0 (sub laws_markIntS.c [1, 1])) (fin tt laws_markIntS.ps laws_markIntS.rs laws_markIntS.vs (.two (.int .i64) (.sl 3 (.int .i64))))))
theorem laws_markIntS.D0_eq (k : Nat) : ∀ j, laws_markIntS.D0 k j = laws_markIntS.l0 k j := by
  intro j
  induction j with
  | zero => rfl
  | succ j ih =>
    show _ = laws_markIntS.s0 k (laws_markIntS.l0 k j)
    rw [← ih]
    funext p
    kernel_rfl
def laws_markIntS.f (k : Nat) (a0 : List (Int)) (a1 : Int) : Option (Int × (List (Int))) :=
  laws_markIntS.l0 k k (a1, (0 : Int), a0)
def laws_markIntS.K : Ctr := ⟨laws_markIntS.ps, laws_markIntS.rs, false, (.two (.sl 3 (.int .i64)) (.int .i64)), (.two (.int .i64) (.sl 3 (.int .i64))), fun k x => laws_markIntS.f k x.1 x.2⟩
theorem laws_markIntS.eq (k : Nat) (x : (laws_markIntS.K.I).den) : func laws_markIntS.x laws_markIntS.h laws_markIntS.ps laws_markIntS.rs laws_markIntS.vs laws_markIntS.K.I laws_markIntS.K.O laws_markIntS.c k x = laws_markIntS.K.run k x := by
  show _ = laws_markIntS.f k x.1 x.2
  unfold laws_markIntS.f
  rw [← laws_markIntS.D0_eq k k]
  kernel_rfl
theorem laws_markIntS.ok : CtrOk Try.prog 60 laws_markIntS.K :=
  CtrOk.of (fn := Try.f60) (cd := laws_markIntS.c) (cx := laws_markIntS.x) (hs := laws_markIntS.h) (by kernel_rfl) (by kernel_rfl) (by kernel_rfl) (by kernel_rfl) tt_ok (envOk_nil) (by kernel_rfl) (by kernel_rfl) (by kernel_rfl) (by kernel_rfl) fun k x r h => (laws_markIntS.eq k x).trans h
/-! laws.markChan -/
noncomputable def laws_markChan.c : Code := bodyOf Try.f19
def laws_markChan.h : Nat → Hint := look ⟨[], [], []⟩ []
def laws_markChan.ps : List PK := [.aggw 9 [3, 4, 6, 7, 8], .one]
def laws_markChan.rs : List RK := [.one true]
def laws_markChan.vs : List ResultVar := [.tmp 4]
def laws_markChan.x : Cx := ⟨tt, look none [(57, some laws_markStringS.K), (58, some laws_markPendingS.K), (59, some laws_markEarlyS.K), (60, some laws_markIntS.K)]⟩
def laws_markChan.f (k : Nat) (_a0_0 : Int) (_a0_1 : Int) (_a0_2 : Int) (a0_3 : List (ByteArray)) (a0_4 : List (Int × ByteArray × Int × Int)) (_a0_5 : Int) (a0_6 : List (Int × ByteArray)) (a0_7 : List (Int)) (a0_8 : List (ByteArray)) (a1 : Int) : Option (Int × (List (ByteArray)) × (List (Int × ByteArray × Int × Int)) × (List (Int × ByteArray)) × (List (Int)) × (List (ByteArray))) :=
  (laws_markStringS.f k a0_3 a1).bind fun r1 => (laws_markPendingS.f k a0_4 r1.1).bind fun r2 => (laws_markEarlyS.f k a0_6 r2.1).bind fun r3 => (laws_markIntS.f k a0_7 r3.1).bind fun r4 => (laws_markStringS.f k a0_8 r4.1).bind fun r5 => some (r5.1, r1.2, r2.2, r3.2, r4.2, r5.2)
def laws_markChan.K : Ctr := ⟨laws_markChan.ps, laws_markChan.rs, false, (.two (.int .i64) (.two (.int .i64) (.two (.int .i64) (.two (.sl 9 .str) (.two (.sl 92 (.two (.int .i64) (.two .str (.two (.int .i64) (.int .i64))))) (.two (.int .i64) (.two (.sl 87 (.two (.int .i64) .str)) (.two (.sl 3 (.int .i64)) (.two (.sl 9 .str) (.int .i64)))))))))), (.two (.int .i64) (.two (.sl 9 .str) (.two (.sl 92 (.two (.int .i64) (.two .str (.two (.int .i64) (.int .i64))))) (.two (.sl 87 (.two (.int .i64) .str)) (.two (.sl 3 (.int .i64)) (.sl 9 .str)))))), fun k x => laws_markChan.f k x.1 x.2.1 x.2.2.1 x.2.2.2.1 x.2.2.2.2.1 x.2.2.2.2.2.1 x.2.2.2.2.2.2.1 x.2.2.2.2.2.2.2.1 x.2.2.2.2.2.2.2.2.1 x.2.2.2.2.2.2.2.2.2⟩
theorem laws_markChan.eq (k : Nat) (x : (laws_markChan.K.I).den) : func laws_markChan.x laws_markChan.h laws_markChan.ps laws_markChan.rs laws_markChan.vs laws_markChan.K.I laws_markChan.K.O laws_markChan.c k x = laws_markChan.K.run k x := by
  show _ = laws_markChan.f k x.1 x.2.1 x.2.2.1 x.2.2.2.1 x.2.2.2.2.1 x.2.2.2.2.2.1 x.2.2.2.2.2.2.1 x.2.2.2.2.2.2.2.1 x.2.2.2.2.2.2.2.2.1 x.2.2.2.2.2.2.2.2.2
  kernel_rfl
theorem laws_markChan.ok : CtrOk Try.prog 19 laws_markChan.K :=
  CtrOk.of (fn := Try.f19) (cd := laws_markChan.c) (cx := laws_markChan.x) (hs := laws_markChan.h) (by kernel_rfl) (by kernel_rfl) (by kernel_rfl) (by kernel_rfl) tt_ok (envOk_cons laws_markStringS.ok (envOk_cons laws_markPendingS.ok (envOk_cons laws_markEarlyS.ok (envOk_cons laws_markIntS.ok (envOk_nil))))) (by kernel_rfl) (by kernel_rfl) (by kernel_rfl) (by kernel_rfl) fun k x r h => (laws_markChan.eq k x).trans h
end Go.Proofs.Ytpheniajdbbphaa.DI
