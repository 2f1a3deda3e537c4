import Derived.Test.YtnoceajodjaplaaGreatProg
import Derived.KernelRfl
import Derived.Test.YtnoceajodjaplaaGreatTd
/- What the sums of crc make, for all calls; no condition. -/
namespace Go.Tw.A
open Go Go.Tw Go.Proofs

theorem good0 : (Tryz.prog.funcs.toList.all fun fn => !(fn.name == "runtime.NumGoroutine")) = true := by kernel_rfl
theorem good : Good Tryz.prog := by
  intro f fn hf
  have := List.all_eq_true.1 good0 fn (Array.mem_toList_iff.2 (Array.mem_of_getElem? hf))
  simpa using this

def crcTab (n : Nat) : Nat := [0, 498536548, 997073096, 651767980, 1994146192, 1802195444, 1303535960, 1342533948, 3988292384, 4027552580, 3604390888, 3412177804, 2607071920, 2262029012, 2685067896, 3183342108].getD n 0
def crcHalf (n : B8) : BitVec 32 := BitVec.ofNat 32 (crcTab (Nat.land n.toNat 15))

theorem half0 : belowAll (fun i => call Alg.prop Tryz.prog true (fun _ => none) 100000 300 [.u .u8 (BitVec.ofNat 8 i)] ⟨0, .nil⟩ (fun v _ => v = .u .u32 (crcHalf (BitVec.ofNat 8 i)))) 256
  = belowEach (fun i => AV.u .u32 (crcHalf (BitVec.ofNat 8 i)) = AV.u .u32 (crcHalf (BitVec.ofNat 8 i))) 256 := by kernel_rfl
end Go.Tw.A
namespace Go.Tw.A
open Go Go.Tw Go.Proofs
def sHalf : List AV → Heap → (AV → Heap → Prop) → Prop := fun args h Kc => match args with
  | [.u .u8 n] => Kc (.u .u32 (crcHalf n)) h
  | _ => False
noncomputable def sp1 : Specs Prop := Specs.add (fun _ => none) 300 sHalf

theorem sp1_ok : SpOk Tryz.prog sp1 := by
  refine SpOk.nil.add (by kernel_rfl) ?_
  intro args h Kc hs K w vs hR ha
  unfold sHalf at hs
  split at hs
  · rename_i n
    have hk := belowAll_at (half0 ▸ belowEach_of (fun _ => rfl) 256) n.toNat n.isLt
    simp only [BitVec.ofNat_toNat] at hk
    rw [show BitVec.setWidth 8 n = n from BitVec.setWidth_eq n] at hk
    exact Runs.pure good SpOk.nil ⟨hk⟩ rfl rfl hR ha hs
  · exact hs.elim

def crcStep (x : BitVec 32) (c : B8) : BitVec 32 :=
  let x := x ^^^ BitVec.ofNat 32 c.toNat
  let x := (x >>> 4) ^^^ crcHalf (BitVec.ofNat 8 x.toNat)
  (x >>> 4) ^^^ crcHalf (BitVec.ofNat 8 x.toNat)

theorem step0 (x : BitVec 32) (c : B8) : call Alg.prop Tryz.prog false sp1 100000 230 [.u .u32 x, .u .u8 c] ⟨0, .nil⟩ (fun v _ => v = .u .u32 (crcStep x c)) = (AV.u .u32 (crcStep x c) = AV.u .u32 (crcStep x c)) := by kernel_rfl
end Go.Tw.A
namespace Go.Tw.A
open Go Go.Tw Go.Proofs
def sStep : List AV → Heap → (AV → Heap → Prop) → Prop := fun args h Kc => match args with
  | [.u .u32 x, .u .u8 c] => Kc (.u .u32 (crcStep x c)) h
  | _ => False
noncomputable def sp2 : Specs Prop := Specs.add sp1 230 sStep

theorem sp2_ok : SpOk Tryz.prog sp2 := by
  refine sp1_ok.add (by kernel_rfl) ?_
  intro args h Kc hs K w vs hR ha
  unfold sStep at hs
  split at hs
  · rename_i x c
    exact Runs.pure good sp1_ok (Runs.of (step0 x c) rfl) rfl rfl hR ha hs
  · exact hs.elim
end Go.Tw.A
