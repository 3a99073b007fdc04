import Derived.Test.YtpgkfndbfocibaaGreatSepR
namespace Go.Own
open Go
def stv (l : List UInt8) : Value := .string ⟨l.toArray⟩
section
variable {P : Program} {A : Act} {o : Oper} {x y p : Operand} {l m : List UInt8} {t : TypeId}
theorem ba_list (l : List UInt8) : (ByteArray.mk l.toArray).toList = l := by
 rw [ByteArray.toList_eq]
theorem V_lenT (ho : o.op = .call { callee := .builtin .len, args := #[x], argTypes := #[t] }) (hx : EV A x = stv l) (ht : P.underlying t = some .string) : Val P A o (.int .i64 (l.length : Int)) := fun w => by
 unfold execOp; simp [ho, hx, stv, resolve, invoke, builtin, Builtin.len_, goInt, run_underlying ht]; rfl
theorem V_idxT {kd : IntKind} {z : Int} {b : UInt8} {k : Nat} (ho : o.op = .index t x p) (hx : EV A x = stv l) (hp : EV A p = .int kd z) (hz : z = (k : Int)) (hb : l[k]? = some b) (ht : P.underlying t = some .string) : Val P A o (.int .u8 (b.toNat : Int)) := fun w => by
 have e : (ByteArray.mk l.toArray)[k]? = some b := by
  have hk := (List.getElem?_eq_some_iff.1 hb).1
  rw [getElem?_pos (ByteArray.mk l.toArray) k (show k < l.toArray.size by simpa using hk)]
  have := (List.getElem?_eq_some_iff.1 hb).2
  rw [← this]; rfl
 unfold execOp; simp [ho, hx, hp, stv, Instr.index, asIntOf, run_underlying ht, hz, e]
theorem eqGuard_str {op : BinOp} {a b : ByteArray} {w : World} : Sem.run P (eqGuard op t x y (.string a) (.string b)) w = .ok () w := by
 unfold eqGuard; cases op <;> simp
theorem V_eqlT {t' : TypeId} (ho : o.op = .binOp .eql t x y t') (hx : EV A x = stv l) (hy : EV A y = stv m) : Val P A o (.bool (decide (l = m))) := fun w => by
 unfold execOp; simp [ho, hx, hy, stv, binOp, Op.stringOp, ba_list, eqGuard_str]
 by_cases h : l = m <;> simp [h]
theorem V_neqT {t' : TypeId} (ho : o.op = .binOp .neq t x y t') (hx : EV A x = stv l) (hy : EV A y = stv m) : Val P A o (.bool (decide (l ≠ m))) := fun w => by
 unfold execOp; simp [ho, hx, hy, stv, binOp, Op.stringOp, ba_list, eqGuard_str]
 by_cases h : l = m <;> simp [h]
theorem ba_ext {a b : Nat} : (ByteArray.mk l.toArray).extract a b = ⟨((l.take b).drop a).toArray⟩ := by
 apply ByteArray.ext
 rw [ByteArray.data_extract, List.extract_toArray, List.extract_eq_take_drop, List.drop_take]
theorem V_sliceT {lo hi : Operand} {ka kb : IntKind} {za zb : Int} {a b : Nat} (ho : o.op = .slice t x (some lo) (some hi) none) (hx : EV A x = stv l) (ha : EV A lo = .int ka za) (hb : EV A hi = .int kb zb) (hza : za = (a : Int)) (hzb : zb = (b : Int)) (hab : a ≤ b) (hbl : b ≤ l.length)
  (ht : P.underlying t = some .string) : Val P A o (stv ((l.take b).drop a)) := fun w => by
 unfold execOp; simp [ho, hx, ha, hb, stv, Instr.sliceAt, Instr.slice, Instr.sliceBounds, Instr.sliceBound, asIntOf, run_underlying ht, hza, hzb]
 rw [if_pos (show b ≤ (ByteArray.mk l.toArray).size from hbl), if_pos hab, ba_ext]
theorem V_sliceLT {lo : Operand} {ka : IntKind} {za : Int} {a : Nat} (ho : o.op = .slice t x (some lo) none none) (hx : EV A x = stv l) (ha : EV A lo = .int ka za) (hza : za = (a : Int)) (hab : a ≤ l.length)
  (ht : P.underlying t = some .string) : Val P A o (stv (l.drop a)) := fun w => by
 unfold execOp; simp [ho, hx, ha, stv, Instr.sliceAt, Instr.slice, Instr.sliceBounds, Instr.sliceBound, asIntOf, run_underlying ht, hza]
 rw [if_pos (show a ≤ (ByteArray.mk l.toArray).size from hab), ba_ext]
 rw [show (ByteArray.mk l.toArray).size = l.length from rfl, List.take_length]
end
end Go.Own
