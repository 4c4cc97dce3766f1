import JvmDerived
import JvmDerived.Pilot.@@N@@Statement
import JvmDerived.Pilot.@@N@@Code
set_option linter.unusedVariables false
set_option linter.unusedSimpArgs false
namespace Jvm.JX
open Sem ClassFile Op Lib
abbrev Cel : Type := FieldType × Nat × Bool × (Nat → Value)
abbrev AH : Type := Nat × (Nat → Cel)
abbrev MInfo : Type := Nat × Nat × Nat × Option FieldType × Jvm.Room
abbrev Prog : Type := (Nat → Nat → Option (Instr × Nat × Int)) × (Nat → MInfo) × (Nat → FieldType) × Nat
abbrev Fm : Type := Nat × List Slot × List Value × Nat × Nat × AH
def na (P : Prog) (m : Nat) : Nat := (P.2.1 m).1
def ml (P : Prog) (m : Nat) : Nat := (P.2.1 m).2.1
def kd (P : Prog) (m : Nat) : Nat := (P.2.1 m).2.2.1
def rt (P : Prog) (m : Nat) : Option FieldType := (P.2.1 m).2.2.2.1
def rm (P : Prog) (m : Nat) : Jvm.Room := (P.2.1 m).2.2.2.2
def isO (H : AH) (a : Nat) : Bool := match (H.2 a).1 with | .object _ => true | _ => false
def isOw (H : AH) (a : Nat) : Bool := isO H a && (H.2 a).2.2.1
def inA (H : AH) (a : Nat) (t : FieldType) (i : Int32) : Bool := decide ((H.2 a).1 = .array t) && !decide (i < 0) && decide (i.toNatClampNeg < (H.2 a).2.1)
def inAw (H : AH) (a : Nat) (t : FieldType) (i : Int32) : Bool := inA H a t i && (H.2 a).2.2.1
def isA (H : AH) (a : Nat) : Bool := match (H.2 a).1 with | .array _ => true | _ => false
def elt (H : AH) (a : Nat) (i : Int32) : Value := (H.2 a).2.2.2 i.toNatClampNeg
def fld (H : AH) (a k : Nat) : Value := (H.2 a).2.2.2 k
def alen (H : AH) (a : Nat) : Nat := (H.2 a).2.1
def wr (H : AH) (a j : Nat) (v : Value) : AH := (H.1, fun b => if b = a then ((H.2 a).1, (H.2 a).2.1, (H.2 a).2.2.1, fun i => if i = j then v else (H.2 a).2.2.2 i) else H.2 b)
def okv : FieldType → Value → Bool
  | .int, .int _ => true
  | .boolean, .int z => z == 0 || z == 1
  | .byte, .int z => z.toInt8.toInt32 == z
  | .long, .long _ => true
  | .array _, .ref _ => true
  | _, _ => false
def mkO (P : Prog) (H : AH) : AH := (H.1 + 1, fun b => if b = H.1 then (.object "", P.2.2.2, true, fun k => defaultValue (P.2.2.1 k)) else H.2 b)
def mkA (t : FieldType) (n : Nat) (H : AH) : AH := (H.1 + 1, fun b => if b = H.1 then (.array t, n, true, fun _ => defaultValue t) else H.2 b)
def cat1 : Slot → Bool | .unset => true | .val v => v.category == 1 | .second => false
def cs (S : List Value) : Nat := (S.map fun v => v.category).sum
def stl (L : List Slot) (i : Nat) (v : Value) : Option (List Slot) :=
  match L[i]? with
  | some .unset => some (L.set i (.val v))
  | some (.val w) => if w.category = 1 then some (L.set i (.val v)) else if i + 1 < L.length then some ((L.set (i + 1) .unset).set i (.val v)) else none
  | some .second => if 1 ≤ i then some ((L.set (i - 1) .unset).set i (.val v)) else none
  | none => none
def stL (L : List Slot) (i : Nat) (v : Value) : Option (List Slot) :=
  match L[i]?, L[i + 1]? with
  | some (.val w), some o2 => if w.category = 2 then some ((L.set i (.val v)).set (i + 1) .second) else if cat1 o2 = true then some ((L.set i (.val v)).set (i + 1) .second) else none
  | some .unset, some o2 => if cat1 o2 = true then some ((L.set i (.val v)).set (i + 1) .second) else none
  | _, _ => none
def ent (P : Prog) (m : Nat) (a : List Value) : List Slot := Sym.laidSlots a ++ List.replicate (ml P m - (Sym.laidSlots a).length) .unset
def ilen : Instr → Nat
  | .bipush _ | .iload _ | .istore _ | .aload _ | .astore _ | .lload _ | .lstore _ | .newarray _ | .ldc _ => 2
  | .sipush _ | .getfield _ | .putfield _ | .new _ | .invokevirtual _ | .invokestatic _ | .invokespecial _ | .ldc2_w _ | .goto _ | .ifCond _ _ | .if_icmp _ _ | .iinc _ _ => 3
  | _ => 1
def ldI (L : List Slot) (i : Nat) : Option Value := match L[i]? with | some (.val (.int x)) => some (.int x) | _ => none
def ldJ (L : List Slot) (i : Nat) : Option Value := match L[i]? with | some (.val (.long x)) => some (.long x) | _ => none
def ldR (L : List Slot) (i : Nat) : Option Value := match L[i]? with | some (.val (.ref x)) => some (.ref x) | _ => none
def jmp (pc : Nat) (o : Int) : Option Nat := if 0 ≤ (pc : Int) + o then some ((pc : Int) + o).toNat else none
def ret (P : Prog) (m : Nat) (ins : Instr) (S : List Value) : Option (Option Value) :=
  match ins with
  | .return_ => if rt P m = none ∧ S = [] then some none else none
  | .ireturn => match S, rt P m with
    | .int z :: _, some .int => some (some (.int z))
    | .int z :: _, some .boolean => if z = 0 ∨ z = 1 then some (some (.int z)) else none
    | _, _ => none
  | .lreturn => match S, rt P m with
    | .long z :: _, some .long => some (some (.long z))
    | _, _ => none
  | _ => none
def rcv (H : AH) : List Value → Bool | .ref a :: _ => isO H a | _ => false
def may (P : Prog) (m m' : Nat) (a r : List Value) (k n : Nat) (H : AH) : Bool :=
  decide ((Sym.laidSlots a).length ≤ ml P m') && decide (a.length = na P m') && decide ((rm P m').frames + 1 ≤ (rm P m).frames) && decide (cs r + (ml P m' + 11) + (rm P m').locals ≤ (rm P m).locals)
    && (decide ((rm P m').cells = 0 ∧ (rm P m').slots = 0) || decide (k + (rm P m').cells ≤ (rm P m).cells ∧ n + (rm P m').slots ≤ (rm P m).slots))
    && (decide (kd P m' = 0) || rcv H a)
def kindOk : Instr → Nat → Bool
  | .invokevirtual _, k => k == 1 || k == 2
  | .invokestatic _, k => k == 0
  | .invokespecial _, k => k == 3
  | _, _ => false
def cal1 (P : Prog) (m : Nat) (ins : Instr) (aux : Int) (S : List Value) (k n : Nat) (H : AH) : Option (Nat × List Value × List Value) :=
  if 0 ≤ aux ∧ kindOk ins (kd P aux.toNat) = true ∧ may P m aux.toNat (S.take (na P aux.toNat)).reverse (S.drop (na P aux.toNat)) k n H = true
  then some (aux.toNat, (S.take (na P aux.toNat)).reverse, S.drop (na P aux.toNat)) else none
def cal (P : Prog) (m : Nat) (ins : Instr) (aux : Int) (S : List Value) (k n : Nat) (H : AH) : Option (Nat × List Value × List Value) :=
  match ins with
  | .invokevirtual _ | .invokestatic _ | .invokespecial _ => cal1 P m ins aux S k n H
  | _ => none
def opI : Instr → Option (Int32 → Int32 → Int32)
  | .iadd => some fun x y => x + y
  | .isub => some fun x y => x - y
  | .imul => some fun x y => x * y
  | .iand => some fun x y => x &&& y
  | .ior => some fun x y => x ||| y
  | .ixor => some fun x y => x ^^^ y
  | .ishl => some fun x y => x <<< (y &&& 31)
  | .ishr => some fun x y => x >>> (y &&& 31)
  | .iushr => some Jvm.Free.XT.ushr
  | _ => none
def opJ : Instr → Option (Int64 → Int64 → Int64)
  | .ladd => some fun x y => x + y
  | .lsub => some fun x y => x - y
  | .lmul => some fun x y => x * y
  | .land => some fun x y => x &&& y
  | .lor => some fun x y => x ||| y
  | .lxor => some fun x y => x ^^^ y
  | _ => none
def opS : Instr → Option (Int64 → Int32 → Int64)
  | .lshl => some fun x y => x <<< (y.toInt64 &&& 63)
  | .lshr => some fun x y => x >>> (y.toInt64 &&& 63)
  | .lushr => some Jvm.Free.XT.ushrL
  | _ => none
def stp (P : Prog) (m : Nat) (ins : Instr) (len : Nat) (aux : Int) (pc : Nat) (L : List Slot) (S : List Value) (k n : Nat) (H : AH) : Option Fm :=
  match ins with
  | .iconst i => some (pc + len, L, .int (Int32.ofInt i) :: S, k, n, H)
  | .bipush i => some (pc + len, L, .int (Int8.ofInt i).toInt32 :: S, k, n, H)
  | .sipush i => some (pc + len, L, .int (Int16.ofInt i).toInt32 :: S, k, n, H)
  | .lconst i => some (pc + len, L, .long (Int64.ofNat i) :: S, k, n, H)
  | .ldc _ => some (pc + len, L, .int (Int32.ofInt aux) :: S, k, n, H)
  | .ldc2_w _ => some (pc + len, L, .long (Int64.ofInt aux) :: S, k, n, H)
  | .iload i => (ldI L i).map fun v => (pc + len, L, v :: S, k, n, H)
  | .iload_n i => (ldI L i.val).map fun v => (pc + len, L, v :: S, k, n, H)
  | .lload i => (ldJ L i).map fun v => (pc + len, L, v :: S, k, n, H)
  | .lload_n i => (ldJ L i.val).map fun v => (pc + len, L, v :: S, k, n, H)
  | .aload i => (ldR L i).map fun v => (pc + len, L, v :: S, k, n, H)
  | .aload_n i => (ldR L i.val).map fun v => (pc + len, L, v :: S, k, n, H)
  | .istore i => match S with | .int x :: S => (stl L i (.int x)).map fun L => (pc + len, L, S, k, n, H) | _ => none
  | .istore_n i => match S with | .int x :: S => (stl L i.val (.int x)).map fun L => (pc + len, L, S, k, n, H) | _ => none
  | .astore i => match S with | .ref x :: S => (stl L i (.ref x)).map fun L => (pc + len, L, S, k, n, H) | _ => none
  | .astore_n i => match S with | .ref x :: S => (stl L i.val (.ref x)).map fun L => (pc + len, L, S, k, n, H) | _ => none
  | .lstore i => match S with | .long x :: S => (stL L i (.long x)).map fun L => (pc + len, L, S, k, n, H) | _ => none
  | .lstore_n i => match S with | .long x :: S => (stL L i.val (.long x)).map fun L => (pc + len, L, S, k, n, H) | _ => none
  | .iinc i c => match L[i]? with | some (.val (.int x)) => some (pc + len, L.set i (.val (.int (x + Int32.ofInt c))), S, k, n, H) | _ => none
  | .iadd | .isub | .imul | .iand | .ior | .ixor | .ishl | .ishr | .iushr => match S with | .int y :: .int x :: S => (opI ins).map fun f => (pc + len, L, .int (f x y) :: S, k, n, H) | _ => none
  | .ladd | .lsub | .lmul | .land | .lor | .lxor => match S with | .long y :: .long x :: S => (opJ ins).map fun f => (pc + len, L, .long (f x y) :: S, k, n, H) | _ => none
  | .lshl | .lshr | .lushr => match S with | .int y :: .long x :: S => (opS ins).map fun f => (pc + len, L, .long (f x y) :: S, k, n, H) | _ => none
  | .idiv => match S with | .int y :: .int x :: S => if y = 0 then none else some (pc + len, L, .int (x / y) :: S, k, n, H) | _ => none
  | .irem => match S with | .int y :: .int x :: S => if y = 0 then none else some (pc + len, L, .int (x % y) :: S, k, n, H) | _ => none
  | .ldiv => match S with | .long y :: .long x :: S => if y = 0 then none else some (pc + len, L, .long (x / y) :: S, k, n, H) | _ => none
  | .lrem => match S with | .long y :: .long x :: S => if y = 0 then none else some (pc + len, L, .long (x % y) :: S, k, n, H) | _ => none
  | .ineg => match S with | .int x :: S => some (pc + len, L, .int (-x) :: S, k, n, H) | _ => none
  | .lneg => match S with | .long x :: S => some (pc + len, L, .long (-x) :: S, k, n, H) | _ => none
  | .i2l => match S with | .int x :: S => some (pc + len, L, .long x.toInt64 :: S, k, n, H) | _ => none
  | .l2i => match S with | .long x :: S => some (pc + len, L, .int x.toInt32 :: S, k, n, H) | _ => none
  | .i2b => match S with | .int x :: S => some (pc + len, L, .int x.toInt8.toInt32 :: S, k, n, H) | _ => none
  | .lcmp => match S with | .long y :: .long x :: S => some (pc + len, L, .int (Jvm.Free.XT.cmpL x y) :: S, k, n, H) | _ => none
  | .dup => match S with | v :: S => if v.category = 1 then some (pc + len, L, v :: v :: S, k, n, H) else none | _ => none
  | .dup2 => match S with
    | .long x :: S => some (pc + len, L, .long x :: .long x :: S, k, n, H)
    | v :: w :: S => if v.category = 1 ∧ w.category = 1 then some (pc + len, L, v :: w :: v :: w :: S, k, n, H) else none
    | _ => none
  | .pop => match S with | v :: S => if v.category = 1 then some (pc + len, L, S, k, n, H) else none | _ => none
  | .goto o => (jmp pc o).map fun q => (q, L, S, k, n, H)
  | .ifCond c o => match S with | .int x :: S => if ifCond.holds c x = true then (jmp pc o).map fun q => (q, L, S, k, n, H) else some (pc + len, L, S, k, n, H) | _ => none
  | .if_icmp c o => match S with | .int y :: .int x :: S => if if_icmp.holds c x y = true then (jmp pc o).map fun q => (q, L, S, k, n, H) else some (pc + len, L, S, k, n, H) | _ => none
  | .tableswitch d lo hi os => match S with
    | .int x :: S => if x.toInt < lo ∨ x.toInt > hi then (jmp pc d).map fun q => (q, L, S, k, n, H) else (os[(x.toInt - lo).toNat]?).bind fun o => (jmp pc o).map fun q => (q, L, S, k, n, H)
    | _ => none
  | .getfield _ => match S with | .ref a :: S => if isO H a = true then some (pc + len, L, fld H a aux.toNat :: S, k, n, H) else none | _ => none
  | .putfield _ => match S with | v :: .ref a :: S => if isOw H a = true ∧ okv (P.2.2.1 aux.toNat) v = true then some (pc + len, L, S, k, n, wr H a aux.toNat v) else none | _ => none
  | .iaload => match S with | .int i :: .ref a :: S => if inA H a .int i = true then some (pc + len, L, elt H a i :: S, k, n, H) else none | _ => none
  | .laload => match S with | .int i :: .ref a :: S => if inA H a .long i = true then some (pc + len, L, elt H a i :: S, k, n, H) else none | _ => none
  | .baload => match S with | .int i :: .ref a :: S => if inA H a .byte i = true ∨ inA H a .boolean i = true then some (pc + len, L, elt H a i :: S, k, n, H) else none | _ => none
  | .iastore => match S with | .int x :: .int i :: .ref a :: S => if inAw H a .int i = true then some (pc + len, L, S, k, n, wr H a i.toNatClampNeg (.int x)) else none | _ => none
  | .lastore => match S with | .long x :: .int i :: .ref a :: S => if inAw H a .long i = true then some (pc + len, L, S, k, n, wr H a i.toNatClampNeg (.long x)) else none | _ => none
  | .bastore => match S with
    | .int x :: .int i :: .ref a :: S => if (inAw H a .byte i = true ∧ okv .byte (.int x) = true) ∨ (inAw H a .boolean i = true ∧ okv .boolean (.int x) = true) then some (pc + len, L, S, k, n, wr H a i.toNatClampNeg (.int x)) else none
    | _ => none
  | .arraylength => match S with | .ref a :: S => if isA H a = true then some (pc + len, L, .int (alen H a).toInt32 :: S, k, n, H) else none | _ => none
  | .newarray t => match S with | .int c :: S => if ¬ c < 0 ∧ c.toNatClampNeg * 8 ≤ 536870912 ∧ k + 1 ≤ (rm P m).cells ∧ n + c.toNatClampNeg ≤ (rm P m).slots then some (pc + len, L, .ref H.1 :: S, k + 1, n + c.toNatClampNeg, mkA (newarray.typeOf t) c.toNatClampNeg H) else none | _ => none
  | .new _ => if 0 ≤ aux ∧ k + 1 ≤ (rm P m).cells ∧ n + aux.toNat ≤ (rm P m).slots then some (pc + len, L, .ref H.1 :: S, k + 1, n + aux.toNat, mkO P H) else none
  | .invokespecial _ => match S with | .ref a :: S => if aux = -1 ∧ 1 ≤ (rm P m).frames ∧ cs S + 12 ≤ (rm P m).locals then some (pc + len, L, S, k, n, H) else none | _ => none
  | _ => none
def run (P : Prog) : Nat → Nat → Nat → List Slot → List Value → Nat → Nat → AH → Option (Option Value × AH)
  | 0, _, _, _, _, _, _, _ => none
  | f + 1, m, pc, L, S, k, n, H =>
    match P.1 m pc with
    | none => none
    | some d =>
      match ret P m d.1 S with
      | some v => some (v, H)
      | none => match cal P m d.1 d.2.2 S k n H with
        | some c => match run P f c.1 0 (ent P c.1 c.2.1) [] 0 0 H with
          | none => none
          | some r => run P f m (pc + d.2.1) L (r.1.toList ++ c.2.2) (k + (rm P c.1).cells) (n + (rm P c.1).slots) r.2
        | none => match stp P m d.1 d.2.1 d.2.2 pc L S k n H with
          | none => none
          | some q => run P f m q.1 q.2.1 q.2.2.1 q.2.2.2.1 q.2.2.2.2.1 q.2.2.2.2.2
end Jvm.JX

namespace Jvm.JX
open Sem ClassFile Op Lib
section
variable {P : Prog}
theorem run_succ (f m pc : Nat) (L : List Slot) (S : List Value) (k n : Nat) (H : AH) : run P (f + 1) m pc L S k n H =
    match P.1 m pc with
    | none => none
    | some d =>
      match ret P m d.1 S with
      | some v => some (v, H)
      | none => match cal P m d.1 d.2.2 S k n H with
        | some c => match run P f c.1 0 (ent P c.1 c.2.1) [] 0 0 H with
          | none => none
          | some r => run P f m (pc + d.2.1) L (r.1.toList ++ c.2.2) (k + (rm P c.1).cells) (n + (rm P c.1).slots) r.2
        | none => match stp P m d.1 d.2.1 d.2.2 pc L S k n H with
          | none => none
          | some q => run P f m q.1 q.2.1 q.2.2.1 q.2.2.2.1 q.2.2.2.2.1 q.2.2.2.2.2 := rfl
theorem run_mono : ∀ (f m pc : Nat) (L : List Slot) (S : List Value) (k n : Nat) (H : AH) (r : Option Value × AH), run P f m pc L S k n H = some r → run P (f + 1) m pc L S k n H = some r := by
  intro f
  induction f with
  | zero => intro m pc L S k n H r h; cases h
  | succ f ih =>
    intro m pc L S k n H r h
    rw [run_succ] at h ⊢
    cases hd : P.1 m pc with
    | none => rw [hd] at h; cases h
    | some d =>
      rw [hd] at h
      simp only at h ⊢
      cases hr : ret P m d.1 S with
      | some v => rw [hr] at h; exact h
      | none =>
        rw [hr] at h
        simp only at h ⊢
        cases hc : cal P m d.1 d.2.2 S k n H with
        | some c =>
          rw [hc] at h
          simp only at h ⊢
          cases hq : run P f c.1 0 (ent P c.1 c.2.1) [] 0 0 H with
          | none => rw [hq] at h; cases h
          | some q =>
            rw [hq] at h
            rw [ih _ _ _ _ _ _ _ _ hq]
            exact ih _ _ _ _ _ _ _ _ h
        | none =>
          rw [hc] at h
          simp only at h ⊢
          cases hs : stp P m d.1 d.2.1 d.2.2 pc L S k n H with
          | none => rw [hs] at h; cases h
          | some q => rw [hs] at h; exact ih _ _ _ _ _ _ _ _ h
theorem run_le {f g : Nat} (hfg : f ≤ g) {m pc : Nat} {L : List Slot} {S : List Value} {k n : Nat} {H : AH} {r : Option Value × AH} (h : run P f m pc L S k n H = some r) : run P g m pc L S k n H = some r := by
  induction hfg with
  | refl => exact h
  | step _ ih => exact run_mono _ _ _ _ _ _ _ _ _ ih
end
def W (P : Prog) (m pc : Nat) (L : List Slot) (S : List Value) (k n : Nat) (H : AH) (Q : Option Value → AH → Prop) : Prop := ∃ f v H', run P f m pc L S k n H = some (v, H') ∧ Q v H'
def Cl (P : Prog) (m : Nat) (a : List Value) (H : AH) (Q : Option Value → AH → Prop) : Prop := W P m 0 (ent P m a) [] 0 0 H Q
section Rules
variable {P : Prog} {m pc : Nat} {L : List Slot} {S : List Value} {k n : Nat} {H : AH} {Q : Option Value → AH → Prop} {ins : Instr} {len : Nat} {aux : Int}
theorem W_mono {Q' : Option Value → AH → Prop} (h : W P m pc L S k n H Q) (hq : ∀ v H', Q v H' → Q' v H') : W P m pc L S k n H Q' := by
  obtain ⟨f, v, H', h1, h2⟩ := h
  exact ⟨f, v, H', h1, hq _ _ h2⟩
theorem W_r {v : Option Value} (hd : P.1 m pc = some (ins, len, aux)) (hr : ret P m ins S = some v) : W P m pc L S k n H Q ↔ Q v H := by
  constructor
  · rintro ⟨f, v', H', h1, h2⟩
    cases f with
    | zero => cases h1
    | succ f => rw [run_succ, hd] at h1; simp only [hr] at h1; cases h1; exact h2
  · intro h
    refine ⟨1, v, H, ?_, h⟩
    rw [run_succ, hd]; simp only [hr]
theorem W_c {m' : Nat} {a r : List Value} (hd : P.1 m pc = some (ins, len, aux)) (hr : ret P m ins S = none) (hc : cal P m ins aux S k n H = some (m', a, r)) :
    W P m pc L S k n H Q ↔ Cl P m' a H (fun v H' => W P m (pc + len) L (v.toList ++ r) (k + (rm P m').cells) (n + (rm P m').slots) H' Q) := by
  constructor
  · rintro ⟨f, v', H', h1, h2⟩
    cases f with
    | zero => cases h1
    | succ f =>
      rw [run_succ, hd] at h1; simp only [hr, hc] at h1
      cases hq : run P f m' 0 (ent P m' a) [] 0 0 H with
      | none => rw [hq] at h1; cases h1
      | some q => rw [hq] at h1; exact ⟨f, q.1, q.2, hq, f, v', H', h1, h2⟩
  · rintro ⟨f, v, H', h1, g, v', H'', h2, h3⟩
    refine ⟨max f g + 1, v', H'', ?_, h3⟩
    rw [run_succ, hd]; simp only [hr, hc]
    rw [run_le (Nat.le_max_left f g) h1]
    exact run_le (Nat.le_max_right f g) h2
theorem W_q (hd : P.1 m pc = some (ins, len, aux)) (hr : ret P m ins S = none) (hc : cal P m ins aux S k n H = none) :
    W P m pc L S k n H Q ↔ ∃ q, stp P m ins len aux pc L S k n H = some q ∧ W P m q.1 q.2.1 q.2.2.1 q.2.2.2.1 q.2.2.2.2.1 q.2.2.2.2.2 Q := by
  constructor
  · rintro ⟨f, v', H', h1, h2⟩
    cases f with
    | zero => cases h1
    | succ f =>
      rw [run_succ, hd] at h1; simp only [hr, hc] at h1
      cases hq : stp P m ins len aux pc L S k n H with
      | none => rw [hq] at h1; cases h1
      | some q => rw [hq] at h1; exact ⟨q, rfl, f, v', H', h1, h2⟩
  · rintro ⟨q, hq, f, v', H', h1, h2⟩
    refine ⟨f + 1, v', H', ?_, h2⟩
    rw [run_succ, hd]; simp only [hr, hc, hq]; exact h1
theorem W_s {pc' : Nat} {L' : List Slot} {S' : List Value} {k' n' : Nat} {H' : AH} (hd : P.1 m pc = some (ins, len, aux)) (hr : ret P m ins S = none) (hc : cal P m ins aux S k n H = none)
    (hs : stp P m ins len aux pc L S k n H = some (pc', L', S', k', n', H')) : W P m pc L S k n H Q ↔ W P m pc' L' S' k' n' H' Q := by
  rw [W_q hd hr hc, hs]
  exact ⟨fun ⟨q, e, h⟩ => by cases e; exact h, fun h => ⟨_, rfl, h⟩⟩
theorem W_g {G : Prop} [Decidable G] {pc' : Nat} {L' : List Slot} {S' : List Value} {k' n' : Nat} {H' : AH} (hd : P.1 m pc = some (ins, len, aux)) (hr : ret P m ins S = none) (hc : cal P m ins aux S k n H = none)
    (hs : stp P m ins len aux pc L S k n H = if G then some (pc', L', S', k', n', H') else none) : W P m pc L S k n H Q ↔ (G ∧ W P m pc' L' S' k' n' H' Q) := by
  rw [W_q hd hr hc, hs]
  by_cases g : G
  · rw [if_pos g]; exact ⟨fun ⟨q, e, h⟩ => by cases e; exact ⟨g, h⟩, fun h => ⟨_, rfl, h.2⟩⟩
  · rw [if_neg g]; exact ⟨fun ⟨q, e, h⟩ => (by cases e), fun h => absurd h.1 g⟩
theorem W_n {G : Prop} [Decidable G] {pc' : Nat} {L' : List Slot} {S' : List Value} {k' n' : Nat} {H' : AH} (hd : P.1 m pc = some (ins, len, aux)) (hr : ret P m ins S = none) (hc : cal P m ins aux S k n H = none)
    (hs : stp P m ins len aux pc L S k n H = if G then none else some (pc', L', S', k', n', H')) : W P m pc L S k n H Q ↔ (¬ G ∧ W P m pc' L' S' k' n' H' Q) := by
  rw [W_q hd hr hc, hs]
  by_cases g : G
  · rw [if_pos g]; exact ⟨fun ⟨q, e, h⟩ => (by cases e), fun h => absurd g h.1⟩
  · rw [if_neg g]; exact ⟨fun ⟨q, e, h⟩ => by cases e; exact ⟨g, h⟩, fun h => ⟨_, rfl, h.2⟩⟩
theorem W_f {G : Prop} [Decidable G] {q1 q2 : Fm} (hd : P.1 m pc = some (ins, len, aux)) (hr : ret P m ins S = none) (hc : cal P m ins aux S k n H = none)
    (hs : stp P m ins len aux pc L S k n H = if G then some q1 else some q2) : W P m pc L S k n H Q ↔ (if G then W P m q1.1 q1.2.1 q1.2.2.1 q1.2.2.2.1 q1.2.2.2.2.1 q1.2.2.2.2.2 Q else W P m q2.1 q2.2.1 q2.2.2.1 q2.2.2.2.1 q2.2.2.2.2.1 q2.2.2.2.2.2 Q) := by
  rw [W_q hd hr hc, hs]
  by_cases g : G
  · rw [if_pos g, if_pos g]; exact ⟨fun ⟨q, e, h⟩ => by cases e; exact h, fun h => ⟨_, rfl, h⟩⟩
  · rw [if_neg g, if_neg g]; exact ⟨fun ⟨q, e, h⟩ => by cases e; exact h, fun h => ⟨_, rfl, h⟩⟩
section Cmp
variable {x y : Int32} {o : Int} {q : Nat}
theorem W_icmp_eq (hd : P.1 m pc = some (.if_icmp .eq o, len, aux)) (hj : jmp pc o = some q) : W P m pc L (.int y :: .int x :: S) k n H Q ↔ (if x = y then W P m q L S k n H Q else W P m (pc + len) L S k n H Q) :=
  W_f (G := x = y) (q1 := (q, L, S, k, n, H)) (q2 := (pc + len, L, S, k, n, H)) hd rfl rfl (by simp only [stp, hj, if_icmp.holds]; by_cases h : x = y <;> simp [h])
theorem W_icmp_ne (hd : P.1 m pc = some (.if_icmp .ne o, len, aux)) (hj : jmp pc o = some q) : W P m pc L (.int y :: .int x :: S) k n H Q ↔ (if x = y then W P m (pc + len) L S k n H Q else W P m q L S k n H Q) :=
  W_f (G := x = y) (q1 := (pc + len, L, S, k, n, H)) (q2 := (q, L, S, k, n, H)) hd rfl rfl (by simp only [stp, hj, if_icmp.holds]; by_cases h : x = y <;> simp [h])
theorem W_icmp_lt (hd : P.1 m pc = some (.if_icmp .lt o, len, aux)) (hj : jmp pc o = some q) : W P m pc L (.int y :: .int x :: S) k n H Q ↔ (if x < y then W P m q L S k n H Q else W P m (pc + len) L S k n H Q) :=
  W_f (G := x < y) (q1 := (q, L, S, k, n, H)) (q2 := (pc + len, L, S, k, n, H)) hd rfl rfl (by
    by_cases h : x < y
    · simp [stp, hj, Jvm.Free.XT.ii_lt_t h, h]
    · simp [stp, hj, Jvm.Free.XT.ii_lt_f h, h])
theorem W_icmp_ge (hd : P.1 m pc = some (.if_icmp .ge o, len, aux)) (hj : jmp pc o = some q) : W P m pc L (.int y :: .int x :: S) k n H Q ↔ (if x < y then W P m (pc + len) L S k n H Q else W P m q L S k n H Q) :=
  W_f (G := x < y) (q1 := (pc + len, L, S, k, n, H)) (q2 := (q, L, S, k, n, H)) hd rfl rfl (by
    by_cases h : x < y
    · simp [stp, hj, Jvm.Free.XT.ii_ge_f h, h]
    · simp [stp, hj, Jvm.Free.XT.ii_ge_t h, h])
theorem W_icmp_gt (hd : P.1 m pc = some (.if_icmp .gt o, len, aux)) (hj : jmp pc o = some q) : W P m pc L (.int y :: .int x :: S) k n H Q ↔ (if y < x then W P m q L S k n H Q else W P m (pc + len) L S k n H Q) :=
  W_f (G := y < x) (q1 := (q, L, S, k, n, H)) (q2 := (pc + len, L, S, k, n, H)) hd rfl rfl (by
    by_cases h : y < x
    · simp [stp, hj, Jvm.Free.XT.ii_gt_t h, h]
    · simp [stp, hj, Jvm.Free.XT.ii_gt_f h, h])
theorem W_icmp_le (hd : P.1 m pc = some (.if_icmp .le o, len, aux)) (hj : jmp pc o = some q) : W P m pc L (.int y :: .int x :: S) k n H Q ↔ (if y < x then W P m (pc + len) L S k n H Q else W P m q L S k n H Q) :=
  W_f (G := y < x) (q1 := (pc + len, L, S, k, n, H)) (q2 := (q, L, S, k, n, H)) hd rfl rfl (by
    by_cases h : y < x
    · simp [stp, hj, Jvm.Free.XT.ii_le_f h, h]
    · simp [stp, hj, Jvm.Free.XT.ii_le_t h, h])
theorem W_if_eq (hd : P.1 m pc = some (.ifCond .eq o, len, aux)) (hj : jmp pc o = some q) : W P m pc L (.int x :: S) k n H Q ↔ (if x = 0 then W P m q L S k n H Q else W P m (pc + len) L S k n H Q) :=
  W_f (G := x = 0) (q1 := (q, L, S, k, n, H)) (q2 := (pc + len, L, S, k, n, H)) hd rfl rfl (by
    by_cases h : x = 0
    · have e := Jvm.Free.XT.i0_eq_t h; simp only [stp, hj, e, if_pos h, if_true, Option.map_some]
    · simp [stp, hj, Jvm.Free.XT.i0_eq_f h, h])
theorem W_if_ne (hd : P.1 m pc = some (.ifCond .ne o, len, aux)) (hj : jmp pc o = some q) : W P m pc L (.int x :: S) k n H Q ↔ (if x = 0 then W P m (pc + len) L S k n H Q else W P m q L S k n H Q) :=
  W_f (G := x = 0) (q1 := (pc + len, L, S, k, n, H)) (q2 := (q, L, S, k, n, H)) hd rfl rfl (by
    by_cases h : x = 0
    · have e := Jvm.Free.XT.i0_ne_f h; simp only [stp, hj, e, if_pos h, Bool.false_eq_true, if_false]
    · simp [stp, hj, Jvm.Free.XT.i0_ne_t h, h])
theorem W_if_lt (hd : P.1 m pc = some (.ifCond .lt o, len, aux)) (hj : jmp pc o = some q) : W P m pc L (.int x :: S) k n H Q ↔ (if x < 0 then W P m q L S k n H Q else W P m (pc + len) L S k n H Q) :=
  W_f (G := x < 0) (q1 := (q, L, S, k, n, H)) (q2 := (pc + len, L, S, k, n, H)) hd rfl rfl (by
    by_cases h : x < 0
    · simp [stp, hj, Jvm.Free.XT.i0_lt_t h, h]
    · simp [stp, hj, Jvm.Free.XT.i0_lt_f h, h])
theorem W_if_ge (hd : P.1 m pc = some (.ifCond .ge o, len, aux)) (hj : jmp pc o = some q) : W P m pc L (.int x :: S) k n H Q ↔ (if x < 0 then W P m (pc + len) L S k n H Q else W P m q L S k n H Q) :=
  W_f (G := x < 0) (q1 := (pc + len, L, S, k, n, H)) (q2 := (q, L, S, k, n, H)) hd rfl rfl (by
    by_cases h : x < 0
    · simp [stp, hj, Jvm.Free.XT.i0_ge_f h, h]
    · simp [stp, hj, Jvm.Free.XT.i0_ge_t h, h])
theorem W_if_gt (hd : P.1 m pc = some (.ifCond .gt o, len, aux)) (hj : jmp pc o = some q) : W P m pc L (.int x :: S) k n H Q ↔ (if 0 < x then W P m q L S k n H Q else W P m (pc + len) L S k n H Q) :=
  W_f (G := 0 < x) (q1 := (q, L, S, k, n, H)) (q2 := (pc + len, L, S, k, n, H)) hd rfl rfl (by
    by_cases h : 0 < x
    · simp [stp, hj, Jvm.Free.XT.i0_gt_t h, h]
    · simp [stp, hj, Jvm.Free.XT.i0_gt_f h, h])
theorem W_if_le (hd : P.1 m pc = some (.ifCond .le o, len, aux)) (hj : jmp pc o = some q) : W P m pc L (.int x :: S) k n H Q ↔ (if 0 < x then W P m (pc + len) L S k n H Q else W P m q L S k n H Q) :=
  W_f (G := 0 < x) (q1 := (pc + len, L, S, k, n, H)) (q2 := (q, L, S, k, n, H)) hd rfl rfl (by
    by_cases h : 0 < x
    · simp [stp, hj, Jvm.Free.XT.i0_le_f h, h]
    · simp [stp, hj, Jvm.Free.XT.i0_le_t h, h])
theorem W_goto (hd : P.1 m pc = some (.goto o, len, aux)) (hj : jmp pc o = some q) : W P m pc L S k n H Q ↔ W P m q L S k n H Q := W_s hd rfl rfl (by simp [stp, hj])
end Cmp
section Sto
variable {i : Nat} {o o2 : Slot} {x y : Int32} {v : Value} {l : Int64} {a : Nat}
theorem stl_plain (h : L[i]? = some o) (ho : cat1 o = true) : stl L i v = some (L.set i (.val v)) := by
  unfold stl
  rw [h]
  cases o with
  | unset => rfl
  | second => cases ho
  | val w => simp only [cat1, beq_iff_eq] at ho; simp [ho]
theorem stL_plain (h : L[i]? = some o) (h2 : L[i + 1]? = some o2) (ho : cat1 o = true) (ho2 : cat1 o2 = true) : stL L i v = some ((L.set i (.val v)).set (i + 1) .second) := by
  unfold stL
  rw [h, h2]
  cases o with
  | unset => simp [ho2]
  | second => cases ho
  | val w => simp only [cat1, beq_iff_eq] at ho; simp [ho, ho2]
theorem stL_again (h : L[i]? = some (.val (.long l))) (h2 : L[i + 1]? = some o2) : stL L i v = some ((L.set i (.val v)).set (i + 1) .second) := by
  unfold stL
  rw [h, h2]; simp [Value.category]
theorem W_ist (hd : P.1 m pc = some (.istore i, len, aux)) (h : L[i]? = some o) (ho : cat1 o = true) : W P m pc L (.int x :: S) k n H Q ↔ W P m (pc + len) (L.set i (.val (.int x))) S k n H Q := W_s hd rfl rfl (by simp [stp, stl_plain h ho])
theorem W_istn {i : Fin 4} (hd : P.1 m pc = some (.istore_n i, len, aux)) (h : L[i.val]? = some o) (ho : cat1 o = true) : W P m pc L (.int x :: S) k n H Q ↔ W P m (pc + len) (L.set i.val (.val (.int x))) S k n H Q := W_s hd rfl rfl (by simp [stp, stl_plain h ho])
theorem W_ast (hd : P.1 m pc = some (.astore i, len, aux)) (h : L[i]? = some o) (ho : cat1 o = true) : W P m pc L (.ref a :: S) k n H Q ↔ W P m (pc + len) (L.set i (.val (.ref a))) S k n H Q := W_s hd rfl rfl (by simp [stp, stl_plain h ho])
theorem W_astn {i : Fin 4} (hd : P.1 m pc = some (.astore_n i, len, aux)) (h : L[i.val]? = some o) (ho : cat1 o = true) : W P m pc L (.ref a :: S) k n H Q ↔ W P m (pc + len) (L.set i.val (.val (.ref a))) S k n H Q := W_s hd rfl rfl (by simp [stp, stl_plain h ho])
theorem W_lst (hd : P.1 m pc = some (.lstore i, len, aux)) (h : L[i]? = some o) (h2 : L[i + 1]? = some o2) (ho : cat1 o = true) (ho2 : cat1 o2 = true) : W P m pc L (.long l :: S) k n H Q ↔ W P m (pc + len) ((L.set i (.val (.long l))).set (i + 1) .second) S k n H Q := W_s hd rfl rfl (by simp [stp, stL_plain h h2 ho ho2])
theorem W_lstn {i : Fin 4} (hd : P.1 m pc = some (.lstore_n i, len, aux)) (h : L[i.val]? = some o) (h2 : L[i.val + 1]? = some o2) (ho : cat1 o = true) (ho2 : cat1 o2 = true) : W P m pc L (.long l :: S) k n H Q ↔ W P m (pc + len) ((L.set i.val (.val (.long l))).set (i.val + 1) .second) S k n H Q := W_s hd rfl rfl (by simp [stp, stL_plain h h2 ho ho2])
theorem W_lst' {l' : Int64} (hd : P.1 m pc = some (.lstore i, len, aux)) (h : L[i]? = some (.val (.long l'))) (h2 : L[i + 1]? = some o2) : W P m pc L (.long l :: S) k n H Q ↔ W P m (pc + len) ((L.set i (.val (.long l))).set (i + 1) .second) S k n H Q := W_s hd rfl rfl (by simp [stp, stL_again h h2])
theorem W_lstn' {l' : Int64} {i : Fin 4} (hd : P.1 m pc = some (.lstore_n i, len, aux)) (h : L[i.val]? = some (.val (.long l'))) (h2 : L[i.val + 1]? = some o2) : W P m pc L (.long l :: S) k n H Q ↔ W P m (pc + len) ((L.set i.val (.val (.long l))).set (i.val + 1) .second) S k n H Q := W_s hd rfl rfl (by simp [stp, stL_again h h2])
theorem st_long {S' : List Value} (h : L[i]? = some (.val (.long l))) (h2 : L[i + 1]? = some .second) : ((stl L i v).map fun L => (pc, L, S', k, n, H)) = some (pc, (L.set (i + 1) .unset).set i (.val v), S', k, n, H) := by
  have := (List.getElem?_eq_some_iff.mp h2).1
  simp [stl, h, Value.category, this]
theorem cat1_unset : cat1 .unset = true := rfl
theorem cat1_int : cat1 (.val (.int x)) = true := rfl
theorem cat1_ref : cat1 (.val (.ref a)) = true := rfl
theorem cs_nil : cs [] = 0 := by simp [cs]
theorem cs_int : cs (.int x :: S) = 1 + cs S := by simp [cs, Value.category]
theorem cs_ref : cs (.ref a :: S) = 1 + cs S := by simp [cs, Value.category]
theorem cs_long : cs (.long l :: S) = 2 + cs S := by simp [cs, Value.category]
end Sto
section Heap
variable {a j : Nat} {i x c : Int32} {v : Value} {l : Int64}
theorem W_getf {ix : Nat} (hd : P.1 m pc = some (.getfield ix, len, aux)) : W P m pc L (.ref a :: S) k n H Q ↔ (isO H a = true ∧ W P m (pc + len) L (fld H a aux.toNat :: S) k n H Q) := W_g hd rfl rfl rfl
theorem W_putf {ix : Nat} (hd : P.1 m pc = some (.putfield ix, len, aux)) : W P m pc L (v :: .ref a :: S) k n H Q ↔ ((isOw H a = true ∧ okv (P.2.2.1 aux.toNat) v = true) ∧ W P m (pc + len) L S k n (wr H a aux.toNat v) Q) := W_g hd rfl rfl rfl
theorem W_iaload (hd : P.1 m pc = some (.iaload, len, aux)) : W P m pc L (.int i :: .ref a :: S) k n H Q ↔ (inA H a .int i = true ∧ W P m (pc + len) L (elt H a i :: S) k n H Q) := W_g hd rfl rfl rfl
theorem W_laload (hd : P.1 m pc = some (.laload, len, aux)) : W P m pc L (.int i :: .ref a :: S) k n H Q ↔ (inA H a .long i = true ∧ W P m (pc + len) L (elt H a i :: S) k n H Q) := W_g hd rfl rfl rfl
theorem W_baload (hd : P.1 m pc = some (.baload, len, aux)) : W P m pc L (.int i :: .ref a :: S) k n H Q ↔ ((inA H a .byte i = true ∨ inA H a .boolean i = true) ∧ W P m (pc + len) L (elt H a i :: S) k n H Q) := W_g hd rfl rfl rfl
theorem W_iastore (hd : P.1 m pc = some (.iastore, len, aux)) : W P m pc L (.int x :: .int i :: .ref a :: S) k n H Q ↔ (inAw H a .int i = true ∧ W P m (pc + len) L S k n (wr H a i.toNatClampNeg (.int x)) Q) := W_g hd rfl rfl rfl
theorem W_lastore (hd : P.1 m pc = some (.lastore, len, aux)) : W P m pc L (.long l :: .int i :: .ref a :: S) k n H Q ↔ (inAw H a .long i = true ∧ W P m (pc + len) L S k n (wr H a i.toNatClampNeg (.long l)) Q) := W_g hd rfl rfl rfl
theorem W_bastore (hd : P.1 m pc = some (.bastore, len, aux)) : W P m pc L (.int x :: .int i :: .ref a :: S) k n H Q ↔ (((inAw H a .byte i = true ∧ okv .byte (.int x) = true) ∨ (inAw H a .boolean i = true ∧ okv .boolean (.int x) = true)) ∧ W P m (pc + len) L S k n (wr H a i.toNatClampNeg (.int x)) Q) := W_g hd rfl rfl rfl
theorem W_alen (hd : P.1 m pc = some (.arraylength, len, aux)) : W P m pc L (.ref a :: S) k n H Q ↔ (isA H a = true ∧ W P m (pc + len) L (.int (alen H a).toInt32 :: S) k n H Q) := W_g hd rfl rfl rfl
theorem W_newarr {t : ArrayType} (hd : P.1 m pc = some (.newarray t, len, aux)) : W P m pc L (.int c :: S) k n H Q ↔ ((¬ c < 0 ∧ c.toNatClampNeg * 8 ≤ 536870912 ∧ k + 1 ≤ (rm P m).cells ∧ n + c.toNatClampNeg ≤ (rm P m).slots) ∧ W P m (pc + len) L (.ref H.1 :: S) (k + 1) (n + c.toNatClampNeg) (mkA (newarray.typeOf t) c.toNatClampNeg H) Q) := W_g hd rfl rfl rfl
theorem W_new {ix : Nat} (hd : P.1 m pc = some (.new ix, len, aux)) : W P m pc L S k n H Q ↔ ((0 ≤ aux ∧ k + 1 ≤ (rm P m).cells ∧ n + aux.toNat ≤ (rm P m).slots) ∧ W P m (pc + len) L (.ref H.1 :: S) (k + 1) (n + aux.toNat) (mkO P H) Q) := W_g hd rfl rfl rfl
theorem W_oinit {ix : Nat} (hd : P.1 m pc = some (.invokespecial ix, len, -1)) : W P m pc L (.ref a :: S) k n H Q ↔ ((1 ≤ (rm P m).frames ∧ cs S + 12 ≤ (rm P m).locals) ∧ W P m (pc + len) L S k n H Q) :=
  W_g (G := 1 ≤ (rm P m).frames ∧ cs S + 12 ≤ (rm P m).locals) hd rfl (by simp [cal, cal1]) (by simp [stp])
theorem W_idiv {y : Int32} (hd : P.1 m pc = some (.idiv, len, aux)) : W P m pc L (.int y :: .int x :: S) k n H Q ↔ (¬ y = 0 ∧ W P m (pc + len) L (.int (x / y) :: S) k n H Q) := W_n hd rfl rfl rfl
theorem W_irem {y : Int32} (hd : P.1 m pc = some (.irem, len, aux)) : W P m pc L (.int y :: .int x :: S) k n H Q ↔ (¬ y = 0 ∧ W P m (pc + len) L (.int (x % y) :: S) k n H Q) := W_n hd rfl rfl rfl
theorem W_ldiv {l' : Int64} (hd : P.1 m pc = some (.ldiv, len, aux)) : W P m pc L (.long l' :: .long l :: S) k n H Q ↔ (¬ l' = 0 ∧ W P m (pc + len) L (.long (l / l') :: S) k n H Q) := W_n hd rfl rfl rfl
theorem W_lrem {l' : Int64} (hd : P.1 m pc = some (.lrem, len, aux)) : W P m pc L (.long l' :: .long l :: S) k n H Q ↔ (¬ l' = 0 ∧ W P m (pc + len) L (.long (l % l') :: S) k n H Q) := W_n hd rfl rfl rfl
end Heap
section Call
variable {m' : Nat} {a r : List Value} {b : Nat}
theorem cal_eq (hk : kindOk ins (kd P m') = true) (hl : a.length = na P m') : cal P m ins (m' : Int) (a.reverse ++ r) k n H = if may P m m' a r k n H = true then some (m', a, r) else none := by
  have e1 : (a.reverse ++ r).take (na P m') = a.reverse := by rw [← hl, ← List.length_reverse (as := a)]; exact List.take_left ..
  have e2 : (a.reverse ++ r).drop (na P m') = r := by rw [← hl, ← List.length_reverse (as := a)]; exact List.drop_left ..
  have key : cal1 P m ins (m' : Int) (a.reverse ++ r) k n H = if may P m m' a r k n H = true then some (m', a, r) else none := by
    unfold cal1
    rw [Int.toNat_natCast, e1, e2, List.reverse_reverse]
    simp [hk]
  cases ins <;> first | exact key | (cases hk)
theorem W_call (hd : P.1 m pc = some (ins, len, (m' : Int))) (hr : ret P m ins S = none) (hk : kindOk ins (kd P m') = true) (hl : a.length = na P m') (hS : S = a.reverse ++ r) (hns : stp P m ins len (m' : Int) pc L S k n H = none) :
    W P m pc L S k n H Q ↔ (may P m m' a r k n H = true ∧ Cl P m' a H (fun v H' => W P m (pc + len) L (v.toList ++ r) (k + (rm P m').cells) (n + (rm P m').slots) H' Q)) := by
  have hc : cal P m ins (m' : Int) S k n H = if may P m m' a r k n H = true then some (m', a, r) else none := by rw [hS]; exact cal_eq hk hl
  by_cases g : may P m m' a r k n H = true
  · rw [if_pos g] at hc
    rw [W_c hd hr hc]; simp [g]
  · rw [if_neg g] at hc
    rw [W_q hd hr hc, hns]
    exact ⟨fun ⟨q, e, h⟩ => (by cases e), fun h => absurd h.1 g⟩
theorem W_inst {ix : Nat} {as : List Value} (hd : P.1 m pc = some (.invokevirtual ix, len, (m' : Int))) (hk : kindOk (.invokevirtual ix) (kd P m') = true) (hl : as.length + 1 = na P m') (hS : S = as.reverse ++ .ref b :: r)
    (h1 : (Sym.laidSlots (.ref b :: as)).length ≤ ml P m') (h2 : (rm P m').frames + 1 ≤ (rm P m).frames) (h3 : (rm P m').cells = 0 ∧ (rm P m').slots = 0) :
    W P m pc L S k n H Q ↔ ((isO H b = true ∧ cs r + (ml P m' + 11) + (rm P m').locals ≤ (rm P m).locals) ∧ Cl P m' (.ref b :: as) H (fun v H' => W P m (pc + len) L (v.toList ++ r) k n H' Q)) := by
  rw [W_call (a := .ref b :: as) (r := r) hd rfl hk hl (by rw [hS]; simp) rfl]
  have e : may P m m' (.ref b :: as) r k n H = true ↔ (isO H b = true ∧ cs r + (ml P m' + 11) + (rm P m').locals ≤ (rm P m).locals) := by
    have hk0 : kd P m' ≠ 0 := by intro h; rw [h] at hk; cases hk
    simp [may, rcv, h1, h2, h3, ← hl, hk0]; exact And.comm
  rw [e, h3.1, h3.2]; rfl
theorem W_stat {ix : Nat} (hd : P.1 m pc = some (.invokestatic ix, len, (m' : Int))) (hk : kindOk (.invokestatic ix) (kd P m') = true) (hl : a.length = na P m') (hS : S = a.reverse ++ r)
    (h1 : (Sym.laidSlots a).length ≤ ml P m') (h2 : (rm P m').frames + 1 ≤ (rm P m).frames) (h3 : (rm P m').cells = 0 ∧ (rm P m').slots = 0) :
    W P m pc L S k n H Q ↔ ((cs r + (ml P m' + 11) + (rm P m').locals ≤ (rm P m).locals) ∧ Cl P m' a H (fun v H' => W P m (pc + len) L (v.toList ++ r) k n H' Q)) := by
  rw [W_call (a := a) (r := r) hd rfl hk hl hS rfl]
  have e : may P m m' a r k n H = true ↔ (cs r + (ml P m' + 11) + (rm P m').locals ≤ (rm P m).locals) := by
    have hk0 : kd P m' = 0 := by simpa [kindOk] using hk
    simp [may, h1, h2, h3, hl, hk0]
  rw [e, h3.1, h3.2]; rfl
theorem W_init {ix : Nat} {as : List Value} (hd : P.1 m pc = some (.invokespecial ix, len, (m' : Int))) (hk : kindOk (.invokespecial ix) (kd P m') = true) (hl : as.length + 1 = na P m') (hS : S = as.reverse ++ .ref b :: r)
    (h1 : (Sym.laidSlots (.ref b :: as)).length ≤ ml P m') (h2 : (rm P m').frames + 1 ≤ (rm P m).frames) (h3 : ¬ ((rm P m').cells = 0 ∧ (rm P m').slots = 0)) :
    W P m pc L S k n H Q ↔ ((isO H b = true ∧ cs r + (ml P m' + 11) + (rm P m').locals ≤ (rm P m).locals ∧ k + (rm P m').cells ≤ (rm P m).cells ∧ n + (rm P m').slots ≤ (rm P m).slots) ∧ Cl P m' (.ref b :: as) H (fun v H' => W P m (pc + len) L (v.toList ++ r) (k + (rm P m').cells) (n + (rm P m').slots) H' Q)) := by
  have hns : stp P m (.invokespecial ix) len (m' : Int) pc L S k n H = none := by
    dsimp only [stp]
    split
    · rw [if_neg]; omega
    · rfl
  rw [W_call (a := .ref b :: as) (r := r) hd rfl hk hl (by rw [hS]; simp) hns]
  have e : may P m m' (.ref b :: as) r k n H = true ↔ (isO H b = true ∧ cs r + (ml P m' + 11) + (rm P m').locals ≤ (rm P m).locals ∧ k + (rm P m').cells ≤ (rm P m).cells ∧ n + (rm P m').slots ≤ (rm P m).slots) := by
    have hk0 : kd P m' ≠ 0 := by intro h; rw [h] at hk; cases hk
    simp only [may, rcv, h1, h2, h3, ← hl, hk0, List.length_cons, decide_true, decide_false, Bool.true_and, Bool.false_or, Bool.and_eq_true, decide_eq_true_eq]
    constructor
    · rintro ⟨⟨q1, q2⟩, q3⟩; exact ⟨q3, q1, q2⟩
    · rintro ⟨q3, q1, q2⟩; exact ⟨⟨q1, q2⟩, q3⟩
  rw [e]
end Call
section Last
theorem W_rz {x : Int32} (hd : P.1 m pc = some (.ireturn, len, aux)) (hr : rt P m = some .boolean) : W P m pc L (.int x :: S) k n H Q ↔ ((x = 0 ∨ x = 1) ∧ Q (some (.int x)) H) := by
  by_cases g : x = 0 ∨ x = 1
  · rw [W_r hd (by simp only [ret, hr]; rw [if_pos g])]; simp [g]
  · rw [W_q hd (by simp only [ret, hr]; rw [if_neg g]) rfl]
    constructor
    · rintro ⟨q, e, -⟩; cases e
    · intro h; exact absurd h.1 g
theorem W_newarr' {t : ArrayType} {c : Int32} {N : Nat} (hd : P.1 m pc = some (.newarray t, len, aux)) (hN : c.toNatClampNeg = N) (h1 : ¬ c < 0) (h2 : N * 8 ≤ 536870912) :
    W P m pc L (.int c :: S) k n H Q ↔ ((k + 1 ≤ (rm P m).cells ∧ n + N ≤ (rm P m).slots) ∧ W P m (pc + len) L (.ref H.1 :: S) (k + 1) (n + N) (mkA (newarray.typeOf t) N H) Q) := by
  rw [W_newarr hd, hN]; simp [h1, h2]
theorem W_new' {ix : Nat} (hd : P.1 m pc = some (.new ix, len, aux)) (h0 : 0 ≤ aux) : W P m pc L S k n H Q ↔ ((k + 1 ≤ (rm P m).cells ∧ n + aux.toNat ≤ (rm P m).slots) ∧ W P m (pc + len) L (.ref H.1 :: S) (k + 1) (n + aux.toNat) (mkO P H) Q) := by
  rw [W_new hd]; simp [h0]
def tswW (f : Nat → Prop) (x : Int32) (d : Nat) : Int → List Nat → Prop
  | _, [] => f d
  | lo, q :: qs => if x = Int32.ofInt lo then f q else tswW f x d (lo + 1) qs
theorem tswW_eq (f : Nat → Prop) (x : Int32) (d : Nat) : ∀ (qs : List Nat) (lo : Int), -2147483648 ≤ lo → lo + qs.length ≤ 2147483648 → (tswW f x d lo qs ↔ f (if x.toInt < lo ∨ lo + qs.length ≤ x.toInt then d else qs.getD (x.toInt - lo).toNat d)) := by
  intro qs
  induction qs with
  | nil => intro lo h1 h2; simp only [tswW, List.length_nil]; rw [if_pos (by omega)]
  | cons q qs ih =>
    intro lo h1 h2
    simp only [List.length_cons] at h2 ⊢
    have hx : x = Int32.ofInt lo ↔ x.toInt = lo := by
      rw [← Int32.toInt_inj, Int32.toInt_ofInt_of_le (by omega) (by omega)]
    simp only [tswW]
    by_cases e : x.toInt = lo
    · rw [if_pos (hx.mpr e), if_neg (by omega)]
      have : (x.toInt - lo).toNat = 0 := by omega
      rw [this]; rfl
    · rw [if_neg (fun h => e (hx.mp h)), ih (lo + 1) (by omega) (by omega)]
      by_cases g : x.toInt < lo ∨ lo + ((qs.length : Int) + 1) ≤ x.toInt
      · rw [if_pos (by omega), if_pos (by omega)]
      · rw [if_neg (by omega), if_neg (by omega)]
        have : (x.toInt - lo).toNat = (x.toInt - (lo + 1)).toNat + 1 := by omega
        rw [this]; rfl
theorem W_tsw {x : Int32} {d lo hi : Int} {os : Array Int} {qs : List Nat} {dq : Nat} (hd : P.1 m pc = some (.tableswitch d lo hi os, len, aux)) (h0 : jmp pc d = some dq) (h1 : os.toList.map (jmp pc) = qs.map some) (h2 : -2147483648 ≤ lo ∧ lo + qs.length ≤ 2147483648 ∧ hi = lo + qs.length - 1) :
    W P m pc L (.int x :: S) k n H Q ↔ tswW (fun q => W P m q L S k n H Q) x dq lo qs := by
  rw [tswW_eq _ _ _ _ _ h2.1 h2.2.1]
  have hlen : os.size = qs.length := by have := congrArg List.length h1; simpa using this
  refine W_s hd rfl rfl ?_
  show (if x.toInt < lo ∨ x.toInt > hi then (jmp pc d).map fun q => (q, L, S, k, n, H) else (os[(x.toInt - lo).toNat]?).bind fun o => (jmp pc o).map fun q => (q, L, S, k, n, H)) = _
  by_cases g : x.toInt < lo ∨ x.toInt > hi
  · rw [if_pos g, if_pos (by omega), h0]; rfl
  · rw [if_neg g, if_neg (by omega)]
    have hi2 : (x.toInt - lo).toNat < qs.length := by omega
    have e1 : (os.toList.map (jmp pc))[(x.toInt - lo).toNat]? = some (some (qs.getD (x.toInt - lo).toNat dq)) := by
      rw [h1]; simp [hi2]
    rw [List.getElem?_map, Array.getElem?_toList] at e1
    obtain ⟨o, ho, hj⟩ := Option.map_eq_some_iff.mp e1
    rw [ho]; simp [hj]
theorem cmpL_lt {x y : Int64} : Jvm.Free.XT.cmpL x y < 0 ↔ x < y := by
  unfold Jvm.Free.XT.cmpL
  by_cases h1 : y < x
  · rw [if_pos h1]; exact ⟨fun h => absurd h (by decide), fun h => by rw [Int64.lt_iff_toInt_lt] at *; omega⟩
  · rw [if_neg h1]
    by_cases h2 : x = y
    · rw [if_pos h2]; exact ⟨fun h => absurd h (by decide), fun h => by subst h2; rw [Int64.lt_iff_toInt_lt] at *; omega⟩
    · rw [if_neg h2]; refine ⟨fun _ => ?_, fun _ => by decide⟩
      rw [Int64.lt_iff_toInt_lt] at *; rw [← Int64.toInt_inj] at h2; omega
theorem cmpL_gt {x y : Int64} : 0 < Jvm.Free.XT.cmpL x y ↔ y < x := by
  unfold Jvm.Free.XT.cmpL
  by_cases h1 : y < x
  · rw [if_pos h1]; exact ⟨fun _ => h1, fun _ => by decide⟩
  · rw [if_neg h1]
    by_cases h2 : x = y
    · rw [if_pos h2]; exact ⟨fun h => absurd h (by decide), fun h => absurd h h1⟩
    · rw [if_neg h2]; exact ⟨fun h => absurd h (by decide), fun h => absurd h h1⟩
theorem cmpL_eq {x y : Int64} : Jvm.Free.XT.cmpL x y = 0 ↔ x = y := by
  unfold Jvm.Free.XT.cmpL
  by_cases h1 : y < x
  · rw [if_pos h1]; exact ⟨fun h => absurd h (by decide), fun h => by subst h; rw [Int64.lt_iff_toInt_lt] at h1; omega⟩
  · rw [if_neg h1]
    by_cases h2 : x = y
    · rw [if_pos h2]; exact ⟨fun _ => h2, fun _ => rfl⟩
    · rw [if_neg h2]; exact ⟨fun h => absurd h (by decide), fun h => absurd h h2⟩
end Last
end Rules
abbrev LW : Type := (Nat → Nat → Option (Instr × Nat × Int)) × (Nat → MInfo)
abbrev Row : Type := Nat × Instr × Nat × Int
end Jvm.JX

namespace Jvm.JX
open Sem ClassFile Op Lib
abbrev St : Type := (Nat → Int32) × (Nat → Int64) × (Nat → Nat → Int32) × (Nat → Nat → Int64)
abbrev Lay : Type := List (FieldType × Nat) × List (FieldType × Nat)
def sI (s : St) (k : Nat) : Int32 := s.1 k
def sJ (s : St) (k : Nat) : Int64 := s.2.1 k
def sA (s : St) (t i : Nat) : Int32 := s.2.2.1 t i
def sB (s : St) (t i : Nat) : Int64 := s.2.2.2 t i
def uI (s : St) (k : Nat) (v : Int32) : St := (fun j => if j = k then v else s.1 j, s.2.1, s.2.2.1, s.2.2.2)
def uJ (s : St) (k : Nat) (v : Int64) : St := (s.1, fun j => if j = k then v else s.2.1 j, s.2.2.1, s.2.2.2)
def uA (s : St) (t i : Nat) (v : Int32) : St := (s.1, s.2.1, fun t' i' => if t' = t ∧ i' = i then v else s.2.2.1 t' i', s.2.2.2)
def uB (s : St) (t i : Nat) (v : Int64) : St := (s.1, s.2.1, s.2.2.1, fun t' i' => if t' = t ∧ i' = i then v else s.2.2.2 t' i')
def z0 : St := (fun _ => 0, fun _ => 0, fun _ _ => 0, fun _ _ => 0)
section St
variable {s : St} {k j t i t' i' : Nat} {v : Int32} {w : Int64}
theorem sI_uI : sI (uI s k v) j = if j = k then v else sI s j := by simp [sI, sJ, sA, sB, uI, uJ, uA, uB, z0]
theorem sI_uJ : sI (uJ s k w) j = sI s j := by simp [sI, sJ, sA, sB, uI, uJ, uA, uB, z0]
theorem sI_uA : sI (uA s t i v) j = sI s j := by simp [sI, sJ, sA, sB, uI, uJ, uA, uB, z0]
theorem sI_uB : sI (uB s t i w) j = sI s j := by simp [sI, sJ, sA, sB, uI, uJ, uA, uB, z0]
theorem sJ_uI : sJ (uI s k v) j = sJ s j := by simp [sI, sJ, sA, sB, uI, uJ, uA, uB, z0]
theorem sJ_uJ : sJ (uJ s k w) j = if j = k then w else sJ s j := by simp [sI, sJ, sA, sB, uI, uJ, uA, uB, z0]
theorem sJ_uA : sJ (uA s t i v) j = sJ s j := by simp [sI, sJ, sA, sB, uI, uJ, uA, uB, z0]
theorem sJ_uB : sJ (uB s t i w) j = sJ s j := by simp [sI, sJ, sA, sB, uI, uJ, uA, uB, z0]
theorem sA_uI : sA (uI s k v) t' i' = sA s t' i' := by simp [sI, sJ, sA, sB, uI, uJ, uA, uB, z0]
theorem sA_uJ : sA (uJ s k w) t' i' = sA s t' i' := by simp [sI, sJ, sA, sB, uI, uJ, uA, uB, z0]
theorem sA_uA : sA (uA s t i v) t' i' = if t' = t ∧ i' = i then v else sA s t' i' := by simp [sI, sJ, sA, sB, uI, uJ, uA, uB, z0]
theorem sA_uB : sA (uB s t i w) t' i' = sA s t' i' := by simp [sI, sJ, sA, sB, uI, uJ, uA, uB, z0]
theorem sB_uI : sB (uI s k v) t' i' = sB s t' i' := by simp [sI, sJ, sA, sB, uI, uJ, uA, uB, z0]
theorem sB_uJ : sB (uJ s k w) t' i' = sB s t' i' := by simp [sI, sJ, sA, sB, uI, uJ, uA, uB, z0]
theorem sB_uA : sB (uA s t i v) t' i' = sB s t' i' := by simp [sI, sJ, sA, sB, uI, uJ, uA, uB, z0]
theorem sB_uB : sB (uB s t i w) t' i' = if t' = t ∧ i' = i then w else sB s t' i' := by simp [sI, sJ, sA, sB, uI, uJ, uA, uB, z0]
theorem sI_z0 : sI z0 k = 0 := by simp [sI, sJ, sA, sB, uI, uJ, uA, uB, z0]
theorem sJ_z0 : sJ z0 k = 0 := by simp [sI, sJ, sA, sB, uI, uJ, uA, uB, z0]
theorem sA_z0 : sA z0 t i = 0 := by simp [sI, sJ, sA, sB, uI, uJ, uA, uB, z0]
theorem sB_z0 : sB z0 t i = 0 := by simp [sI, sJ, sA, sB, uI, uJ, uA, uB, z0]
theorem St_ext {s s' : St} (h1 : ∀ k, sI s k = sI s' k) (h2 : ∀ k, sJ s k = sJ s' k) (h3 : ∀ t i, sA s t i = sA s' t i) (h4 : ∀ t i, sB s t i = sB s' t i) : s = s' :=
  Prod.ext (funext h1) (Prod.ext (funext h2) (Prod.ext (funext fun t => funext (h3 t)) (funext fun t => funext (h4 t))))
end St
def zr (s : St) (t : Nat) : Prop := (∀ i, sA s t i = 0) ∧ ∀ i, sB s t i = 0
theorem zr_z0 {t : Nat} : zr z0 t = True := by simp [zr, sA_z0, sB_z0]
theorem zr_uI {s : St} {t k : Nat} {v : Int32} : zr (uI s k v) t = zr s t := by simp [zr, sA_uI, sB_uI]
theorem zr_uJ {s : St} {t k : Nat} {v : Int64} : zr (uJ s k v) t = zr s t := by simp [zr, sA_uJ, sB_uJ]
def fvl (y : Lay) (j p : Nat) (s : St) (k : Nat) : Value := match y.1[k]? with
  | some (.long, _) => .long (sJ s k)
  | some (.array _, t) => if t ≤ j then .ref (p + t) else .null
  | _ => .int (sI s k)
def blk (y : Lay) (j p : Nat) (s : St) : Nat → Cel
  | 0 => (.object "", y.1.length, true, fvl y j p s)
  | t + 1 => match y.2[t]? with
    | some (.long, n) => (.array .long, n, true, fun i => .long (sB s (t + 1) i))
    | some (ty, n) => (.array ty, n, true, fun i => .int (sA s (t + 1) i))
    | none => (.char, 0, false, fun _ => .null)
def put (y : Lay) (j : Nat) (H : AH) (p : Nat) (s : St) : AH := (H.1, fun a => if p ≤ a ∧ a ≤ p + j then blk y j p s (a - p) else H.2 a)
section Put
variable {y : Lay} {j : Nat} {H : AH} {p : Nat} {s : St} {k t n : Nat} {ty : FieldType} {i : Int32}
theorem put_0 : (put y j H p s).2 p = (.object "", y.1.length, true, fvl y j p s) := by simp [put, blk]
theorem put_t (ht : t ≤ j) : (put y j H p s).2 (p + t) = blk y j p s t := by simp [put, ht]
theorem put_ot {a : Nat} (h : a < p ∨ p + j < a) : (put y j H p s).2 a = H.2 a := by
  have : ¬ (p ≤ a ∧ a ≤ p + j) := by omega
  simp [put, this]
theorem isO_put : isO (put y j H p s) p = true := by simp [isO, put_0]
theorem isOw_put : isOw (put y j H p s) p = true := by simp [isOw, isO_put, put_0]
theorem fld_I (h : y.1[k]? = some (ty, t)) (hl : ty ≠ .long) (ha : ∀ e, ty ≠ .array e) : fld (put y j H p s) p k = .int (sI s k) := by
  simp only [fld, put_0, fvl, h]; cases ty <;> first | rfl | exact absurd rfl hl | exact absurd rfl (ha _)
theorem fld_J (h : y.1[k]? = some (.long, t)) : fld (put y j H p s) p k = .long (sJ s k) := by simp only [fld, put_0, fvl, h]
theorem fld_R (h : y.1[k]? = some (.array ty, t)) (ht : t ≤ j) : fld (put y j H p s) p k = .ref (p + t) := by simp only [fld, put_0, fvl, h, ht, if_true]
theorem blk_I (h : y.2[t]? = some (ty, n)) (hl : ty ≠ .long) : blk y j p s (t + 1) = (.array ty, n, true, fun i => .int (sA s (t + 1) i)) := by
  simp only [blk, h]
theorem blk_J (h : y.2[t]? = some (.long, n)) : blk y j p s (t + 1) = (.array .long, n, true, fun i => .long (sB s (t + 1) i)) := by simp only [blk, h]
theorem clamp_lt {i : Int32} {n : Nat} : (¬ i < 0 ∧ i.toNatClampNeg < n) ↔ (0 ≤ i.toInt ∧ i.toInt < n) := by
  simp only [Int32.lt_iff_toInt_lt, Int32.toNatClampNeg, Int32.reduceToInt]; omega
theorem inA_I (h : y.2[t]? = some (ty, n)) (hl : ty ≠ .long) (ht : t + 1 ≤ j) : inA (put y j H p s) (p + (t + 1)) ty i = true ↔ (0 ≤ i.toInt ∧ i.toInt < n) := by
  rw [← clamp_lt]; simp [inA, put_t ht, blk_I h hl]
theorem inA_J (h : y.2[t]? = some (.long, n)) (ht : t + 1 ≤ j) : inA (put y j H p s) (p + (t + 1)) .long i = true ↔ (0 ≤ i.toInt ∧ i.toInt < n) := by
  rw [← clamp_lt]; simp [inA, put_t ht, blk_J h]
theorem inA_no {ty' : FieldType} (h : y.2[t]? = some (ty, n)) (hl : ty ≠ .long) (ht : t + 1 ≤ j) (hne : ty ≠ ty') : inA (put y j H p s) (p + (t + 1)) ty' i = true ↔ False := by
  simp [inA, put_t ht, blk_I h hl, hne]
theorem inAw_I (h : y.2[t]? = some (ty, n)) (hl : ty ≠ .long) (ht : t + 1 ≤ j) : inAw (put y j H p s) (p + (t + 1)) ty i = true ↔ (0 ≤ i.toInt ∧ i.toInt < n) := by
  rw [← inA_I (H := H) (p := p) (s := s) h hl ht]; simp [inAw, put_t ht, blk_I h hl]
theorem inAw_J (h : y.2[t]? = some (.long, n)) (ht : t + 1 ≤ j) : inAw (put y j H p s) (p + (t + 1)) .long i = true ↔ (0 ≤ i.toInt ∧ i.toInt < n) := by
  rw [← inA_J (H := H) (p := p) (s := s) h ht]; simp [inAw, put_t ht, blk_J h]
theorem inAw_no {ty' : FieldType} (h : y.2[t]? = some (ty, n)) (hl : ty ≠ .long) (ht : t + 1 ≤ j) (hne : ty ≠ ty') : inAw (put y j H p s) (p + (t + 1)) ty' i = true ↔ False := by
  simp [inAw, inA, put_t ht, blk_I h hl, hne]
theorem elt_I (h : y.2[t]? = some (ty, n)) (hl : ty ≠ .long) (ht : t + 1 ≤ j) : elt (put y j H p s) (p + (t + 1)) i = .int (sA s (t + 1) i.toNatClampNeg) := by
  simp only [elt, put_t ht, blk_I h hl]
theorem elt_J (h : y.2[t]? = some (.long, n)) (ht : t + 1 ≤ j) : elt (put y j H p s) (p + (t + 1)) i = .long (sB s (t + 1) i.toNatClampNeg) := by
  simp only [elt, put_t ht, blk_J h]
theorem alen_t (h : y.2[t]? = some (ty, n)) (ht : t + 1 ≤ j) : alen (put y j H p s) (p + (t + 1)) = n := by
  by_cases hl : ty = .long
  · subst hl; simp only [alen, put_t ht, blk_J h]
  · simp only [alen, put_t ht, blk_I h hl]
theorem put_wr {s' : St} {t q : Nat} {v : Value} (ht : t ≤ j) (hb : ∀ t', blk y j p s' t' = if t' = t then ((blk y j p s t).1, (blk y j p s t).2.1, (blk y j p s t).2.2.1, fun i => if i = q then v else (blk y j p s t).2.2.2 i) else blk y j p s t') :
    wr (put y j H p s) (p + t) q v = put y j H p s' := by
  refine Prod.ext rfl (funext fun a => ?_)
  simp only [wr, put_t ht]
  by_cases e : a = p + t
  · subst e; simp [put, ht, hb]
  · simp only [e, if_false, put]
    by_cases g : p ≤ a ∧ a ≤ p + j
    · have : a - p ≠ t := by omega
      simp [g, hb, this]
    · simp [g]
theorem fvl_uI {v : Int32} (h : y.1[k]? = some (ty, t)) (hl : ty ≠ .long) (ha : ∀ e, ty ≠ .array e) (i : Nat) : fvl y j p (uI s k v) i = if i = k then .int v else fvl y j p s i := by
  by_cases e : i = k
  · subst e; simp only [fvl, h, if_true]; cases ty <;> first | (simp [sI_uI]; done) | exact absurd rfl hl | exact absurd rfl (ha _)
  · simp only [fvl, e, if_false, sI_uI, sJ_uI]
theorem fvl_uJ {v : Int64} (h : y.1[k]? = some (.long, t)) (i : Nat) : fvl y j p (uJ s k v) i = if i = k then .long v else fvl y j p s i := by
  by_cases e : i = k
  · subst e; simp only [fvl, h, if_true, sJ_uJ]
  · simp only [fvl, e, if_false, sI_uJ, sJ_uJ]
theorem wr_I {v : Int32} (h : y.1[k]? = some (ty, t)) (hl : ty ≠ .long) (ha : ∀ e, ty ≠ .array e) : wr (put y j H p s) p k (.int v) = put y j H p (uI s k v) := by
  refine put_wr (t := 0) (Nat.zero_le _) fun t' => ?_
  cases t' with
  | zero => simp only [blk, if_true]; exact congrArg (fun f => (_, _, _, f)) (funext fun i => fvl_uI h hl ha i)
  | succ t' => simp [blk, sA_uI, sB_uI]
theorem wr_J {v : Int64} (h : y.1[k]? = some (.long, t)) : wr (put y j H p s) p k (.long v) = put y j H p (uJ s k v) := by
  refine put_wr (t := 0) (Nat.zero_le _) fun t' => ?_
  cases t' with
  | zero => simp only [blk, if_true]; exact congrArg (fun f => (_, _, _, f)) (funext fun i => fvl_uJ h i)
  | succ t' => simp [blk, sA_uJ, sB_uJ]
theorem wr_A {v : Int32} {q : Nat} (h : y.2[t]? = some (ty, n)) (hl : ty ≠ .long) (ht : t + 1 ≤ j) : wr (put y j H p s) (p + (t + 1)) q (.int v) = put y j H p (uA s (t + 1) q v) := by
  refine put_wr ht fun t' => ?_
  by_cases e : t' = t + 1
  · subst e
    simp only [blk_I h hl, if_true, sA_uA, true_and]
    exact congrArg (fun f => (_, _, _, f)) (funext fun i => by split <;> rfl)
  · simp only [e, if_false]
    cases t' with
    | zero => rfl
    | succ t' => have : ¬ t' = t := fun q => e (by rw [q]); simp [blk, sA_uA, sB_uA, this]
theorem wr_B {v : Int64} {q : Nat} (h : y.2[t]? = some (.long, n)) (ht : t + 1 ≤ j) : wr (put y j H p s) (p + (t + 1)) q (.long v) = put y j H p (uB s (t + 1) q v) := by
  refine put_wr ht fun t' => ?_
  by_cases e : t' = t + 1
  · subst e
    simp only [blk_J h, if_true, sB_uB, true_and]
    exact congrArg (fun f => (_, _, _, f)) (funext fun i => by split <;> rfl)
  · simp only [e, if_false]
    cases t' with
    | zero => rfl
    | succ t' => have : ¬ t' = t := fun q => e (by rw [q]); simp [blk, sA_uB, sB_uB, this]
theorem mkO_put {P : Prog} (hn : P.2.2.2 = y.1.length) (hf : ∀ k, defaultValue (P.2.2.1 k) = fvl y 0 H.1 z0 k) : mkO P H = put y 0 (H.1 + 1, H.2) H.1 z0 := by
  refine Prod.ext rfl (funext fun a => ?_)
  by_cases e : a = H.1
  · subst e; simp only [mkO, if_true, put_0, hn]; exact congrArg (fun f => (_, _, _, f)) (funext fun k => hf k)
  · have : ¬ (H.1 ≤ a ∧ a ≤ H.1 + 0) := by omega
    simp only [mkO, put, e, if_false, if_neg this]
theorem mkA_put {h : Nat → Cel} (h1 : y.1[k]? = some (.array ty, j + 1)) (h2 : y.2[j]? = some (ty, n)) (hu : (List.range y.1.length).all (fun k' => decide (k' = k) || ((y.1.getD k' (.int, 0)).2 != j + 1)) = true) (hz : ∀ i, sA s (j + 1) i = 0) (hz' : ∀ i, sB s (j + 1) i = 0) (hty : ty = .int ∨ ty = .long ∨ ty = .byte ∨ ty = .boolean) :
    wr (mkA ty n (put y j (p + (j + 1), h) p s)) p k (.ref (p + (j + 1))) = put y (j + 1) (p + (j + 1) + 1, h) p s := by
  refine Prod.ext rfl (funext fun a => ?_)
  have hp : ¬ p = p + (j + 1) := by omega
  have hN : (put y j (p + (j + 1), h) p s).1 = p + (j + 1) := rfl
  by_cases e : a = p
  · subst e
    simp only [wr, mkA, hN, if_true, hp, if_false, put_0]
    refine congrArg (fun f => (_, _, _, f)) (funext fun i => ?_)
    by_cases e2 : i = k
    · subst e2; simp [fvl, h1]
    · simp only [e2, if_false, fvl]
      cases hq : y.1[i]? with
      | none => rfl
      | some x =>
        obtain ⟨x1, x2⟩ := x
        cases x1 <;> try rfl
        rename_i el
        have : x2 ≠ j + 1 := fun q => by
          have hlt : i < y.1.length := (List.getElem?_eq_some_iff.mp hq).1
          have u := List.all_eq_true.mp hu i (List.mem_range.mpr hlt)
          simp [e2, hq, q] at u
        have : (x2 ≤ j + 1) = (x2 ≤ j) := propext ⟨fun _ => by omega, fun _ => by omega⟩
        simp [this]
  · simp only [wr, mkA, hN, e, if_false]
    by_cases e2 : a = p + (j + 1)
    · subst e2
      simp only [if_true, put_t (Nat.le_refl (j + 1))]
      rcases hty with rfl | rfl | rfl | rfl
      · simp only [blk, h2, hz]; rfl
      · simp only [blk, h2, hz']; rfl
      · simp only [blk, h2, hz]; rfl
      · simp only [blk, h2, hz]; rfl
    · simp only [e2, if_false, put]
      by_cases g : p ≤ a ∧ a ≤ p + j
      · have g2 : p ≤ a ∧ a ≤ p + (j + 1) := by omega
        simp only [g, g2, and_self, if_true]
        obtain ⟨t, ht⟩ : ∃ t, a - p = t + 1 := ⟨a - p - 1, by omega⟩
        rw [ht]; rfl
      · have g2 : ¬ (p ≤ a ∧ a ≤ p + (j + 1)) := by omega
        simp only [g, g2, if_false]
theorem isOw_mk {h : Nat → Cel} {c : Nat} : isOw (mkA ty n (put y j (p + (c + 1), h) p s)) p = true := by
  have : ¬ p = p + (c + 1) := by omega
  have hN : (put y j (p + (c + 1), h) p s).1 = p + (c + 1) := rfl
  simp [isOw, isO, mkA, hN, this, put_0]
theorem put_fst : (put y j H p s).1 = H.1 := by simp [put]
theorem cl_unf {P : Prog} {m : Nat} {a : List Value} {L : List Slot} {Q : Option Value → AH → Prop} (h : ent P m a = L) : Cl P m a H Q ↔ W P m 0 L [] 0 0 H Q := by unfold Cl; rw [h]
theorem put_comm {y' : Lay} {j' p' : Nat} {s' : St} (h : p + j < p' ∨ p' + j' < p) : put y j (put y' j' H p' s') p s = put y' j' (put y j H p s) p' s' := by
  refine Prod.ext rfl (funext fun a => ?_)
  simp only [put]
  by_cases g : p ≤ a ∧ a ≤ p + j
  · have g2 : ¬ (p' ≤ a ∧ a ≤ p' + j') := by omega
    simp [g, g2]
  · simp only [g, if_false]
theorem isO_ot {a : Nat} (h : a < p ∨ p + j < a) : isO (put y j H p s) a = isO H a := by simp only [isO, put_ot h]
theorem inA_ot {a : Nat} (h : a < p ∨ p + j < a) : inA (put y j H p s) a ty i = inA H a ty i := by simp only [inA, put_ot h]
theorem isA_ot {a : Nat} (h : a < p ∨ p + j < a) : isA (put y j H p s) a = isA H a := by simp only [isA, put_ot h]
theorem elt_ot {a : Nat} (h : a < p ∨ p + j < a) : elt (put y j H p s) a i = elt H a i := by simp only [elt, put_ot h]
theorem alen_ot {a : Nat} (h : a < p ∨ p + j < a) : alen (put y j H p s) a = alen H a := by simp only [alen, put_ot h]
end Put
def noc : Cel := (.char, 0, false, fun _ => .null)
def H0 (n : Nat) : AH := (n, fun _ => noc)
def H1 (n a len : Nat) (f : Nat → Int32) : AH := (n, fun b => if b = a then (.array .int, len, false, fun i => .int (f i)) else noc)
theorem isA_H1 {n a len : Nat} {f : Nat → Int32} : isA (H1 n a len f) a = true := by simp [isA, H1]
theorem alen_H1 {n a len : Nat} {f : Nat → Int32} : alen (H1 n a len f) a = len := by simp [alen, H1]
theorem inA_H1 {n a len : Nat} {f : Nat → Int32} {i : Int32} : inA (H1 n a len f) a .int i = true ↔ (0 ≤ i.toInt ∧ i.toInt < len) := by rw [← clamp_lt]; simp [inA, H1]
theorem elt_H1 {n a len : Nat} {f : Nat → Int32} {i : Int32} : elt (H1 n a len f) a i = .int (f i.toNatClampNeg) := by simp [elt, H1]
def cl (lo hi v : Int32) : Int32 := if v < lo then lo else if hi < v then hi else v
theorem cl3 {lo hi : Int32} (v : Int32) (h : ¬ hi < lo) : (v < lo ∧ ¬ hi < v) ∨ (¬ v < lo ∧ hi < v) ∨ (¬ v < lo ∧ ¬ hi < v) := by
  by_cases h1 : v < lo
  · exact Or.inl ⟨h1, fun h2 => h (by rw [Int32.lt_iff_toInt_lt] at *; omega)⟩
  · by_cases h2 : hi < v
    · exact Or.inr (Or.inl ⟨h1, h2⟩)
    · exact Or.inr (Or.inr ⟨h1, h2⟩)
section Okv
variable {x : Int32} {l : Int64} {a : Nat} {t : FieldType}
theorem okv_int : (okv .int (.int x) = true) = True := by simp [okv]
theorem okv_long : (okv .long (.long l) = true) = True := by simp [okv]
theorem okv_ref : (okv (.array t) (.ref a) = true) = True := by simp [okv]
theorem okv_bool : (okv .boolean (.int x) = true) = (x = 0 ∨ x = 1) := by simp [okv]
theorem okv_byte : (okv .byte (.int x) = true) = (x.toInt8.toInt32 = x) := by simp [okv]
end Okv
end Jvm.JX

namespace Jvm.JX
open Sem ClassFile Op Lib
section Num
theorem ia {x y : Int32} (h1 : -2147483648 ≤ x.toInt + y.toInt) (h2 : x.toInt + y.toInt ≤ 2147483647) : (x + y).toInt = x.toInt + y.toInt := by
  rw [Int32.toInt_add]; exact Int.bmod_eq_of_le (by omega) (by omega)
theorem isb {x y : Int32} (h1 : -2147483648 ≤ x.toInt - y.toInt) (h2 : x.toInt - y.toInt ≤ 2147483647) : (x - y).toInt = x.toInt - y.toInt := by
  rw [Int32.toInt_sub]; exact Int.bmod_eq_of_le (by omega) (by omega)
theorem im {x y : Int32} (h1 : -2147483648 ≤ x.toInt * y.toInt) (h2 : x.toInt * y.toInt ≤ 2147483647) : (x * y).toInt = x.toInt * y.toInt := by
  rw [Int32.toInt_mul]; exact Int.bmod_eq_of_le (by omega) (by omega)
theorem ja {x y : Int64} (h1 : -9223372036854775808 ≤ x.toInt + y.toInt) (h2 : x.toInt + y.toInt ≤ 9223372036854775807) : (x + y).toInt = x.toInt + y.toInt := by
  rw [Int64.toInt_add]; exact Int.bmod_eq_of_le (by omega) (by omega)
theorem jsb {x y : Int64} (h1 : -9223372036854775808 ≤ x.toInt - y.toInt) (h2 : x.toInt - y.toInt ≤ 9223372036854775807) : (x - y).toInt = x.toInt - y.toInt := by
  rw [Int64.toInt_sub]; exact Int.bmod_eq_of_le (by omega) (by omega)
theorem jm {x y : Int64} (h1 : -9223372036854775808 ≤ x.toInt * y.toInt) (h2 : x.toInt * y.toInt ≤ 9223372036854775807) : (x * y).toInt = x.toInt * y.toInt := by
  rw [Int64.toInt_mul]; exact Int.bmod_eq_of_le (by omega) (by omega)
theorem lt32 {x y : Int32} : x < y ↔ x.toInt < y.toInt := Int32.lt_iff_toInt_lt
theorem le32 {x y : Int32} : x ≤ y ↔ x.toInt ≤ y.toInt := Int32.le_iff_toInt_le
theorem eq32 {x y : Int32} : x = y ↔ x.toInt = y.toInt := Int32.toInt_inj.symm
theorem lt64 {x y : Int64} : x < y ↔ x.toInt < y.toInt := Int64.lt_iff_toInt_lt
theorem eq64 {x y : Int64} : x = y ↔ x.toInt = y.toInt := Int64.toInt_inj.symm
theorem rg32 (x : Int32) : -2147483648 ≤ x.toInt ∧ x.toInt ≤ 2147483647 := ⟨Int32.le_toInt x, by have := Int32.toInt_lt x; omega⟩
theorem rg64 (x : Int64) : -9223372036854775808 ≤ x.toInt ∧ x.toInt ≤ 9223372036854775807 := ⟨Int64.le_toInt x, by have := Int64.toInt_lt x; omega⟩
theorem cln {i : Int32} : i.toNatClampNeg = i.toInt.toNat := rfl
theorem idx2 {u v : Int32} {a b : Int} (c : Int32) (hc : 0 ≤ c.toInt ∧ c.toInt ≤ 1000) (hu : 0 ≤ u.toInt ∧ u.toInt < a) (hv : 0 ≤ v.toInt ∧ v.toInt < b) (ha : a ≤ 1000) (hb : b ≤ 1000) : (u * c + v).toInt = u.toInt * c.toInt + v.toInt := by
  have h1 : u.toInt * c.toInt ≤ 1000 * 1000 := Int.mul_le_mul (by omega) (by omega) (by omega) (by omega)
  have h0 : 0 ≤ u.toInt * c.toInt := Int.mul_nonneg (by omega) (by omega)
  have e : (u * c).toInt = u.toInt * c.toInt := im (by omega) (by omega)
  rw [ia (by rw [e]; omega) (by rw [e]; omega), e]
theorem cl_rg {lo hi : Int32} (v : Int32) (h : lo.toInt ≤ hi.toInt) : lo.toInt ≤ (cl lo hi v).toInt ∧ (cl lo hi v).toInt ≤ hi.toInt := by
  unfold cl
  by_cases h1 : v < lo
  · rw [if_pos h1]; omega
  · rw [if_neg h1]
    by_cases h2 : hi < v
    · rw [if_pos h2]; omega
    · rw [if_neg h2]; rw [lt32] at h1 h2; omega
end Num
section Fill
def fA (s : St) (t lo hi : Nat) (v : Int32) : St := (s.1, s.2.1, fun t' i => if t' = t ∧ lo ≤ i ∧ i < hi then v else s.2.2.1 t' i, s.2.2.2)
variable {s : St} {t lo hi k i t' : Nat} {v : Int32}
theorem sI_fA : sI (fA s t lo hi v) k = sI s k := by simp [sI, fA]
theorem sJ_fA : sJ (fA s t lo hi v) k = sJ s k := by simp [sJ, fA]
theorem sA_fA : sA (fA s t lo hi v) t' i = if t' = t ∧ lo ≤ i ∧ i < hi then v else sA s t' i := by simp [sA, fA]
theorem sB_fA : sB (fA s t lo hi v) t' i = sB s t' i := by simp [sB, fA]
theorem fA_nil (h : hi ≤ lo) : fA s t lo hi v = s := by
  refine St_ext (fun k => sI_fA) (fun k => sJ_fA) (fun t' i => ?_) (fun t' i => sB_fA)
  rw [sA_fA, if_neg (by omega)]
theorem fA_step (h : lo < hi) : fA (uA s t lo v) t (lo + 1) hi v = fA s t lo hi v := by
  refine St_ext (fun k => by simp only [sI_fA, sI_uA]) (fun k => by simp only [sJ_fA, sJ_uA]) (fun t' i => ?_) (fun t' i => by simp only [sB_fA, sB_uA])
  simp only [sA_fA, sA_uA]
  by_cases h1 : t' = t ∧ lo + 1 ≤ i ∧ i < hi
  · rw [if_pos h1, if_pos (by omega)]
  · rw [if_neg h1]
    by_cases h2 : t' = t ∧ i = lo
    · rw [if_pos h2, if_pos (by omega)]
    · rw [if_neg h2, if_neg (by omega)]
end Fill
section Cnt
def cnt (f : Nat → Bool) : Nat → Nat → Nat
  | _, 0 => 0
  | j, k + 1 => (if f j = true then 1 else 0) + cnt f (j + 1) k
theorem cnt_none {f : Nat → Bool} : ∀ (k j : Nat), (∀ i, j ≤ i → i < j + k → f i = false) → cnt f j k = 0
  | 0, _, _ => rfl
  | k + 1, j, h => by
    have h1 := h j (Nat.le_refl _) (by omega)
    simp only [cnt, h1]
    rw [cnt_none k (j + 1) fun i a b => h i (by omega) (by omega)]; rfl
theorem cnt_one {f : Nat → Bool} {x : Nat} : ∀ (k j : Nat), j ≤ x → x < j + k → f x = true → (∀ i, j ≤ i → i < j + k → i ≠ x → f i = false) → cnt f j k = 1
  | 0, j, h1, h2, _, _ => by omega
  | k + 1, j, h1, h2, hx, h => by
    simp only [cnt]
    by_cases e : j = x
    · subst e
      rw [hx, cnt_none k (j + 1) fun i a b => h i (by omega) (by omega) (by omega)]; rfl
    · rw [h j (Nat.le_refl _) (by omega) e, cnt_one k (j + 1) (by omega) (by omega) hx fun i a b c => h i (by omega) (by omega) c]; rfl
theorem cnt_le {f : Nat → Bool} : ∀ (k j : Nat), cnt f j k ≤ k
  | 0, _ => Nat.le_refl _
  | k + 1, j => by have := cnt_le (f := f) k (j + 1); simp only [cnt]; split <;> omega
theorem cnt_congr {f g : Nat → Bool} : ∀ (k j : Nat), (∀ i, j ≤ i → i < j + k → f i = g i) → cnt f j k = cnt g j k
  | 0, _, _ => rfl
  | k + 1, j, h => by simp only [cnt]; rw [h j (Nat.le_refl _) (by omega), cnt_congr k (j + 1) fun i a b => h i (by omega) (by omega)]
theorem ofNat_one_add (c : Int32) (x : Nat) : c + 1 + Int32.ofNat x = c + Int32.ofNat (1 + x) := by
  rw [Int32.ofNat_add, Int32.add_assoc]; rfl
theorem add_ofNat_zero (c : Int32) : c + Int32.ofNat 0 = c := Int32.add_zero c
end Cnt
section Ite
variable {P : Prog} {m pc : Nat} {L : List Slot} {S : List Value} {k n : Nat} {H : AH} {Q : Option Value → AH → Prop} {c : Prop} [Decidable c]
theorem W_ite {x y : Int32} : (if c then W P m pc L (.int x :: S) k n H Q else W P m pc L (.int y :: S) k n H Q) ↔ W P m pc L (.int (if c then x else y) :: S) k n H Q := by
  by_cases h : c <;> simp [h]
theorem W_iteJ {x y : Int64} : (if c then W P m pc L (.long x :: S) k n H Q else W P m pc L (.long y :: S) k n H Q) ↔ W P m pc L (.long (if c then x else y) :: S) k n H Q := by
  by_cases h : c <;> simp [h]
end Ite
end Jvm.JX

namespace Jvm.JX
open Sem ClassFile Op Lib Jvm.Stand Jvm.Free Jvm.LawKit Jvm.RoadKit
def CRel (C : String) (fn : Nat → String × String) (F : List Nat) (Z : State) (n0 : Nat) (h : Heap) (a : Nat) (c : Cel) : Prop :=
  (c.2.2.1 = true → n0 ≤ a) ∧
  match c.1 with
  | .object _ => Exa Z h a C ∧ ∀ k ∈ F, Fld Z h a C (fn k).1 (fn k).2 (c.2.2.2 k)
  | .array t => c.2.1 < 2 ^ 31 ∧ ∃ cl : Cell, Arr Z h a cl t ∧ cl.slots.size = c.2.1 ∧ ∀ i, i < c.2.1 → cl.slots[i]? = some (c.2.2.2 i)
  | _ => True
def RelH (C : String) (fn : Nat → String × String) (F : List Nat) (Z : State) (n0 : Nat) (h : Heap) (H : AH) : Prop := h.size = H.1 ∧ n0 ≤ H.1 ∧ ∀ a, CRel C fn F Z n0 h a (H.2 a)
def ilen2 : Instr → Nat → Nat
  | .tableswitch _ _ _ _, l => l
  | i, _ => ilen i
def RowOk (P : Prog) (tb : List Jvm.Cond) (C : String) (fn : Nat → String × String) (F : List Nat) (nsl : Nat) (nm : Nat → MethodName) (R : List Nat) (m : Nat) (ins : Instr) (aux : Int) : Prop :=
  match ins with
  | .getfield i => aux.toNat ∈ F ∧ Jvm.Cond.fieldLink (nm m).cls i C (fn aux.toNat).1 (fn aux.toNat).2 ∈ tb
  | .putfield i => aux.toNat ∈ F ∧ Jvm.Cond.fieldLink (nm m).cls i C (fn aux.toNat).1 (fn aux.toNat).2 ∈ tb ∧ (Jvm.Cond.lays C C (fn aux.toNat).1 (fn aux.toNat).2 ∈ tb ∨ (nm m).cls = C ∧ (nm m).name = "<init>")
  | .new i => aux.toNat = nsl ∧ Jvm.Cond.classLink (nm m).cls i C ∈ tb
  | .newarray t => Jvm.Cond.arrayClass (newarray.typeOf t) ∈ tb
  | .ldc i => Jvm.Cond.constant (nm m).cls i (Int32.ofInt aux) ∈ tb
  | .ldc2_w i => Jvm.Cond.constantLong (nm m).cls i (Int64.ofInt aux) ∈ tb
  | .invokevirtual i => aux.toNat ∈ R ∧ Jvm.Cond.methodLink (nm m).cls i (nm aux.toNat) ∈ tb
  | .invokestatic i => aux.toNat ∈ R ∧ Jvm.Cond.methodLink (nm m).cls i (nm aux.toNat) ∈ tb
  | .invokespecial i => (aux = -1 → Jvm.Cond.methodLink (nm m).cls i Lib.objectInit ∈ tb ∧ Jvm.Cond.instanceMethod Lib.objectInit ∈ tb ∧ Jvm.Cond.code Lib.objectInit ⟨#[0xb1]⟩ 1 none ∈ tb) ∧ (0 ≤ aux → aux.toNat ∈ R ∧ Jvm.Cond.methodLink (nm m).cls i (nm aux.toNat) ∈ tb)
  | _ => True
def CalOk (P : Prog) (tb : List Jvm.Cond) (C : String) (nm : Nat → MethodName) (bt : Nat → ByteArray) (m : Nat) : Prop :=
  Jvm.Cond.code (nm m) (bt m) (ml P m) (rt P m) ∈ tb ∧ Jvm.Cond.initialized (nm m).cls ∈ tb ∧ (∃ ps r, parseMethodDescriptor (nm m).desc = some ⟨ps, r⟩ ∧ ps.length + (if kd P m = 0 then 0 else 1) = na P m) ∧
  (kd P m = 0 → Jvm.Cond.static (nm m) ∈ tb) ∧
  (kd P m ≠ 0 → (nm m).cls = C ∧ Jvm.Cond.instanceMethod (nm m) ∈ tb) ∧
  (kd P m = 1 → Jvm.Cond.declares (nm m) ∈ tb ∧ Jvm.Cond.selects C (nm m) (nm m) ∈ tb) ∧
  (kd P m = 2 → Jvm.Cond.privateMethod (nm m) ∈ tb) ∧
  (kd P m = 3 → (nm m).name = "<init>" ∧ rt P m = none)
def Good (P : Prog) (tb : List Jvm.Cond) (C : String) (fn : Nat → String × String) (F : List Nat) (nsl : Nat) (nm : Nat → MethodName) (bt : Nat → ByteArray) (R : List Nat) (top : Nat) : Prop :=
  Jvm.Cond.instantiable C nsl ∈ tb ∧ Jvm.Cond.initialized C ∈ tb ∧
  (∀ k ∈ F, parseFieldDescriptor (fn k).2 = some (P.2.2.1 k) ∧ (Jvm.Cond.lays C C (fn k).1 (fn k).2 ∈ tb ∨ Jvm.Cond.laysFinal C C (fn k).1 (fn k).2 ∈ tb)) ∧
  (∀ j ∈ F, ∀ k ∈ F, (fn j).1 = (fn k).1 → j = k) ∧
  (∀ m ∈ R, plainName (nm m).cls = true ∧ ((nm m).cls ≠ "java/lang/invoke/MethodHandle" ∧ (nm m).cls ≠ "java/lang/invoke/VarHandle") ∧
    ∀ pc ins len aux, P.1 m pc = some (ins, len, aux) → decode (bt m) pc = .ok (ins, len) ∧ len = ilen2 ins len ∧ RowOk P tb C fn F nsl nm R m ins aux) ∧
  (∀ m ∈ R, m ≠ top → CalOk P tb C nm bt m) ∧
  (∀ m ∈ R, ∀ pc ins len aux, P.1 m pc = some (ins, len, aux) → aux = (top : Int) → kindOk ins (kd P top) = false)
section Rel
variable {C : String} {fn : Nat → String × String} {F : List Nat} {Z : State} {n0 : Nat} {h h' : Heap} {H : AH}
theorem RelH.obj (r : RelH C fn F Z n0 h H) {a : Nat} (ha : isO H a = true) : Exa Z h a C ∧ ∀ k ∈ F, Fld Z h a C (fn k).1 (fn k).2 (fld H a k) := by
  have q := (r.2.2 a).2
  unfold isO at ha
  cases hk : (H.2 a).1 <;> rw [hk] at ha <;> first | (cases ha; done) | (simp only [hk] at q; exact q)
theorem RelH.own (r : RelH C fn F Z n0 h H) {a : Nat} (ha : (H.2 a).2.2.1 = true) : n0 ≤ a := (r.2.2 a).1 ha
theorem RelH.arr (r : RelH C fn F Z n0 h H) {a : Nat} {t : FieldType} (ha : (H.2 a).1 = .array t) : (H.2 a).2.1 < 2 ^ 31 ∧ ∃ cl : Cell, Arr Z h a cl t ∧ cl.slots.size = (H.2 a).2.1 ∧ ∀ i, i < (H.2 a).2.1 → cl.slots[i]? = some ((H.2 a).2.2.2 i) := by
  have q := (r.2.2 a).2
  simp only [ha] at q; exact q
theorem RelH.ext (r : RelH C fn F Z n0 h H) (E : Ext h h') {c : Cel} (hs : h'.size = h.size + 1) (hc : CRel C fn F Z n0 h' h.size c) : RelH C fn F Z n0 h' (H.1 + 1, fun b => if b = H.1 then c else H.2 b) := by
  refine ⟨by rw [hs, r.1], Nat.le_succ_of_le r.2.1, fun a => ?_⟩
  by_cases e : a = H.1
  · subst e; simp only [if_true]; rw [← r.1]; exact hc
  · simp only [e, if_false]
    obtain ⟨q1, q2⟩ := r.2.2 a
    refine ⟨q1, ?_⟩
    cases hk : (H.2 a).1 <;> simp only [hk] at q2 ⊢
    · exact ⟨q2.1.ext E, fun k hk => (q2.2 k hk).ext E⟩
    · obtain ⟨q3, cl, q4, q5⟩ := q2; exact ⟨q3, cl, q4.ext E, q5⟩
end Rel
def Go (C : String) (fn : Nat → String × String) (F : List Nat) (Z : State) (n0 : Nat) (p : Program) (l : Launch) (e : Env) (R : Jvm.Room) (s : State) (mid : MethodId) (args : Array Value) (below : List Frame) (meth : Method) (c : Code) (start : State) (nl : Nat) (q : Fm) : Prop :=
  ∃ T' locs', Stand p l e R s mid args below meth c T' locs' q.2.2.2.1 q.2.2.2.2.1 ∧ RelH C fn F Z n0 T'.heap q.2.2.2.2.2 ∧ Fr n0 locs' ∧ q.2.2.2.1 ≤ R.cells ∧ q.2.2.2.2.1 ≤ R.slots ∧ q.2.1.length = nl ∧
    ∀ target, Steps p.tables e below (T'.setTop (mkF mid q.1 q.2.1.toArray q.2.2.1)) target → Steps p.tables e below start target
theorem lrem_mod (x y : Int64) : x - (x / y) * y = x % y := by
  apply Int64.toInt_inj.mp
  have h1 := Int64.le_toInt (x % y)
  have h2 := Int64.toInt_lt (x % y)
  rw [Int64.toInt_sub, Int64.toInt_mul, Int64.toInt_div, Int.bmod_mul_bmod, Int.sub_bmod_bmod, Int.mul_comm (x.toInt.tdiv y.toInt), ← Int.tmod_def, ← Int64.toInt_mod]
  exact Int.bmod_eq_of_le_mul_two (by omega) (by omega)
theorem arr_get {L : List Slot} {i : Nat} {o : Slot} (h : L[i]? = some o) : L.toArray[i]? = some o := by simpa using h
theorem arr_set (L : List Slot) (i : Nat) (o : Slot) : L.toArray.setIfInBounds i o = (L.set i o).toArray := by simp
theorem stl_ok {L L' : List Slot} {i : Nat} {v : Value} (hv : v.category = 1) (h : stl L i v = some L') : storeLocals L.toArray i v = some L'.toArray ∧ L'.length = L.length := by
  unfold stl at h
  unfold storeLocals
  cases hi : L[i]? with
  | none => rw [hi] at h; cases h
  | some o =>
    have hlt : i < L.length := (List.getElem?_eq_some_iff.mp hi).1
    rw [hi] at h
    rw [arr_get hi]
    cases o with
    | unset => cases h; simp [storeSelf, setAt, hlt, hv]
    | second =>
      simp only at h
      split at h
      · cases h; simp [storeSelf, setAt, hv, hlt, Nat.lt_of_le_of_lt (Nat.sub_le i 1) hlt]
      · cases h
    | val w =>
      simp only at h
      split at h
      · rename_i hw; cases h; simp [storeSelf, setAt, hv, hlt, hw]
      · rename_i hw
        split at h
        · rename_i h1
          have hw2 : w.category = 2 := by cases w <;> simp [Value.category] at hw ⊢
          cases h; simp [storeSelf, setAt, hv, hlt, hw2, h1]
        · cases h
theorem stL_ok {L L' : List Slot} {i : Nat} {v : Value} (hv : v.category = 2) (h : stL L i v = some L') : storeLocals L.toArray i v = some L'.toArray ∧ L'.length = L.length := by
  unfold stL at h
  unfold storeLocals
  cases hi : L[i]? with
  | none => rw [hi] at h; cases h
  | some o =>
    cases hi2 : L[i + 1]? with
    | none => rw [hi, hi2] at h; cases o <;> cases h
    | some o2 =>
      have hlt : i < L.length := (List.getElem?_eq_some_iff.mp hi).1
      have hlt2 : i + 1 < L.length := (List.getElem?_eq_some_iff.mp hi2).1
      rw [hi, hi2] at h
      rw [arr_get hi]
      have g2 : (L.set i (.val v))[i + 1]? = some o2 := by rw [List.getElem?_set_ne (by omega)]; exact hi2
      have g4 : L[i + 1] = o2 := (List.getElem?_eq_some_iff.mp hi2).2
      cases o with
      | second => cases h
      | unset =>
        simp only at h
        split at h
        · rename_i hc
          cases h
          cases o2 with
          | second => cases hc
          | unset => simp [storeSelf, setAt, hv, hlt, hlt2, g2, g4]
          | val w => simp only [cat1, beq_iff_eq] at hc; simp [storeSelf, setAt, hv, hlt, hlt2, g2, g4, hc]
        · cases h
      | val w =>
        simp only at h
        split at h
        · rename_i hw
          cases h
          have g3 : ((L.set (i + 1) .unset).set i (.val v))[i + 1]? = some .unset := by rw [List.getElem?_set_ne (by omega)]; simp [hlt2]
          simp [storeSelf, setAt, hv, hlt, hlt2, hw, g3]
          rw [List.set_comm _ _ (by omega), List.set_set, List.set_comm _ _ (by omega)]
        · rename_i hw
          have hw1 : ¬ w.category = 2 := hw
          split at h
          · rename_i hc
            cases h
            cases o2 with
            | second => cases hc
            | unset => simp [storeSelf, setAt, hv, hlt, hlt2, g2, g4, hw1]
            | val w => simp only [cat1, beq_iff_eq] at hc; simp [storeSelf, setAt, hv, hlt, hlt2, g2, g4, hw1, hc]
          · cases h
theorem jmp_ok {pc q : Nat} {o : Int} (h : jmp pc o = some q) : 0 ≤ (pc : Int) + o ∧ ((pc : Int) + o).toNat = q := by
  unfold jmp at h
  split at h
  · rename_i g; cases h; exact ⟨g, rfl⟩
  · cases h
theorem ldI_ok {L : List Slot} {i : Nat} {v : Value} (h : ldI L i = some v) : ∃ x, v = .int x ∧ L.toArray[i]? = some (.val (.int x)) := by
  unfold ldI at h
  split at h
  · rename_i x e; cases h; exact ⟨x, rfl, arr_get e⟩
  · cases h
theorem ldJ_ok {L : List Slot} {i : Nat} {v : Value} (h : ldJ L i = some v) : ∃ x, v = .long x ∧ L.toArray[i]? = some (.val (.long x)) := by
  unfold ldJ at h
  split at h
  · rename_i x e; cases h; exact ⟨x, rfl, arr_get e⟩
  · cases h
theorem ldR_ok {L : List Slot} {i : Nat} {v : Value} (h : ldR L i = some v) : ∃ x, v = .ref x ∧ L.toArray[i]? = some (.val (.ref x)) := by
  unfold ldR at h
  split at h
  · rename_i x e; cases h; exact ⟨x, rfl, arr_get e⟩
  · cases h
theorem okv_ok {t : FieldType} {v : Value} (h : okv t v = true) : narrow t v = v ∧ fits t v = true := by
  unfold okv at h
  split at h
  · exact ⟨rfl, rfl⟩
  · rename_i z
    simp only [Bool.or_eq_true, beq_iff_eq] at h
    rcases h with rfl | rfl <;> exact ⟨rfl, rfl⟩
  · rename_i z
    simp only [beq_iff_eq] at h
    have q := fits_nar_byte z
    rw [h] at q
    exact ⟨by show Value.int _ = _; rw [h], q⟩
  · exact ⟨rfl, rfl⟩
  · exact ⟨rfl, rfl⟩
  · cases h
end Jvm.JX

namespace Jvm.JX
open Sem ClassFile Op Lib Jvm.Stand Jvm.Free Jvm.LawKit Jvm.RoadKit
section Step
variable {P : Prog} {tb : List Jvm.Cond} {C : String} {fn : Nat → String × String} {F : List Nat} {nsl : Nat} {nm : Nat → MethodName} {bt : Nat → ByteArray} {R : List Nat} {top : Nat}
variable {l : Launch} {Z : State} {a0 : Array Value} {n0 : Nat} {m pc len k n : Nat} {aux : Int} {L : List Slot} {S : List Value} {H : AH} {ins : Instr} {q : Fm}
variable {p : Program} {e : Env} {s : State} {mid : MethodId} {args : Array Value} {below : List Frame} {meth : Method} {c : Code} {T : State} {locs : List Loc} {Rm : Jvm.Room}
theorem go_same {start : State} {nl pc' : Nat} {L' : List Slot} {S' : List Value} (X : Stand p l e Rm s mid args below meth c T locs k n) (r : RelH C fn F Z n0 T.heap H) (N : Fr n0 locs) (hk : k ≤ Rm.cells) (hn : n ≤ Rm.slots) (hL : L'.length = nl)
    (st : ∀ target, Steps p.tables e below (T.setTop (mkF mid pc' L'.toArray S')) target → Steps p.tables e below start target) : Go C fn F Z n0 p l e Rm s mid args below meth c start nl (pc', L', S', k, n, H) := ⟨T, locs, X, r, N, hk, hn, hL, st⟩
theorem go_heap {start : State} {nl pc' : Nat} {L' : List Slot} {S' : List Value} {T' : State} (X : Stand p l e Rm s mid args below meth c T' locs k n) (r : RelH C fn F Z n0 T.heap H) (hh : T'.heap = T.heap) (N : Fr n0 locs) (hk : k ≤ Rm.cells) (hn : n ≤ Rm.slots) (hL : L'.length = nl)
    (st : ∀ target, Steps p.tables e below (T'.setTop (mkF mid pc' L'.toArray S')) target → Steps p.tables e below start target) : Go C fn F Z n0 p l e Rm s mid args below meth c start nl (pc', L', S', k, n, H) := ⟨T', locs, X, by rw [hh]; exact r, N, hk, hn, hL, st⟩
theorem idx_not {i : Int32} {n : Nat} (h1 : ¬ i < 0) (h2 : i.toNatClampNeg < n) : ¬ (i < 0 ∨ n ≤ i.toNatClampNeg) := fun h => h.elim h1 (Nat.not_le.mpr h2)
theorem inA_ok {a : Nat} {t : FieldType} {i : Int32} (h : inA H a t i = true) : (H.2 a).1 = .array t ∧ ¬ i < 0 ∧ i.toNatClampNeg < (H.2 a).2.1 := by
  simpa [inA, and_assoc] using h
theorem inAw_ok {a : Nat} {t : FieldType} {i : Int32} (h : inAw H a t i = true) : inA H a t i = true ∧ (H.2 a).2.2.1 = true := by
  simpa [inAw] using h
theorem isOw_ok {a : Nat} (h : isOw H a = true) : isO H a = true ∧ (H.2 a).2.2.1 = true := by simpa [isOw] using h
theorem RelH.wrF {h h' : Heap} {a j : Nat} {v : Value} (hG : Good P tb C fn F nsl nm bt R top) (hw : ∀ d ∈ tb, d.before a0 Z = true) (r : RelH C fn F Z n0 h H) (ha : isO H a = true) (hj : j ∈ F) (Wt : Wr h h' a (Jvm.RoadKit.slotOf Z C (fn j).1 (fn j).2) v) : RelH C fn F Z n0 h' (wr H a j v) := by
  refine ⟨by rw [Wt.size]; exact r.1, r.2.1, fun b => ?_⟩
  by_cases e : b = a
  · subst e
    obtain ⟨q1, q2⟩ := r.2.2 b
    obtain ⟨E, Fs⟩ := r.obj ha
    simp only [wr, if_true]
    refine ⟨q1, ?_⟩
    unfold isO at ha
    cases hk : (H.2 b).1 <;> rw [hk] at ha <;> try (cases ha; done)
    simp only
    refine ⟨E.wr Wt, fun i hi => ?_⟩
    by_cases e2 : i = j
    · subst e2; simp only [if_true]; exact (Fs i hi).same Wt
    · simp only [e2, if_false]
      refine (Fs i hi).other Wt (Or.inr ?_)
      have lw : ∀ k ∈ F, Laid Z a0 C C (fn k).1 (fn k).2 := fun k hk => ((hG.2.2.1 k hk).2).imp (hw _) (hw _)
      exact slot_ne (lw i hi) (lw j hj) (fun q => e2 (hG.2.2.2.1 i hi j hj q)) (hG.2.2.1 i hi).1 (hG.2.2.1 j hj).1
  · simp only [wr, e, if_false]
    obtain ⟨q1, q2⟩ := r.2.2 b
    refine ⟨q1, ?_⟩
    cases hk : (H.2 b).1 <;> simp only [hk] at q2 ⊢
    · exact ⟨q2.1.wr Wt, fun k hk => (q2.2 k hk).other Wt (Or.inl e)⟩
    · obtain ⟨q3, cl, q4, q5⟩ := q2; exact ⟨q3, cl, q4.other Wt e, q5⟩
theorem RelH.wrA {h h' : Heap} {a j : Nat} {t : FieldType} {v : Value} (r : RelH C fn F Z n0 h H) (ha : (H.2 a).1 = .array t) (hj : j < (H.2 a).2.1) (Wt : Wr h h' a j v) : RelH C fn F Z n0 h' (wr H a j v) := by
  refine ⟨by rw [Wt.size]; exact r.1, r.2.1, fun b => ?_⟩
  by_cases e : b = a
  · subst e
    obtain ⟨q1, q2⟩ := r.2.2 b
    obtain ⟨g1, cl, g2, g3, g4⟩ := r.arr ha
    simp only [wr, if_true]
    refine ⟨q1, ?_⟩
    simp only [ha]
    refine ⟨g1, cl.setSlot j v, g2.same Wt, by rw [sz_set]; exact g3, fun i hi => ?_⟩
    by_cases e2 : i = j
    · subst e2; simp [Cell.setSlot, g3, hj]
    · simp only [e2, if_false]; rw [← g4 i hi]; exact Array.getElem?_setIfInBounds_ne (Ne.symm e2)
  · simp only [wr, e, if_false]
    obtain ⟨q1, q2⟩ := r.2.2 b
    refine ⟨q1, ?_⟩
    cases hk : (H.2 b).1 <;> simp only [hk] at q2 ⊢
    · exact ⟨q2.1.wr Wt, fun k hk => (q2.2 k hk).other Wt (Or.inl e)⟩
    · obtain ⟨q3, cl, q4, q5⟩ := q2; exact ⟨q3, cl, q4.other Wt e, q5⟩
theorem ext_push (h : Heap) (x : Cell) : Ext h (h.push x) := ⟨by simp, fun a c q => by rw [Array.getElem?_push_lt (Array.getElem?_eq_some_iff.mp q).1]; exact (Array.getElem?_eq_getElem _).symm.trans q⟩
theorem made_obj {h : Heap} {cC : ClassId} {kC : Class} (hZ : Z.Warmed39 s.vm) (h1 : s.vm.findClass C = some cC) (h2 : s.vm.classes[cC]? = some kC) :
    Exa Z (h.push { cls := cC, slots := kC.instanceTypes.map defaultValue, vm := .none }) h.size C ∧ ∀ {nm d : String} {ty : FieldType}, Laid Z a0 C C nm d → parseFieldDescriptor d = some ty → Fld Z (h.push { cls := cC, slots := kC.instanceTypes.map defaultValue, vm := .none }) h.size C nm d (defaultValue ty) := by
  rw [hZ.alike.findClass] at h1
  obtain ⟨kZ, z1, -⟩ := Vm.findClass_spec h1
  obtain ⟨k', z2, z3⟩ := hZ.alike.2.2 _ _ z1
  cases h2.symm.trans z2
  have ei : kC.instanceTypes = kZ.instanceTypes := by rw [z3]
  have hN : ∀ x : Cell, (h.push x)[h.size]? = some x := fun x => by simp
  refine ⟨⟨_, kZ, hN _, h1, z1, rfl, fun _ => by simp [ei]⟩, fun {nm d ty} lw ht => ?_⟩
  obtain ⟨c1, k1, cf, kf, i, f, a1, a2, a3, a4, a5, a6, -⟩ := lw.spec
  cases h1.symm.trans a1
  cases z1.symm.trans a2
  exact ⟨_, cf, kf, i, f, hN _, a3, a4, by simp, rfl, a5, by simp [ei, a6, (State.fieldFound?_type a3 ht).2]⟩
theorem made_arr {h : Heap} {t : FieldType} {cA comp : ClassId} {kA : Class} {xs : Array Value} (hZ : Z.Warmed39 s.vm) (h1 : s.vm.findClass ("[" ++ t.toString) = some cA) (h2 : s.vm.classes[cA]? = some kA) (h3 : kA.kind = .array comp t) : Arr Z (h.push { cls := cA, slots := xs, vm := .none }) h.size { cls := cA, slots := xs, vm := .none } t := by
  rw [hZ.alike.findClass] at h1
  obtain ⟨kZ, z1, -⟩ := Vm.findClass_spec h1
  obtain ⟨k', z2, z3⟩ := hZ.alike.2.2 _ _ z1
  cases h2.symm.trans z2
  exact ⟨by simp, ⟨by simp, kZ, z1, comp, by rw [← h3, z3]⟩, by simp⟩
set_option maxHeartbeats 4000000 in
theorem stp_go (hG : Good P tb C fn F nsl nm bt R top) (hw : ∀ d ∈ tb, d.before a0 Z = true) (hm : m ∈ R) (hrow : P.1 m pc = some (ins, len, aux)) (h : stp P m ins len aux pc L S k n H = some q) (X : Stand p l e (rm P m) s mid args below meth c T locs k n) (hx : p.tables.exec = Jvm.exec) (hZ : Z.Warmed39 s.vm)
    (hby : c.code = bt m) (hml : c.maxLocals = ml P m) (hown : s.vm.findClass (nm m).cls = some mid.cls) (hnm : meth.name = (nm m).name) (hL : L.length = ml P m) (r : RelH C fn F Z n0 T.heap H) (N : Fr n0 locs) (hk : k ≤ (rm P m).cells) (hn : n ≤ (rm P m).slots) :
    Go C fn F Z n0 p l e (rm P m) s mid args below meth c (T.setTop (mkF mid pc L.toArray S)) (ml P m) q := by
  obtain ⟨hd, hl, ho⟩ := (hG.2.2.2.2.1 m hm).2.2 pc ins len aux hrow
  replace hd := hb hby hd
  cases ins with
  | iconst i =>
    have hl : len = 1 := hl; subst hl
    obtain rfl := Option.some.inj h
    exact go_same X r N hk hn hL fun t g => XS.iconst X.here hx rfl hd g
  | bipush i =>
    have hl : len = 2 := hl; subst hl
    obtain rfl := Option.some.inj h
    exact go_same X r N hk hn hL fun t g => XS.bipush X.here hx rfl hd g
  | sipush i =>
    have hl : len = 3 := hl; subst hl
    obtain rfl := Option.some.inj h
    exact go_same X r N hk hn hL fun t g => XS.sipush X.here hx rfl hd g
  | lconst i =>
    have hl : len = 1 := hl; subst hl
    obtain rfl := Option.some.inj h
    exact go_same X r N hk hn hL fun t g => XT.lconst X.here hx rfl hd g
  | ldc i =>
    have hl : len = 2 := hl; subst hl
    obtain rfl := Option.some.inj h
    exact go_same X r N hk hn hL fun t g => X.ldcI hx hown (mv hZ (hw _ ho)) rfl hd g
  | ldc2_w i =>
    have hl : len = 3 := hl; subst hl
    obtain rfl := Option.some.inj h
    exact go_same X r N hk hn hL fun t g => X.ldc2J hx hown (mv hZ (hw _ ho)) rfl hd g
  | iload i =>
    have hl : len = 2 := hl; subst hl
    obtain ⟨v, hv, rfl⟩ := Option.map_eq_some_iff.mp h
    obtain ⟨x, rfl, hg⟩ := ldI_ok hv
    exact go_same X r N hk hn hL fun t g => XS.iload X.here hx rfl hd hg g
  | iload_n i =>
    have hl : len = 1 := hl; subst hl
    obtain ⟨v, hv, rfl⟩ := Option.map_eq_some_iff.mp h
    obtain ⟨x, rfl, hg⟩ := ldI_ok hv
    exact go_same X r N hk hn hL fun t g => XS.iloadN X.here hx rfl hd hg g
  | lload i =>
    have hl : len = 2 := hl; subst hl
    obtain ⟨v, hv, rfl⟩ := Option.map_eq_some_iff.mp h
    obtain ⟨x, rfl, hg⟩ := ldJ_ok hv
    exact go_same X r N hk hn hL fun t g => XT.lload X.here hx rfl hd hg g
  | lload_n i =>
    have hl : len = 1 := hl; subst hl
    obtain ⟨v, hv, rfl⟩ := Option.map_eq_some_iff.mp h
    obtain ⟨x, rfl, hg⟩ := ldJ_ok hv
    exact go_same X r N hk hn hL fun t g => XT.lloadN X.here hx rfl hd hg g
  | aload i =>
    have hl : len = 2 := hl; subst hl
    obtain ⟨v, hv, rfl⟩ := Option.map_eq_some_iff.mp h
    obtain ⟨x, rfl, hg⟩ := ldR_ok hv
    exact go_same X r N hk hn hL fun t g => XS.aload X.here hx rfl hd hg rfl g
  | aload_n i =>
    have hl : len = 1 := hl; subst hl
    obtain ⟨v, hv, rfl⟩ := Option.map_eq_some_iff.mp h
    obtain ⟨x, rfl, hg⟩ := ldR_ok hv
    exact go_same X r N hk hn hL fun t g => XS.aloadN X.here hx rfl hd hg rfl g
  | istore i =>
    have hl : len = 2 := hl; subst hl
    dsimp only [stp] at h
    split at h
    · rename_i x S'
      obtain ⟨L', hv, rfl⟩ := Option.map_eq_some_iff.mp h
      obtain ⟨g1, g2⟩ := stl_ok rfl hv
      exact go_same X r N hk hn (g2.trans hL) fun t g => XS.istore X.here hx rfl hd rfl g1 g
    · cases h
  | istore_n i =>
    have hl : len = 1 := hl; subst hl
    dsimp only [stp] at h
    split at h
    · rename_i x S'
      obtain ⟨L', hv, rfl⟩ := Option.map_eq_some_iff.mp h
      obtain ⟨g1, g2⟩ := stl_ok rfl hv
      exact go_same X r N hk hn (g2.trans hL) fun t g => XS.istoreN X.here hx rfl hd rfl g1 g
    · cases h
  | astore i =>
    have hl : len = 2 := hl; subst hl
    dsimp only [stp] at h
    split at h
    · rename_i x S'
      obtain ⟨L', hv, rfl⟩ := Option.map_eq_some_iff.mp h
      obtain ⟨g1, g2⟩ := stl_ok rfl hv
      exact go_same X r N hk hn (g2.trans hL) fun t g => XS.astore X.here hx rfl hd rfl rfl g1 g
    · cases h
  | astore_n i =>
    have hl : len = 1 := hl; subst hl
    dsimp only [stp] at h
    split at h
    · rename_i x S'
      obtain ⟨L', hv, rfl⟩ := Option.map_eq_some_iff.mp h
      obtain ⟨g1, g2⟩ := stl_ok rfl hv
      exact go_same X r N hk hn (g2.trans hL) fun t g => XS.astoreN X.here hx rfl hd rfl rfl g1 g
    · cases h
  | lstore i =>
    have hl : len = 2 := hl; subst hl
    dsimp only [stp] at h
    split at h
    · rename_i x S'
      obtain ⟨L', hv, rfl⟩ := Option.map_eq_some_iff.mp h
      obtain ⟨g1, g2⟩ := stL_ok rfl hv
      exact go_same X r N hk hn (g2.trans hL) fun t g => XT.lstore X.here hx rfl hd rfl g1 g
    · cases h
  | lstore_n i =>
    have hl : len = 1 := hl; subst hl
    dsimp only [stp] at h
    split at h
    · rename_i x S'
      obtain ⟨L', hv, rfl⟩ := Option.map_eq_some_iff.mp h
      obtain ⟨g1, g2⟩ := stL_ok rfl hv
      exact go_same X r N hk hn (g2.trans hL) fun t g => XT.lstoreN X.here hx rfl hd rfl g1 g
    · cases h
  | iinc i cst =>
    have hl : len = 3 := hl; subst hl
    dsimp only [stp] at h
    split at h
    · rename_i x hx1
      obtain rfl := Option.some.inj h
      have g1 : storeLocals L.toArray i (.int (x + Int32.ofInt cst)) = some (L.set i (.val (.int (x + Int32.ofInt cst)))).toArray := (stl_ok rfl (stl_plain hx1 rfl)).1
      exact go_same X r N hk hn (by simpa using hL) fun t g => XS.iinc X.here hx rfl hd (arr_get hx1) g1 g
    · cases h
  | iadd =>
    have hl : len = 1 := hl; subst hl
    dsimp only [stp] at h
    split at h
    · rename_i y x S'
      obtain rfl := Option.some.inj h
      exact go_same X r N hk hn hL fun t g => XS.iadd X.here hx rfl hd rfl g
    · cases h
  | isub =>
    have hl : len = 1 := hl; subst hl
    dsimp only [stp] at h
    split at h
    · rename_i y x S'
      obtain rfl := Option.some.inj h
      exact go_same X r N hk hn hL fun t g => XS.isub X.here hx rfl hd rfl g
    · cases h
  | imul =>
    have hl : len = 1 := hl; subst hl
    dsimp only [stp] at h
    split at h
    · rename_i y x S'
      obtain rfl := Option.some.inj h
      exact go_same X r N hk hn hL fun t g => XS.imul X.here hx rfl hd rfl g
    · cases h
  | iand =>
    have hl : len = 1 := hl; subst hl
    dsimp only [stp] at h
    split at h
    · rename_i y x S'
      obtain rfl := Option.some.inj h
      exact go_same X r N hk hn hL fun t g => XS.iand X.here hx rfl hd rfl g
    · cases h
  | ior =>
    have hl : len = 1 := hl; subst hl
    dsimp only [stp] at h
    split at h
    · rename_i y x S'
      obtain rfl := Option.some.inj h
      exact go_same X r N hk hn hL fun t g => XT.ior X.here hx rfl hd rfl g
    · cases h
  | ixor =>
    have hl : len = 1 := hl; subst hl
    dsimp only [stp] at h
    split at h
    · rename_i y x S'
      obtain rfl := Option.some.inj h
      exact go_same X r N hk hn hL fun t g => XT.ixor X.here hx rfl hd rfl g
    · cases h
  | ishl =>
    have hl : len = 1 := hl; subst hl
    dsimp only [stp] at h
    split at h
    · rename_i y x S'
      obtain rfl := Option.some.inj h
      exact go_same X r N hk hn hL fun t g => XT.ishl X.here hx rfl hd rfl g
    · cases h
  | ishr =>
    have hl : len = 1 := hl; subst hl
    dsimp only [stp] at h
    split at h
    · rename_i y x S'
      obtain rfl := Option.some.inj h
      exact go_same X r N hk hn hL fun t g => XT.ishr X.here hx rfl hd rfl g
    · cases h
  | iushr =>
    have hl : len = 1 := hl; subst hl
    dsimp only [stp] at h
    split at h
    · rename_i y x S'
      obtain rfl := Option.some.inj h
      exact go_same X r N hk hn hL fun t g => XT.iushr X.here hx rfl hd rfl g
    · cases h
  | ladd =>
    have hl : len = 1 := hl; subst hl
    dsimp only [stp] at h
    split at h
    · rename_i y x S'
      obtain rfl := Option.some.inj h
      exact go_same X r N hk hn hL fun t g => XT.ladd X.here hx rfl hd rfl g
    · cases h
  | lsub =>
    have hl : len = 1 := hl; subst hl
    dsimp only [stp] at h
    split at h
    · rename_i y x S'
      obtain rfl := Option.some.inj h
      exact go_same X r N hk hn hL fun t g => XT.lsub X.here hx rfl hd rfl g
    · cases h
  | lmul =>
    have hl : len = 1 := hl; subst hl
    dsimp only [stp] at h
    split at h
    · rename_i y x S'
      obtain rfl := Option.some.inj h
      exact go_same X r N hk hn hL fun t g => XT.lmul X.here hx rfl hd rfl g
    · cases h
  | land =>
    have hl : len = 1 := hl; subst hl
    dsimp only [stp] at h
    split at h
    · rename_i y x S'
      obtain rfl := Option.some.inj h
      exact go_same X r N hk hn hL fun t g => XT.land X.here hx rfl hd rfl g
    · cases h
  | lor =>
    have hl : len = 1 := hl; subst hl
    dsimp only [stp] at h
    split at h
    · rename_i y x S'
      obtain rfl := Option.some.inj h
      exact go_same X r N hk hn hL fun t g => XT.lor X.here hx rfl hd rfl g
    · cases h
  | lxor =>
    have hl : len = 1 := hl; subst hl
    dsimp only [stp] at h
    split at h
    · rename_i y x S'
      obtain rfl := Option.some.inj h
      exact go_same X r N hk hn hL fun t g => XT.lxor X.here hx rfl hd rfl g
    · cases h
  | lshl =>
    have hl : len = 1 := hl; subst hl
    dsimp only [stp] at h
    split at h
    · rename_i y x S'
      obtain rfl := Option.some.inj h
      exact go_same X r N hk hn hL fun t g => XT.lshl X.here hx rfl hd rfl g
    · cases h
  | lshr =>
    have hl : len = 1 := hl; subst hl
    dsimp only [stp] at h
    split at h
    · rename_i y x S'
      obtain rfl := Option.some.inj h
      exact go_same X r N hk hn hL fun t g => XT.lshr X.here hx rfl hd rfl g
    · cases h
  | lushr =>
    have hl : len = 1 := hl; subst hl
    dsimp only [stp] at h
    split at h
    · rename_i y x S'
      obtain rfl := Option.some.inj h
      exact go_same X r N hk hn hL fun t g => XT.lushr X.here hx rfl hd rfl g
    · cases h
  | idiv =>
    have hl : len = 1 := hl; subst hl
    dsimp only [stp] at h
    split at h
    · rename_i y x S'
      split at h
      · cases h
      · rename_i g0
        obtain rfl := Option.some.inj h
        exact go_same X r N hk hn hL fun t g => XS.idiv X.here hx rfl hd rfl g0 g
    · cases h
  | irem =>
    have hl : len = 1 := hl; subst hl
    dsimp only [stp] at h
    split at h
    · rename_i y x S'
      split at h
      · cases h
      · rename_i g0
        obtain rfl := Option.some.inj h
        exact go_same X r N hk hn hL fun t g => iremM X hx rfl hd rfl g0 g
    · cases h
  | ldiv =>
    have hl : len = 1 := hl; subst hl
    dsimp only [stp] at h
    split at h
    · rename_i y x S'
      split at h
      · cases h
      · rename_i g0
        obtain rfl := Option.some.inj h
        exact go_same X r N hk hn hL fun t g => XT.ldiv X.here hx rfl hd rfl g0 g
    · cases h
  | lrem =>
    have hl : len = 1 := hl; subst hl
    dsimp only [stp] at h
    split at h
    · rename_i y x S'
      split at h
      · cases h
      · rename_i g0
        obtain rfl := Option.some.inj h
        exact go_same X r N hk hn hL fun t g => XT.lrem X.here hx rfl hd rfl g0 (by rw [lrem_mod]; exact g)
    · cases h
  | ineg =>
    have hl : len = 1 := hl; subst hl
    dsimp only [stp] at h
    split at h
    · rename_i x S'
      obtain rfl := Option.some.inj h
      exact go_same X r N hk hn hL fun t g => XS.ineg X.here hx rfl hd rfl g
    · cases h
  | lneg =>
    have hl : len = 1 := hl; subst hl
    dsimp only [stp] at h
    split at h
    · rename_i x S'
      obtain rfl := Option.some.inj h
      exact go_same X r N hk hn hL fun t g => XT.lneg X.here hx rfl hd rfl g
    · cases h
  | i2l =>
    have hl : len = 1 := hl; subst hl
    dsimp only [stp] at h
    split at h
    · rename_i x S'
      obtain rfl := Option.some.inj h
      exact go_same X r N hk hn hL fun t g => XT.i2l X.here hx rfl hd rfl g
    · cases h
  | l2i =>
    have hl : len = 1 := hl; subst hl
    dsimp only [stp] at h
    split at h
    · rename_i x S'
      obtain rfl := Option.some.inj h
      exact go_same X r N hk hn hL fun t g => XT.l2i X.here hx rfl hd rfl g
    · cases h
  | i2b =>
    have hl : len = 1 := hl; subst hl
    dsimp only [stp] at h
    split at h
    · rename_i x S'
      obtain rfl := Option.some.inj h
      exact go_same X r N hk hn hL fun t g => XT.i2b X.here hx rfl hd rfl g
    · cases h
  | lcmp =>
    have hl : len = 1 := hl; subst hl
    dsimp only [stp] at h
    split at h
    · rename_i y x S'
      obtain rfl := Option.some.inj h
      exact go_same X r N hk hn hL fun t g => XT.lcmp X.here hx rfl hd rfl g
    · cases h
  | dup =>
    have hl : len = 1 := hl; subst hl
    dsimp only [stp] at h
    split at h
    · rename_i v S'
      split at h
      · rename_i g0
        obtain rfl := Option.some.inj h
        exact go_same X r N hk hn hL fun t g => XS.dup X.here hx rfl hd rfl g0 g
      · cases h
    · cases h
  | pop =>
    have hl : len = 1 := hl; subst hl
    dsimp only [stp] at h
    split at h
    · rename_i v S'
      split at h
      · rename_i g0
        obtain rfl := Option.some.inj h
        exact go_same X r N hk hn hL fun t g => XT.pop X.here hx rfl hd rfl g0 g
      · cases h
    · cases h
  | dup2 =>
    have hl : len = 1 := hl; subst hl
    dsimp only [stp] at h
    split at h
    · rename_i x S'
      obtain rfl := Option.some.inj h
      exact go_same X r N hk hn hL fun t g => XT.dup2L X.here hx rfl hd rfl g
    · rename_i v w S' _
      split at h
      · rename_i g0
        obtain rfl := Option.some.inj h
        exact go_same X r N hk hn hL fun t g => XT.dup2 X.here hx rfl hd rfl g0.1 g0.2 g
      · cases h
    · cases h
  | goto o =>
    have hl : len = 3 := hl; subst hl
    obtain ⟨v, hv, rfl⟩ := Option.map_eq_some_iff.mp h
    obtain ⟨g1, g2⟩ := jmp_ok hv
    exact go_same X r N hk hn hL fun t g => XS.goto X.here hx rfl rfl hd g1 g2 g
  | ifCond cd o =>
    have hl : len = 3 := hl; subst hl
    dsimp only [stp] at h
    split at h
    · rename_i x S'
      split at h
      · rename_i g0
        obtain ⟨v, hv, rfl⟩ := Option.map_eq_some_iff.mp h
        obtain ⟨g1, g2⟩ := jmp_ok hv
        exact go_same X r N hk hn hL fun t g => XS.ifYes X.here hx rfl rfl hd rfl g0 g1 g2 g
      · rename_i g0
        obtain rfl := Option.some.inj h
        exact go_same X r N hk hn hL fun t g => XS.ifNo X.here hx rfl hd rfl (by simpa using g0) g
    · cases h
  | if_icmp cd o =>
    have hl : len = 3 := hl; subst hl
    dsimp only [stp] at h
    split at h
    · rename_i y x S'
      split at h
      · rename_i g0
        obtain ⟨v, hv, rfl⟩ := Option.map_eq_some_iff.mp h
        obtain ⟨g1, g2⟩ := jmp_ok hv
        exact go_same X r N hk hn hL fun t g => XS.icmpYes X.here hx rfl rfl hd rfl g0 g1 g2 g
      · rename_i g0
        obtain rfl := Option.some.inj h
        exact go_same X r N hk hn hL fun t g => XS.icmpNo X.here hx rfl hd rfl (by simpa using g0) g
    · cases h
  | tableswitch d lo hi os =>
    dsimp only [stp] at h
    split at h
    · rename_i x S'
      split at h
      · rename_i g0
        obtain ⟨v, hv, rfl⟩ := Option.map_eq_some_iff.mp h
        obtain ⟨g1, g2⟩ := jmp_ok hv
        exact go_same X r N hk hn hL fun t g => XS.tswOut X.here hx rfl rfl hd rfl g0 g1 g2 g
      · rename_i g0
        obtain ⟨o, ho1, h⟩ := Option.bind_eq_some_iff.mp h
        obtain ⟨v, hv, rfl⟩ := Option.map_eq_some_iff.mp h
        obtain ⟨g1, g2⟩ := jmp_ok hv
        exact go_same X r N hk hn hL fun t g => XS.tswIn X.here hx rfl rfl hd rfl g0 ho1 g1 g2 g
    · cases h
  | getfield i =>
    have hl : len = 3 := hl; subst hl
    dsimp only [stp] at h
    split at h
    · rename_i a S'
      split at h
      · rename_i g0
        obtain rfl := Option.some.inj h
        obtain ⟨T1, X1, e1, st1⟩ := getF X hx hZ hown (host := "") (Or.inl (hw _ ho.2)) Via.refl rfl ((r.obj g0).2 _ ho.1) (g := mkF mid pc L.toArray (.ref a :: S')) rfl rfl hd
        exact go_heap X1 r e1 N hk hn hL fun t g => st1 t g
      · cases h
    · cases h
  | putfield i =>
    have hl : len = 3 := hl; subst hl
    dsimp only [stp] at h
    split at h
    · rename_i v a S'
      split at h
      · rename_i g0
        obtain rfl := Option.some.inj h
        obtain ⟨o1, o2, o3⟩ := ho
        obtain ⟨w1, w2⟩ := isOw_ok g0.1
        obtain ⟨n1, n2⟩ := okv_ok g0.2
        have hlay : (Jvm.Cond.lays C C (fn aux.toNat).1 (fn aux.toNat).2).before a0 Z = true ∨ ((Jvm.Cond.laysFinal C C (fn aux.toNat).1 (fn aux.toNat).2).before a0 Z = true ∧ (nm m).cls = C ∧ meth.name = "<init>") := by
          rcases o3 with q | ⟨q1, q2⟩
          · exact Or.inl (hw _ q)
          · rcases (hG.2.2.1 _ o1).2 with q | q
            · exact Or.inl (hw _ q)
            · exact Or.inr ⟨hw _ q, q1, hnm.trans q2⟩
        obtain ⟨T1, h1, X1, e1, W1, st1⟩ := putF X hx hZ hown (host := "") (Or.inl (hw _ o2)) Via.refl rfl ((r.obj w1).2 _ o1) (r.obj w1).1 hlay (hw _ hG.1) (hG.2.2.1 _ o1).1 n1 n2 (g := mkF mid pc L.toArray (v :: .ref a :: S')) rfl rfl hd
        exact ⟨T1, _, X1, by rw [e1]; exact r.wrF hG hw w1 o1 W1, Fr.snoc X1 N (r.own w2), hk, hn, hL, st1⟩
      · cases h
    · cases h
  | iaload =>
    have hl : len = 1 := hl; subst hl
    dsimp only [stp] at h
    split at h
    · rename_i i a S'
      split at h
      · rename_i g0
        obtain rfl := Option.some.inj h
        obtain ⟨w1, w2, w3⟩ := inA_ok g0
        obtain ⟨b1, cl, b2, b3, b4⟩ := r.arr w1
        exact go_same X r N hk hn hL fun t g => X.iaload hx (g := mkF mid pc L.toArray (.int i :: .ref a :: S')) b2.1 (State.isArrayOf_alike hZ.alike b2.2.1) b2.2.2 (by rw [b3]; exact idx_not w2 w3) (b4 _ w3) rfl rfl hd t g
      · cases h
    · cases h
  | laload =>
    have hl : len = 1 := hl; subst hl
    dsimp only [stp] at h
    split at h
    · rename_i i a S'
      split at h
      · rename_i g0
        obtain rfl := Option.some.inj h
        obtain ⟨w1, w2, w3⟩ := inA_ok g0
        obtain ⟨b1, cl, b2, b3, b4⟩ := r.arr w1
        exact go_same X r N hk hn hL fun t g => X.laload hx (g := mkF mid pc L.toArray (.int i :: .ref a :: S')) b2.1 (State.isArrayOf_alike hZ.alike b2.2.1) b2.2.2 (by rw [b3]; exact idx_not w2 w3) (b4 _ w3) rfl rfl hd t g
      · cases h
    · cases h
  | baload =>
    have hl : len = 1 := hl; subst hl
    dsimp only [stp] at h
    split at h
    · rename_i i a S'
      split at h
      · rename_i g0
        obtain rfl := Option.some.inj h
        rcases g0 with g0 | g0
        · obtain ⟨w1, w2, w3⟩ := inA_ok g0
          obtain ⟨b1, cl, b2, b3, b4⟩ := r.arr w1
          exact go_same X r N hk hn hL fun t g => X.baloadBytes hx (g := mkF mid pc L.toArray (.int i :: .ref a :: S')) b2.1 (State.isArrayOf_alike hZ.alike b2.2.1) b2.2.2 (by rw [b3]; exact idx_not w2 w3) (b4 _ w3) rfl rfl hd t g
        · obtain ⟨w1, w2, w3⟩ := inA_ok g0
          obtain ⟨b1, cl, b2, b3, b4⟩ := r.arr w1
          exact go_same X r N hk hn hL fun t g => X.baloadBooleans hx (g := mkF mid pc L.toArray (.int i :: .ref a :: S')) b2.1 (State.isArrayOf_alike hZ.alike b2.2.1) b2.2.2 (by rw [b3]; exact idx_not w2 w3) (b4 _ w3) rfl rfl hd t g
      · cases h
    · cases h
  | iastore =>
    have hl : len = 1 := hl; subst hl
    dsimp only [stp] at h
    split at h
    · rename_i x i a S'
      split at h
      · rename_i g0
        obtain rfl := Option.some.inj h
        obtain ⟨g1, g2⟩ := inAw_ok g0
        obtain ⟨w1, w2, w3⟩ := inA_ok g1
        obtain ⟨b1, cl, b2, b3, b4⟩ := r.arr w1
        obtain ⟨T1, h1, X1, e1, W1, st1⟩ := stI X hx hZ rfl b2 (j := i) (x := x) (by rw [b3]; exact idx_not w2 w3) (g := mkF mid pc L.toArray (.int x :: .int i :: .ref a :: S')) rfl rfl hd
        exact ⟨T1, _, X1, by rw [e1]; exact r.wrA w1 w3 W1, Fr.snoc X1 N (r.own g2), hk, hn, hL, st1⟩
      · cases h
    · cases h
  | lastore =>
    have hl : len = 1 := hl; subst hl
    dsimp only [stp] at h
    split at h
    · rename_i x i a S'
      split at h
      · rename_i g0
        obtain rfl := Option.some.inj h
        obtain ⟨g1, g2⟩ := inAw_ok g0
        obtain ⟨w1, w2, w3⟩ := inA_ok g1
        obtain ⟨b1, cl, b2, b3, b4⟩ := r.arr w1
        obtain ⟨T1, h1, X1, e1, W1, st1⟩ := stJ X hx hZ rfl b2 (j := i) (x := x) (by rw [b3]; exact idx_not w2 w3) (g := mkF mid pc L.toArray (.long x :: .int i :: .ref a :: S')) rfl rfl hd
        exact ⟨T1, _, X1, by rw [e1]; exact r.wrA w1 w3 W1, Fr.snoc X1 N (r.own g2), hk, hn, hL, st1⟩
      · cases h
    · cases h
  | bastore =>
    have hl : len = 1 := hl; subst hl
    dsimp only [stp] at h
    split at h
    · rename_i x i a S'
      split at h
      · rename_i g0
        obtain rfl := Option.some.inj h
        rcases g0 with ⟨g0, gx⟩ | ⟨g0, gx⟩
        · obtain ⟨g1, g2⟩ := inAw_ok g0
          obtain ⟨w1, w2, w3⟩ := inA_ok g1
          obtain ⟨b1, cl, b2, b3, b4⟩ := r.arr w1
          have hx2 : nar .byte x = x := Value.int.inj (okv_ok gx).1
          obtain ⟨T1, h1, X1, e1, W1, st1⟩ := stB X hx hZ rfl b2 (j := i) (x := x) (by rw [b3]; exact idx_not w2 w3) (g := mkF mid pc L.toArray (.int x :: .int i :: .ref a :: S')) rfl rfl hd
          rw [hx2] at W1
          exact ⟨T1, _, X1, by rw [e1]; exact r.wrA w1 w3 W1, Fr.snoc X1 N (r.own g2), hk, hn, hL, st1⟩
        · obtain ⟨g1, g2⟩ := inAw_ok g0
          obtain ⟨w1, w2, w3⟩ := inA_ok g1
          obtain ⟨b1, cl, b2, b3, b4⟩ := r.arr w1
          have hx2 : nar .boolean x = x := Value.int.inj (okv_ok gx).1
          obtain ⟨T1, h1, X1, e1, W1, st1⟩ := stZ X hx hZ rfl b2 (j := i) (x := x) (by rw [b3]; exact idx_not w2 w3) (g := mkF mid pc L.toArray (.int x :: .int i :: .ref a :: S')) rfl rfl hd
          rw [hx2] at W1
          exact ⟨T1, _, X1, by rw [e1]; exact r.wrA w1 w3 W1, Fr.snoc X1 N (r.own g2), hk, hn, hL, st1⟩
      · cases h
    · cases h
  | arraylength =>
    have hl : len = 1 := hl; subst hl
    dsimp only [stp] at h
    split at h
    · rename_i a S'
      split at h
      · rename_i g0
        obtain rfl := Option.some.inj h
        obtain ⟨t0, w1⟩ : ∃ t0, (H.2 a).1 = .array t0 := by unfold isA at g0; cases hq : (H.2 a).1 <;> rw [hq] at g0 <;> first | (cases g0; done) | exact ⟨_, rfl⟩
        obtain ⟨b1, cl, b2, b3, b4⟩ := r.arr w1
        refine go_same X r N hk hn hL fun t g => X.arraylength hx (g := mkF mid pc L.toArray (.ref a :: S')) b2.1 (State.isArrayOf_alike hZ.alike b2.2.1) rfl rfl hd t ?_
        rw [b3]; exact g
      · cases h
    · cases h
  | newarray t =>
    have hl : len = 2 := hl; subst hl
    dsimp only [stp] at h
    split at h
    · rename_i cnt S'
      split at h
      · rename_i g0
        obtain rfl := Option.some.inj h
        obtain ⟨z1, z2, z3, z4⟩ := g0
        have hcb : componentBytes (newarray.typeOf t) ≤ 8 := by cases t <;> decide
        obtain ⟨cA, kA, comp, h1, h2, h3, X1, st1⟩ := X.newarrayPrim hx (mvA hZ (hw _ ho)) (g := mkF mid pc L.toArray (.int cnt :: S')) rfl hd rfl z1 (Nat.le_trans (Nat.mul_le_mul_left _ hcb) z2) z3 z4
        refine ⟨_, locs, X1, ?_, N, z3, z4, hL, fun t g => st1 t (by rw [r.1]; exact g)⟩
        exact r.ext (ext_push _ _) (by show (T.heap.push _).size = _; simp) ⟨fun _ => by rw [r.1]; exact r.2.1, (back32 z1).2, _, made_arr hZ h1 h2 h3, by simp, fun i hi => by simp [hi]⟩
      · cases h
    · cases h
  | new i =>
    have hl : len = 3 := hl; subst hl
    dsimp only [stp] at h
    split at h
    · rename_i g0
      obtain rfl := Option.some.inj h
      obtain ⟨z1, z2, z3⟩ := g0
      rw [ho.1] at z3 ⊢
      obtain ⟨vm1, cC, kC, h1, h2, h3, h4, X1, st1⟩ := X.newCold hx hown (mv hZ (hw _ ho.2)) (mv hZ (hw _ hG.1)) (mv hZ (hw _ hG.2.1)) (g := mkF mid pc L.toArray S) rfl hd z2 z3
      obtain ⟨A1, D1⟩ := made_obj (h := T.heap) (a0 := a0) hZ h1 h2
      refine ⟨_, locs, X1, ?_, N, z2, z3, hL, fun t g => st1 t (by rw [r.1]; exact g)⟩
      exact r.ext (ext_push _ _) (by show (T.heap.push _).size = _; simp) ⟨fun _ => by rw [r.1]; exact r.2.1, A1, fun j hj => D1 (((hG.2.2.1 j hj).2).imp (hw _) (hw _)) (hG.2.2.1 j hj).1⟩
    · cases h
  | invokespecial i =>
    have hl : len = 3 := hl; subst hl
    dsimp only [stp] at h
    split at h
    · rename_i a S'
      split at h
      · rename_i g0
        obtain rfl := Option.some.inj h
        obtain ⟨rfl, z2, z3⟩ := g0
        obtain ⟨o1, o2, o3⟩ := ho.1 rfl
        obtain ⟨T1, X1, e1, st1⟩ := initO X hx hZ hown (hw _ o1) (hw _ o2) (hw _ o3) rfl (g := mkF mid pc L.toArray (.ref a :: S')) rfl (by rw [hml, ← hL]; simp) rfl hd z2 (W := cs S') (by show 2 * 0 + _ ≤ _; exact Nat.le_of_eq (Nat.zero_add _)) z3
        exact go_heap X1 r e1 N hk hn hL fun t g => st1 t g
      · cases h
    · cases h
  | _ => exact absurd (show (none : Option Fm) = some q from h) (by simp)
end Step
end Jvm.JX

namespace Jvm.JX
open Sem ClassFile Op Lib Jvm.Stand Jvm.Free Jvm.LawKit Jvm.RoadKit
section Sound
variable {P : Prog} {tb : List Jvm.Cond} {C : String} {fn : Nat → String × String} {F : List Nat} {nsl : Nat} {nm : Nat → MethodName} {bt : Nat → ByteArray} {R : List Nat} {top : Nat}
variable {l : Launch} {Z : State} {a0 : Array Value} {n0 : Nat}
def Endd (C : String) (fn : Nat → String × String) (F : List Nat) (Z : State) (n0 : Nat) (p : Program) (l : Launch) (e : Env) (Rm : Jvm.Room) (s : State) (mid : MethodId) (args : Array Value) (below : List Frame) (meth : Method) (c : Code) (rt0 : Option FieldType) (start : State) (v : Option Value) (H' : AH) : Prop :=
  ∃ T' locs' k' n', Stand p l e Rm s mid args below meth c T' locs' k' n' ∧ RelH C fn F Z n0 T'.heap H' ∧ Fr n0 locs' ∧ k' ≤ Rm.cells ∧ n' ≤ Rm.slots ∧ (rt0 = none → v = none) ∧
    ∀ fs, (∀ (f : JFrame) (acts : List Action), f.method = mid → f.locked = none → f.entered = [] → (doReturn e (T'.setTop f) acts v).1 = T'.setFrames fs) → Steps p.tables e below start (T'.setFrames fs)
def Says (P : Prog) (C : String) (fn : Nat → String × String) (F : List Nat) (nm : Nat → MethodName) (bt : Nat → ByteArray) (l : Launch) (Z : State) (n0 m pc : Nat) (L : List Slot) (S : List Value) (k n : Nat) (H : AH) (v : Option Value) (H' : AH) : Prop :=
  ∀ (p : Program) (e : Env) (s : State) (mid : MethodId) (args : Array Value) (below : List Frame) (meth : Method) (c : Code) (T : State) (locs : List Loc), Stand p l e (rm P m) s mid args below meth c T locs k n → p.tables.exec = Jvm.exec → Z.Warmed39 s.vm → c.code = bt m → c.maxLocals = ml P m →
    s.vm.findClass (nm m).cls = some mid.cls → meth.name = (nm m).name → meth.sig.returnType = rt P m → L.length = ml P m → RelH C fn F Z n0 T.heap H → Fr n0 locs → k ≤ (rm P m).cells → n ≤ (rm P m).slots →
    Endd C fn F Z n0 p l e (rm P m) s mid args below meth c (rt P m) (T.setTop (mkF mid pc L.toArray S)) v H'
theorem Endd.back {p : Program} {e : Env} {Rm : Jvm.Room} {s : State} {mid : MethodId} {args : Array Value} {below : List Frame} {meth : Method} {c : Code} {rt0 : Option FieldType} {start start' : State} {v : Option Value} {H' : AH}
    (h : Endd C fn F Z n0 p l e Rm s mid args below meth c rt0 start' v H') (st : ∀ t, Steps p.tables e below start' t → Steps p.tables e below start t) : Endd C fn F Z n0 p l e Rm s mid args below meth c rt0 start v H' := by
  obtain ⟨T', locs', k', n', h1, h2, h3, h4, h5, h6, h7⟩ := h
  exact ⟨T', locs', k', n', h1, h2, h3, h4, h5, h6, fun fs g => st _ (h7 fs g)⟩
theorem met_of {m : Nat} {as : List Value} {H H' : AH} {v : Option Value} {h : Heap} (ws : List Jvm.Cond) (hp : plainName (nm m).cls = true) (hl : (Sym.laidSlots as).length ≤ ml P m) (r : RelH C fn F Z n0 h H)
    (hS : Says P C fn F nm bt l Z n0 m 0 (ent P m as) [] 0 0 H v H') :
    MetFree l (nm m) (head1 (Jvm.Cond.code (nm m) (bt m) (ml P m) (rt P m) :: ws) (rm P m)) (fun a U => a = as.toArray ∧ Z.Warmed39 U.vm ∧ U.heap = h) (fun _ _ _ _ _ => True)
      (fun _ U o U' => ∃ v' L, o = .returned v' ∧ (v' = v ∧ Fr n0 L ∧ RelH C fn F Z n0 U'.heap H') ∧ FrameEnd U o U' L (rm P m).cells (rm P m).slots) := by
  refine MetFree.of_bodySF (plainFor_of_name hp) hisR ?_
  intro p e s mid args below meth c s₁ Bd hml0 hP hK
  obtain ⟨rfl, hZ, hh⟩ := hP
  have X0 : Stand p l e (rm P m) s mid as.toArray below meth c s₁ [] 0 0 := Stand.of_body Bd
  have e0 : s₁.heap = h := by rw [← hh, Bd.state]; rfl
  have hle : (ent P m as).length = ml P m := by simp [ent]; omega
  obtain ⟨T', locs', k', n', X1, r1, N1, hk1, hn1, hv1, st1⟩ := hS p e s mid as.toArray below meth c s₁ [] X0 Bd.exec hZ Bd.bytes hml0 (findClass_of_methodNamed Bd.named) (name_of_methodNamed Bd.named Bd.method).1 Bd.returns hle (by rw [e0]; exact r) (Fr.nil n0) (Nat.zero_le _) (Nat.zero_le _)
  obtain ⟨fs, hr, hrun, hended, hW, hsame⟩ := X1.leave (v := v) (fun q => hv1 (Bd.returns.symm.trans q))
  refine ⟨_, _, (Jvm.Free.XT.entry (Ls := (ent P m as).toArray) (by simp [ent])).trans (st1 fs hr), hrun, hended, v, locs', rfl, ⟨rfl, N1, r1⟩, ⟨_, rfl⟩, hW, hsame.mono hk1 hn1⟩
theorem ret_ok {m : Nat} {ins : Instr} {S : List Value} {v : Option Value} (h : ret P m ins S = some v) : (rt P m = none ∧ v = none ∧ ins = .return_ ∧ S = []) ∨ ∃ t w rest, rt P m = some t ∧ v = some w ∧ S = w :: rest ∧ narrow t w = w ∧
    ((ins = .ireturn ∧ (t = .int ∨ t = .boolean ∨ t = .byte ∨ t = .char ∨ t = .short) ∧ ∃ z, w = .int z) ∨ (ins = .lreturn ∧ t = .long ∧ ∃ z, w = .long z)) := by
  unfold ret at h
  split at h
  · split at h
    · rename_i g; cases h; exact Or.inl ⟨g.1, rfl, rfl, g.2⟩
    · cases h
  · split at h
    · rename_i z rest g; cases h; exact Or.inr ⟨.int, _, rest, g, rfl, rfl, rfl, Or.inl ⟨rfl, Or.inl rfl, z, rfl⟩⟩
    · rename_i z rest g
      split at h
      · rename_i g0
        cases h
        refine Or.inr ⟨.boolean, _, rest, g, rfl, rfl, ?_, Or.inl ⟨rfl, Or.inr (Or.inl rfl), z, rfl⟩⟩
        rcases g0 with rfl | rfl <;> rfl
      · cases h
    · cases h
  · split at h
    · rename_i z rest g; cases h; exact Or.inr ⟨.long, _, rest, g, rfl, rfl, rfl, Or.inr ⟨rfl, rfl, z, rfl⟩⟩
    · cases h
  · cases h
theorem cal_ok {m m' k n : Nat} {ins : Instr} {aux : Int} {S a r : List Value} {H : AH} (h : cal P m ins aux S k n H = some (m', a, r)) : aux = (m' : Int) ∧ kindOk ins (kd P m') = true ∧ may P m m' a r k n H = true ∧ S = a.reverse ++ r := by
  have h1 : cal1 P m ins aux S k n H = some (m', a, r) := by
    unfold cal at h
    split at h <;> first | exact h | (cases h)
  unfold cal1 at h1
  split at h1
  · rename_i g
    cases h1
    exact ⟨by omega, g.2.1, g.2.2, by rw [List.reverse_reverse]; exact (List.take_append_drop ..).symm⟩
  · cases h1
end Sound
end Jvm.JX

namespace Jvm.JX
open Sem ClassFile Op Lib Jvm.Stand Jvm.Free Jvm.LawKit Jvm.RoadKit
section Sound
variable {P : Prog} {tb : List Jvm.Cond} {C : String} {fn : Nat → String × String} {F : List Nat} {nsl : Nat} {nm : Nat → MethodName} {bt : Nat → ByteArray} {R : List Nat} {top : Nat}
variable {l : Launch} {Z : State} {a0 : Array Value} {n0 : Nat}
theorem may_ok {m m' k n : Nat} {a r : List Value} {H : AH} (h : may P m m' a r k n H = true) : (Sym.laidSlots a).length ≤ ml P m' ∧ a.length = na P m' ∧ (rm P m').frames + 1 ≤ (rm P m).frames ∧ cs r + (ml P m' + 11) + (rm P m').locals ≤ (rm P m).locals ∧
    (((rm P m').cells = 0 ∧ (rm P m').slots = 0) ∨ (k + (rm P m').cells ≤ (rm P m).cells ∧ n + (rm P m').slots ≤ (rm P m).slots)) ∧ (kd P m' = 0 ∨ rcv H a = true) := by
  simpa [may, and_assoc] using h
theorem rcv_ok {H : AH} {a : List Value} (h : rcv H a = true) : ∃ b as, a = .ref b :: as ∧ isO H b = true := by
  unfold rcv at h
  split at h
  · exact ⟨_, _, rfl, h⟩
  · cases h
set_option maxHeartbeats 1000000 in
theorem call_go {m pc len k n m' : Nat} {aux : Int} {L : List Slot} {S a r : List Value} {H H1 : AH} {ins : Instr} {v1 : Option Value} {p : Program} {e : Env} {s : State} {mid : MethodId} {args : Array Value} {below : List Frame} {meth : Method} {c : Code} {T : State} {locs : List Loc}
    (hG : Good P tb C fn F nsl nm bt R top) (hw : ∀ d ∈ tb, d.before a0 Z = true) (hm : m ∈ R) (hrow : P.1 m pc = some (ins, len, aux)) (hc : cal P m ins aux S k n H = some (m', a, r)) (hS : m' ∈ R → Says P C fn F nm bt l Z n0 m' 0 (ent P m' a) [] 0 0 H v1 H1)
    (X : Stand p l e (rm P m) s mid args below meth c T locs k n) (hx : p.tables.exec = Jvm.exec) (hZ : Z.Warmed39 s.vm)
    (hby : c.code = bt m) (hml : c.maxLocals = ml P m) (hown : s.vm.findClass (nm m).cls = some mid.cls) (hL : L.length = ml P m) (rr : RelH C fn F Z n0 T.heap H) (N : Fr n0 locs) (hk : k ≤ (rm P m).cells) (hn : n ≤ (rm P m).slots) :
    Go C fn F Z n0 p l e (rm P m) s mid args below meth c (T.setTop (mkF mid pc L.toArray S)) (ml P m) (pc + len, L, v1.toList ++ r, k + (rm P m').cells, n + (rm P m').slots, H1) := by
  obtain ⟨hd, hl, ho⟩ := (hG.2.2.2.2.1 m hm).2.2 pc ins len aux hrow
  replace hd := hb hby hd
  obtain ⟨e1, e2, e3, e4⟩ := cal_ok hc
  obtain ⟨y1, y2, y3, y4, y5, y6⟩ := may_ok e3
  have hnt : m' ≠ top := fun q => by
    have := hG.2.2.2.2.2.2 m hm pc ins len aux hrow (by rw [e1, q])
    rw [q, this] at e2; cases e2
  have y5' : k + (rm P m').cells ≤ (rm P m).cells ∧ n + (rm P m').slots ≤ (rm P m).slots := by rcases y5 with ⟨q1, q2⟩ | q <;> omega
  have hsize : (mkF mid pc L.toArray S).locals.size = c.maxLocals := by rw [hml, ← hL]; simp
  have hcs : 2 * (mkF mid pc L.toArray S).monitorRoom + (r.map fun v => v.category).sum ≤ cs r := by show 2 * 0 + _ ≤ _; exact Nat.le_of_eq (Nat.zero_add _)
  subst e1
  cases ins with
  | invokevirtual ix =>
    have hl : len = 3 := hl
    subst hl
    obtain ⟨mR, lnk⟩ := ho
    rw [Int.toNat_natCast] at mR lnk
    obtain ⟨c1, c2, ⟨ps, rr0, c3, c4⟩, c5, c6, c7, c8, c9⟩ := hG.2.2.2.2.2.1 m' mR hnt
    have hk0 : kd P m' ≠ 0 := fun q => by rw [q] at e2; cases e2
    obtain ⟨hcls, hinst⟩ := c6 hk0
    obtain ⟨b, as, rfl, hb⟩ := rcv_ok (y6.resolve_left hk0)
    obtain ⟨Eb, -⟩ := rr.obj hb
    have hlen : as.length = ps.length := by rw [if_neg hk0] at c4; simp only [List.length_cons] at y2; omega
    have eS : S = as.reverse ++ .ref b :: r := by rw [e4]; simp
    subst eS
    obtain ⟨pn, hy, -⟩ := hG.2.2.2.2.1 m' mR
    have BK := backOf (Q := fun v' h' L' => v' = v1 ∧ Fr n0 L' ∧ RelH C fn F Z n0 h' H1) (R := rm P m) (W := cs r) (p := p) (e := e) (below := below) (s := s) (args := args) (len := 3) (met_of [] pn y1 rr (hS mR)) hZ (hw _ c1) (hw _ c2) y3 y4
    have hkk : kd P m' = 1 ∨ kd P m' = 2 := by simpa [kindOk] using e2
    rcases hkk with hkk | hkk
    · obtain ⟨d1, d2⟩ := c7 hkk
      obtain ⟨cB, kB, q1, q2, q3⟩ := isOf (T := T) hZ rfl Eb
      obtain ⟨v, vm1, ⟨T1, L1, k1, n1⟩, -, X1, ⟨Lc, hQ, l1, z1, z2⟩, st⟩ := X.virtualBack hx (y := nm m') (z := nm m') hown (mvT hZ (hw _ lnk)) (mvT hZ (hw _ d1)) (notFace_of_selects (args := #[]) (mvT hZ (hw _ d2))) (mvT hZ (hw _ d2)) (mvT hZ (hw _ hinst)) hy BK q1 q3 (g := mkF mid pc L.toArray (as.reverse ++ .ref b :: r)) rfl hsize (Steps.refl _) (argsL := as) (rest := r) (lenOf c3 hlen) rfl hcs hd (fun _ _ => ⟨rfl, rfl, y5'.1, y5'.2⟩)
      dsimp only [Pt.U, Pt.locs, Pt.cells, Pt.slots] at X1 l1 z1 z2 st hQ
      subst l1 z1 z2
      obtain ⟨rfl, N1, r1⟩ := hQ
      exact ⟨T1, _, X1, r1, Fr.app N N1, y5'.1, y5'.2, hL, fun t g => st.trans g⟩
    · obtain ⟨ci, ki, i1, i2, i3, i4, -⟩ := Cond.instantiable_spec (show (Jvm.Cond.instantiable C nsl).before args s = true from mv hZ (hw _ hG.1))
      have hni : ki.isInterface = false := (Bool.or_eq_false_iff.mp i4).1
      have hpriv := Cond.privateMethod_at (mvP hZ (hw _ (c8 hkk)) (args := #[]))
      have hsel : (Jvm.Cond.selects (nm m').cls (nm m') (nm m')).before args s = true := selects_self_of_private (by rw [hcls]; exact i1) i2 hni hpriv (mvT hZ (hw _ hinst)) hy
      obtain ⟨cl, hcl, hcl'⟩ := Eb.cell
      obtain ⟨v, vm1, ⟨T1, L1, k1, n1⟩, -, X1, ⟨Lc, hQ, l1, z1, z2⟩, st⟩ := X.privateBack hx (y := nm m') hown (mvT hZ (hw _ lnk)) (mvT hZ (hw _ hinst)) hsel hpriv (mvT hZ (hw _ c1)) hy BK (g := mkF mid pc L.toArray (as.reverse ++ .ref b :: r)) rfl hsize (Steps.refl _) (a := b) hcl hcl' (argsL := as) (rest := r) (lenOf c3 hlen) rfl hcs hd (fun _ _ => ⟨rfl, rfl, y5'.1, y5'.2⟩)
      dsimp only [Pt.U, Pt.locs, Pt.cells, Pt.slots] at X1 l1 z1 z2 st hQ
      subst l1 z1 z2
      obtain ⟨rfl, N1, r1⟩ := hQ
      exact ⟨T1, _, X1, r1, Fr.app N N1, y5'.1, y5'.2, hL, fun t g => st.trans g⟩
  | invokestatic ix =>
    have hl : len = 3 := hl
    subst hl
    obtain ⟨mR, lnk⟩ := ho
    rw [Int.toNat_natCast] at mR lnk
    obtain ⟨c1, c2, ⟨ps, rr0, c3, c4⟩, c5, c6, c7, c8, c9⟩ := hG.2.2.2.2.2.1 m' mR hnt
    have hk0 : kd P m' = 0 := by simpa [kindOk] using e2
    have hlen : a.length = ps.length := by rw [if_pos hk0] at c4; omega
    subst e4
    obtain ⟨pn, hy, -⟩ := hG.2.2.2.2.1 m' mR
    have BK := backOf (Q := fun v' h' L' => v' = v1 ∧ Fr n0 L' ∧ RelH C fn F Z n0 h' H1) (R := rm P m) (W := cs r) (p := p) (e := e) (below := below) (s := s) (args := args) (len := 3) (met_of [] pn y1 rr (hS mR)) hZ (hw _ c1) (hw _ c2) y3 y4
    obtain ⟨v, vm1, ⟨T1, L1, k1, n1⟩, -, X1, ⟨Lc, hQ, l1, z1, z2⟩, st⟩ := Jvm.LawKit.callS X hx (y := nm m') hown (mvT hZ (hw _ lnk)) (mvT hZ (hw _ (c5 hk0))) (mvT hZ (hw _ c2)) (mvT hZ (hw _ c1)) hy BK (g := mkF mid pc L.toArray (a.reverse ++ r)) rfl hsize (argsL := a) (rest := r) (lenOf c3 hlen) rfl hcs hd (fun _ _ => ⟨rfl, rfl, y5'.1, y5'.2⟩)
    dsimp only [Pt.U, Pt.locs, Pt.cells, Pt.slots] at X1 l1 z1 z2 st hQ
    subst l1 z1 z2
    obtain ⟨rfl, N1, r1⟩ := hQ
    exact ⟨T1, _, X1, r1, Fr.app N N1, y5'.1, y5'.2, hL, fun t g => st t g⟩
  | invokespecial ix =>
    have hl : len = 3 := hl
    subst hl
    obtain ⟨mR, lnk⟩ := ho.2 (by omega)
    rw [Int.toNat_natCast] at mR lnk
    obtain ⟨c1, c2, ⟨ps, rr0, c3, c4⟩, c5, c6, c7, c8, c9⟩ := hG.2.2.2.2.2.1 m' mR hnt
    have hk3 : kd P m' = 3 := by simpa [kindOk] using e2
    have hk0 : kd P m' ≠ 0 := by omega
    obtain ⟨hcls, hinst⟩ := c6 hk0
    obtain ⟨hn3, hr3⟩ := c9 hk3
    obtain ⟨b, as, rfl, hb⟩ := rcv_ok (y6.resolve_left hk0)
    have hlen : as.length = ps.length := by rw [if_neg hk0] at c4; simp only [List.length_cons] at y2; omega
    have eS : S = as.reverse ++ .ref b :: r := by rw [e4]; simp
    subst eS
    obtain ⟨pn, hy, -⟩ := hG.2.2.2.2.1 m' mR
    have BK := backOf (Q := fun v' h' L' => v' = v1 ∧ Fr n0 L' ∧ RelH C fn F Z n0 h' H1) (R := rm P m) (W := cs r) (p := p) (e := e) (below := below) (s := s) (args := args) (len := 3) (met_of [] pn y1 rr (hS mR)) hZ (hw _ c1) (hw _ c2) y3 y4
    rw [hr3] at c1
    obtain ⟨v, vm1, ⟨T1, L1, k1, n1⟩, -, X1, ⟨Lc, hQ, l1, z1, z2⟩, st⟩ := X.specialBack hx (y := nm m') hn3 hown (mvT hZ (hw _ lnk)) (mvT hZ (hw _ hinst)) (mvT hZ (hw _ c1)) hy BK (g := mkF mid pc L.toArray (as.reverse ++ .ref b :: r)) rfl hsize (Steps.refl _) (a := b) (argsL := as) (rest := r) (lenOf c3 hlen) rfl hcs hd (fun _ _ => ⟨rfl, rfl, y5'.1, y5'.2⟩)
    dsimp only [Pt.U, Pt.locs, Pt.cells, Pt.slots] at X1 l1 z1 z2 st hQ
    subst l1 z1 z2
    obtain ⟨rfl, N1, r1⟩ := hQ
    exact ⟨T1, _, X1, r1, Fr.app N N1, y5'.1, y5'.2, hL, fun t g => st.trans g⟩
  | _ => cases e2
theorem sound (hG : Good P tb C fn F nsl nm bt R top) (hw : ∀ d ∈ tb, d.before a0 Z = true) : ∀ (f m : Nat), m ∈ R → ∀ (pc : Nat) (L : List Slot) (S : List Value) (k n : Nat) (H : AH) (v : Option Value) (H' : AH), run P f m pc L S k n H = some (v, H') → Says P C fn F nm bt l Z n0 m pc L S k n H v H' := by
  intro f
  induction f with
  | zero => intro m _ pc L S k n H v H' h; cases h
  | succ f ih =>
    intro m hm pc L S k n H v H' h p e s mid args below meth c T locs X hx hZ hby hml hown hnm hret hL r N hk hn
    rw [run_succ] at h
    cases hd : P.1 m pc with
    | none => rw [hd] at h; cases h
    | some d =>
      obtain ⟨ins, len, aux⟩ := d
      rw [hd] at h
      simp only at h
      cases hr : ret P m ins S with
      | some v1 =>
        rw [hr] at h
        cases h
        obtain ⟨hdec, hl, -⟩ := (hG.2.2.2.2.1 m hm).2.2 pc ins len aux hd
        replace hdec := hb hby hdec
        rcases ret_ok hr with ⟨q1, rfl, rfl, q0⟩ | ⟨t, w, rest, q1, rfl, rfl, q4, q5⟩
        · have hl : len = 1 := hl
          subst hl
          exact ⟨T, locs, k, n, X, r, N, hk, hn, fun _ => rfl, fun fs g => by subst q0; exact X.returnOut hx (hret.trans q1) hdec g⟩
        · refine ⟨T, locs, k, n, X, r, N, hk, hn, fun q => absurd (q1.symm.trans q) (by simp), fun fs g => ?_⟩
          have hl1 : len = 1 := by
            rcases q5 with ⟨rfl, -⟩ | ⟨rfl, -⟩ <;> exact hl
          subst hl1
          exact retOut X hx (hret.trans q1) q4 (q5.elim (fun u => Or.inl u) (fun u => Or.inr (Or.inl u))) hdec g
      | none =>
        rw [hr] at h
        simp only at h
        cases hc : cal P m ins aux S k n H with
        | some cc =>
          obtain ⟨m', a, rs⟩ := cc
          rw [hc] at h
          simp only at h
          cases hq : run P f m' 0 (ent P m' a) [] 0 0 H with
          | none => rw [hq] at h; cases h
          | some q =>
            obtain ⟨v1, H1⟩ := q
            rw [hq] at h
            obtain ⟨T1, locs1, X1, r1, N1, hk1, hn1, hL1, st⟩ := call_go hG hw hm hd hc (fun mR => ih m' mR _ _ _ _ _ _ _ _ hq) X hx hZ hby hml hown hL r N hk hn
            exact (ih m hm _ _ _ _ _ _ _ _ h p e s mid args below meth c T1 locs1 X1 hx hZ hby hml hown hnm hret hL1 r1 N1 hk1 hn1).back st
        | none =>
          rw [hc] at h
          simp only at h
          cases hs : stp P m ins len aux pc L S k n H with
          | none => rw [hs] at h; cases h
          | some q =>
            rw [hs] at h
            obtain ⟨T1, locs1, X1, r1, N1, hk1, hn1, hL1, st⟩ := stp_go hG hw hm hd hs X hx hZ hby hml hown hnm hL r N hk hn
            exact (ih m hm _ _ _ _ _ _ _ _ h p e s mid args below meth c T1 locs1 X1 hx hZ hby hml hown hnm hret hL1 r1 N1 hk1 hn1).back st
theorem law_met (hG : Good P tb C fn F nsl nm bt R top) (hw : ∀ d ∈ tb, d.before a0 Z = true) {as : List Value} {H : AH} {h : Heap} {Q : Option Value → AH → Prop} (ws : List Jvm.Cond) (ht : top ∈ R) (hl : (Sym.laidSlots as).length ≤ ml P top) (r : RelH C fn F Z n0 h H) (hC : Cl P top as H Q) :
    MetFree l (nm top) (head1 (Jvm.Cond.code (nm top) (bt top) (ml P top) (rt P top) :: ws) (rm P top)) (fun a U => a = as.toArray ∧ Z.Warmed39 U.vm ∧ U.heap = h) (fun _ _ _ _ _ => True)
      (fun _ U o U' => ∃ v' L, o = .returned v' ∧ (Fr n0 L ∧ ∃ H', Q v' H') ∧ FrameEnd U o U' L (rm P top).cells (rm P top).slots) := by
  obtain ⟨f, v, H', h1, h2⟩ := hC
  have hM := met_of (l := l) (h := h) ws (hG.2.2.2.2.1 top ht).1 hl r (sound hG hw f top ht _ _ _ _ _ _ _ _ h1)
  intro p e ha hc hk s m args below hf happ hP hK
  obtain ⟨n, o, q1, q2, q3, v', L, q4, ⟨q5, q6, q7⟩, q8⟩ := hM p e ha hc hk s m args below hf happ hP hK
  exact ⟨n, o, q1, q2, q3, v', L, q4, ⟨q6, H', by rw [q5]; exact h2⟩, q8⟩
end Sound
end Jvm.JX
namespace Jvm.JX
open Sem ClassFile Op Lib Jvm.Stand Jvm.Free Jvm.LawKit Jvm.RoadKit
theorem fa0 {α : Type} {p : α → Prop} : ∀ x ∈ ([] : List α), p x := fun _ q => nomatch q
theorem faS {α : Type} {p : α → Prop} {y : α} {L : List α} (q : p y) (r : ∀ x ∈ L, p x) : ∀ x ∈ y :: L, p x := fun x z => (List.mem_cons.mp z).elim (fun u => u ▸ q) (r x)
def rowChk (FL ML : List (Nat × Nat × Nat)) (KI KJ : List (Nat × Nat × Int)) (AT : List FieldType) (WF : List Nat) (nsl nw : Nat) (own : Nat) (ini : Bool) (ins : Instr) (aux : Int) : Bool :=
  match ins with
  | .getfield i => FL.contains (own, i, aux.toNat)
  | .putfield i => FL.contains (own, i, aux.toNat) && (WF.contains aux.toNat || ini)
  | .new i => decide (aux.toNat = nsl) && decide (own = 1) && decide (i = nw)
  | .newarray t => decide (newarray.typeOf t ∈ AT)
  | .ldc i => KI.contains (own, i, aux)
  | .ldc2_w i => KJ.contains (own, i, aux)
  | .invokevirtual i => ML.contains (own, i, aux.toNat)
  | .invokestatic i => ML.contains (own, i, aux.toNat)
  | .invokespecial i => if aux = -1 then decide (own = 0) && decide (i = 1) else ML.contains (own, i, aux.toNat)
  | _ => true
def rowOne (FL ML : List (Nat × Nat × Nat)) (KI KJ : List (Nat × Nat × Int)) (AT : List FieldType) (WF : List Nat) (nsl nw : Nat) (bt : Nat → ByteArray) (own : Nat → Nat) (ini : Nat → Bool) (m : Nat) (r : Row) : Bool :=
  decide (decode (bt m) r.1 = .ok (r.2.1, r.2.2.1)) && decide (r.2.2.1 = ilen2 r.2.1 r.2.2.1) && rowChk FL ML KI KJ AT WF nsl nw (own m) (ini m) r.2.1 r.2.2.2
theorem lookup_mem {L : List Row} {pc : Nat} {d : Instr × Nat × Int} (h : L.lookup pc = some d) : (pc, d) ∈ L := by
  induction L with
  | nil => cases h
  | cons x L ih =>
    obtain ⟨k, v⟩ := x
    rw [List.lookup_cons] at h
    by_cases e : pc = k
    · subst e; simp at h; subst h; exact List.mem_cons_self ..
    · have : (pc == k) = false := by simpa using e
      rw [this] at h; exact List.mem_cons_of_mem _ (ih h)
theorem row_ok {P : Prog} {tb : List Jvm.Cond} {C : String} {fn : Nat → String × String} {F : List Nat} {nsl nw : Nat} {nm : Nat → MethodName} {R : List Nat} {cn : Nat → String} {own : Nat → Nat} {ini : Nat → Bool}
    {FL ML : List (Nat × Nat × Nat)} {KI KJ : List (Nat × Nat × Int)} {AT : List FieldType} {WF : List Nat} {m : Nat} {ins : Instr} {aux : Int}
    (hown : (nm m).cls = cn (own m)) (hini : ini m = true → (nm m).cls = C ∧ (nm m).name = "<init>")
    (hFL : ∀ t ∈ FL, t.2.2 ∈ F ∧ Jvm.Cond.fieldLink (cn t.1) t.2.1 C (fn t.2.2).1 (fn t.2.2).2 ∈ tb) (hWF : ∀ k ∈ WF, Jvm.Cond.lays C C (fn k).1 (fn k).2 ∈ tb)
    (hML : ∀ t ∈ ML, t.2.2 ∈ R ∧ Jvm.Cond.methodLink (cn t.1) t.2.1 (nm t.2.2) ∈ tb) (hKI : ∀ t ∈ KI, Jvm.Cond.constant (cn t.1) t.2.1 (Int32.ofInt t.2.2) ∈ tb) (hKJ : ∀ t ∈ KJ, Jvm.Cond.constantLong (cn t.1) t.2.1 (Int64.ofInt t.2.2) ∈ tb)
    (hAT : ∀ t ∈ AT, Jvm.Cond.arrayClass t ∈ tb) (hN : Jvm.Cond.classLink (cn 1) nw C ∈ tb)
    (hO : Jvm.Cond.methodLink (cn 0) 1 Lib.objectInit ∈ tb ∧ Jvm.Cond.instanceMethod Lib.objectInit ∈ tb ∧ Jvm.Cond.code Lib.objectInit ⟨#[0xb1]⟩ 1 none ∈ tb)
    (h : rowChk FL ML KI KJ AT WF nsl nw (own m) (ini m) ins aux = true) : RowOk P tb C fn F nsl nm R m ins aux := by
  cases ins <;> first | trivial | skip
  case getfield i => have q := hFL _ (List.contains_iff_mem.mp h); exact ⟨q.1, by rw [hown]; exact q.2⟩
  case putfield i =>
    simp only [rowChk, Bool.and_eq_true, Bool.or_eq_true] at h
    have q := hFL _ (List.contains_iff_mem.mp h.1)
    exact ⟨q.1, by rw [hown]; exact q.2, h.2.imp (fun u => hWF _ (List.contains_iff_mem.mp u)) hini⟩
  case new i =>
    simp only [rowChk, Bool.and_eq_true, decide_eq_true_eq] at h
    obtain ⟨⟨h1, h2⟩, h3⟩ := h
    exact ⟨h1, by rw [hown, h2, h3]; exact hN⟩
  case newarray t => exact hAT _ (of_decide_eq_true h)
  case ldc i => have q := hKI _ (List.contains_iff_mem.mp h); show _ ∈ tb; rw [hown]; exact q
  case ldc2_w i => have q := hKJ _ (List.contains_iff_mem.mp h); show _ ∈ tb; rw [hown]; exact q
  case invokevirtual i => have q := hML _ (List.contains_iff_mem.mp h); exact ⟨q.1, by rw [hown]; exact q.2⟩
  case invokestatic i => have q := hML _ (List.contains_iff_mem.mp h); exact ⟨q.1, by rw [hown]; exact q.2⟩
  case invokespecial i =>
    simp only [rowChk] at h
    refine ⟨fun e => ?_, fun e => ?_⟩
    · rw [if_pos e] at h
      simp only [Bool.and_eq_true, decide_eq_true_eq] at h
      rw [hown, h.1, h.2]; exact hO
    · rw [if_neg (by omega)] at h
      have q := hML _ (List.contains_iff_mem.mp h)
      exact ⟨q.1, by rw [hown]; exact q.2⟩
theorem rel_H0 {C : String} {fn : Nat → String × String} {F : List Nat} {Z : State} (h : Heap) : RelH C fn F Z h.size h (H0 h.size) := ⟨rfl, Nat.le_refl _, fun a => ⟨fun q => (by cases q), trivial⟩⟩
theorem rel_H1 {C : String} {fn : Nat → String × String} {F : List Nat} {s : State} {a : Addr} {cl : Cell} (hf : Fit s) (A : Arr s s.heap a cl .int) (hl : cl.slots.size < 2 ^ 31) :
    ∃ f : Nat → Int32, RelH C fn F s s.heap.size s.heap (H1 s.heap.size a cl.slots.size f) := by
  refine ⟨fun i => match cl.slots[i]? with | some (.int x) => x | _ => 0, rfl, Nat.le_refl _, fun b => ?_⟩
  simp only [H1]
  by_cases e : b = a
  · subst e
    simp only [if_true]
    refine ⟨fun q => (by cases q), hl, cl, A, rfl, fun i hi => ?_⟩
    have hi : i < cl.slots.size := hi
    have hj := idx_in hi hl
    obtain ⟨v, q1, q2⟩ := elem_fit hf A hj
    have e2 : (i.toInt32).toNatClampNeg = i := by
      have := len_toInt (n := i) (by omega)
      simp only [Int32.toNatClampNeg, this]; omega
    rw [e2] at q1
    obtain ⟨x, rfl⟩ := fit_I q2 (Or.inl rfl)
    show _ = some (Value.int (match cl.slots[i]? with | some (.int x) => x | _ => 0))
    rw [q1]
  · simp only [e, if_false]; exact ⟨fun q => (by cases q), trivial⟩
end Jvm.JX

namespace Jvm.JX.Pj
open Jvm Jvm.ClassFile Sem Op Lib Jvm.JX
def r1 : List Row := [(0, .aload_n 0, 1, 0), (1, .invokespecial 1, 3, (-1)), (4, .aload_n 0, 1, 0), (5, .bipush 96, 2, 0), (7, .newarray .int, 2, 0), (9, .putfield 7, 3, 2), (12, .aload_n 0, 1, 0), (13, .iconst 4, 1, 0), (14, .newarray .int, 2, 0), (16, .putfield 13, 3, 4), (19, .aload_n 0, 1, 0), (20, .bipush 96, 2, 0), (22, .newarray .int, 2, 0), (24, .putfield 16, 3, 5), (27, .aload_n 0, 1, 0), (28, .bipush 8, 2, 0), (30, .newarray .int, 2, 0), (32, .putfield 19, 3, 14), (35, .aload_n 0, 1, 0), (36, .bipush 48, 2, 0), (38, .newarray .int, 2, 0), (40, .putfield 22, 3, 15), (43, .aload_n 0, 1, 0), (44, .bipush 6, 2, 0), (46, .newarray .int, 2, 0), (48, .putfield 25, 3, 16), (51, .aload_n 0, 1, 0), (52, .bipush 6, 2, 0), (54, .newarray .long, 2, 0), (56, .putfield 28, 3, 17), (59, .aload_n 0, 1, 0), (60, .bipush 6, 2, 0), (62, .newarray .long, 2, 0), (64, .putfield 32, 3, 18), (67, .aload_n 0, 1, 0), (68, .bipush 48, 2, 0), (70, .newarray .long, 2, 0), (72, .putfield 35, 3, 19), (75, .aload_n 0, 1, 0), (76, .bipush 40, 2, 0), (78, .newarray .long, 2, 0), (80, .putfield 38, 3, 20), (83, .aload_n 0, 1, 0), (84, .bipush 54, 2, 0), (86, .newarray .long, 2, 0), (88, .putfield 41, 3, 21), (91, .aload_n 0, 1, 0), (92, .bipush 54, 2, 0), (94, .newarray .long, 2, 0), (96, .putfield 44, 3, 22), (99, .aload_n 0, 1, 0), (100, .bipush 9, 2, 0), (102, .newarray .int, 2, 0), (104, .putfield 47, 3, 23), (107, .aload_n 0, 1, 0), (108, .bipush 9, 2, 0), (110, .newarray .int, 2, 0), (112, .putfield 50, 3, 24), (115, .aload_n 0, 1, 0), (116, .bipush 6, 2, 0), (118, .newarray .long, 2, 0), (120, .putfield 53, 3, 25), (123, .iload_n 1, 1, 0), (124, .istore_n 3, 1, 0), (125, .iload_n 3, 1, 0), (126, .iconst 2, 1, 0), (127, .if_icmp .ge 5, 3, 0), (130, .iconst 2, 1, 0), (131, .istore_n 3, 1, 0), (132, .iload_n 3, 1, 0), (133, .bipush 6, 2, 0), (135, .if_icmp .le 6, 3, 0), (138, .bipush 6, 2, 0), (140, .istore_n 3, 1, 0), (141, .iload_n 2, 1, 0), (142, .istore 4, 2, 0), (144, .iload 4, 2, 0), (146, .iconst 1, 1, 0), (147, .if_icmp .ge 6, 3, 0), (150, .iconst 1, 1, 0), (151, .istore 4, 2, 0), (153, .iload 4, 2, 0), (155, .bipush 8, 2, 0), (157, .if_icmp .le 7, 3, 0), (160, .bipush 8, 2, 0), (162, .istore 4, 2, 0), (164, .aload_n 0, 1, 0), (165, .iload_n 3, 1, 0), (166, .putfield 56, 3, 0), (169, .aload_n 0, 1, 0), (170, .iload 4, 2, 0), (172, .putfield 60, 3, 1), (175, .aload_n 0, 1, 0), (176, .iconst 0, 1, 0), (177, .putfield 63, 3, 3), (180, .aload_n 0, 1, 0), (181, .iconst 0, 1, 0), (182, .putfield 66, 3, 10), (185, .return_, 1, 0)]
def r4 : List Row := [(0, .aload_n 0, 1, 0), (1, .getfield 63, 3, 3), (4, .ireturn, 1, 0)]
def r10 : List Row := [(0, .aload_n 0, 1, 0), (1, .getfield 66, 3, 10), (4, .ifCond .eq 21, 3, 0), (7, .iload_n 1, 1, 0), (8, .ifCond .lt 17, 3, 0), (11, .iload_n 1, 1, 0), (12, .aload_n 0, 1, 0), (13, .getfield 93, 3, 13), (16, .if_icmp .ge 9, 3, 0), (19, .iload_n 1, 1, 0), (20, .bipush 8, 2, 0), (22, .if_icmp .lt 5, 3, 0), (25, .iconst (-1), 1, 0), (26, .ireturn, 1, 0), (27, .aload_n 0, 1, 0), (28, .getfield 19, 3, 14), (31, .iload_n 1, 1, 0), (32, .iaload, 1, 0), (33, .ireturn, 1, 0)]
def r14 : List Row := [(0, .aload_n 0, 1, 0), (1, .iload_n 1, 1, 0), (2, .invokevirtual 112, 3, 18), (5, .ifCond .ne 5, 3, 0), (8, .iconst 0, 1, 0), (9, .ireturn, 1, 0), (10, .iload_n 2, 1, 0), (11, .ifCond .lt 9, 3, 0), (14, .iload_n 2, 1, 0), (15, .ldc 115, 2, 100000), (17, .if_icmp .le 5, 3, 0), (20, .iconst 0, 1, 0), (21, .ireturn, 1, 0), (22, .aload_n 0, 1, 0), (23, .getfield 32, 3, 18), (26, .iload_n 1, 1, 0), (27, .iload_n 2, 1, 0), (28, .i2l, 1, 0), (29, .lastore, 1, 0), (30, .iconst 1, 1, 0), (31, .ireturn, 1, 0)]
def r15 : List Row := [(0, .aload_n 0, 1, 0), (1, .getfield 66, 3, 10), (4, .ifCond .ne 5, 3, 0), (7, .lconst 0, 1, 0), (8, .lreturn, 1, 0), (9, .iload_n 1, 1, 0), (10, .i2l, 1, 0), (11, .lstore_n 2, 1, 0), (12, .lload_n 2, 1, 0), (13, .lconst 0, 1, 0), (14, .lcmp, 1, 0), (15, .ifCond .ge 5, 3, 0), (18, .lconst 0, 1, 0), (19, .lstore_n 2, 1, 0), (20, .lload_n 2, 1, 0), (21, .ldc2_w 116, 3, 100000), (24, .lcmp, 1, 0), (25, .ifCond .le 7, 3, 0), (28, .ldc2_w 116, 3, 100000), (31, .lstore_n 2, 1, 0), (32, .iconst 0, 1, 0), (33, .istore 4, 2, 0), (35, .iload 4, 2, 0), (37, .aload_n 0, 1, 0), (38, .getfield 90, 3, 12), (41, .if_icmp .ge 34, 3, 0), (44, .iload 4, 2, 0), (46, .bipush 6, 2, 0), (48, .if_icmp .ge 27, 3, 0), (51, .aload_n 0, 1, 0), (52, .iload 4, 2, 0), (57, .lstore 5, 2, 0), (59, .lload 5, 2, 0), (61, .lload_n 2, 1, 0), (62, .lcmp, 1, 0), (63, .ifCond .ge 6, 3, 0), (66, .lload 5, 2, 0), (68, .lstore_n 2, 1, 0), (69, .iinc 4 1, 3, 0), (72, .goto (-37), 3, 0), (75, .iconst 0, 1, 0), (76, .istore 4, 2, 0), (78, .iload 4, 2, 0), (80, .aload_n 0, 1, 0), (81, .getfield 84, 3, 11), (84, .if_icmp .ge 63, 3, 0), (87, .iload 4, 2, 0), (89, .bipush 6, 2, 0), (91, .if_icmp .ge 56, 3, 0), (94, .lload_n 2, 1, 0), (95, .aload_n 0, 1, 0), (96, .getfield 28, 3, 17), (99, .iload 4, 2, 0), (101, .laload, 1, 0), (102, .lmul, 1, 0), (103, .lstore 5, 2, 0), (105, .iload 4, 2, 0), (107, .aload_n 0, 1, 0), (108, .getfield 90, 3, 12), (111, .if_icmp .ge 18, 3, 0), (114, .aload_n 0, 1, 0), (115, .getfield 32, 3, 18), (118, .iload 4, 2, 0), (120, .dup2, 1, 0), (121, .laload, 1, 0), (122, .lload 5, 2, 0), (124, .lsub, 1, 0), (125, .lastore, 1, 0), (126, .goto 15, 3, 0), (129, .aload_n 0, 1, 0), (130, .getfield 32, 3, 18), (133, .iload 4, 2, 0), (135, .dup2, 1, 0), (136, .laload, 1, 0), (137, .lload 5, 2, 0), (139, .ladd, 1, 0), (140, .lastore, 1, 0), (141, .iinc 4 1, 3, 0), (144, .goto (-66), 3, 0), (147, .lload_n 2, 1, 0), (148, .lreturn, 1, 0)]
def r16 : List Row := [(0, .aload_n 0, 1, 0), (1, .iload_n 1, 1, 0), (2, .invokevirtual 112, 3, 18), (5, .ifCond .ne 5, 3, 0), (8, .lconst 0, 1, 0), (9, .lreturn, 1, 0), (10, .aload_n 0, 1, 0), (11, .getfield 32, 3, 18), (14, .iload_n 1, 1, 0), (15, .laload, 1, 0), (16, .lreturn, 1, 0)]
def r17 : List Row := [(0, .aload_n 0, 1, 0), (1, .getfield 66, 3, 10), (4, .ifCond .ne 5, 3, 0), (7, .iconst (-1), 1, 0), (8, .ireturn, 1, 0), (9, .iconst 0, 1, 0), (10, .istore_n 1, 1, 0), (11, .aload_n 0, 1, 0), (12, .iconst 0, 1, 0), (16, .lstore_n 2, 1, 0), (17, .iconst 1, 1, 0), (18, .istore 4, 2, 0), (20, .iload 4, 2, 0), (22, .aload_n 0, 1, 0), (23, .getfield 90, 3, 12), (26, .if_icmp .ge 37, 3, 0), (29, .iload 4, 2, 0), (31, .bipush 6, 2, 0), (33, .if_icmp .ge 30, 3, 0), (36, .aload_n 0, 1, 0), (37, .iload 4, 2, 0), (42, .lstore 5, 2, 0), (44, .lload 5, 2, 0), (46, .lload_n 2, 1, 0), (47, .lcmp, 1, 0), (48, .ifCond .ge 9, 3, 0), (51, .lload 5, 2, 0), (53, .lstore_n 2, 1, 0), (54, .iload 4, 2, 0), (56, .istore_n 1, 1, 0), (57, .iinc 4 1, 3, 0), (60, .goto (-40), 3, 0), (63, .iload_n 1, 1, 0), (64, .ireturn, 1, 0)]
def r18 : List Row := [(0, .aload_n 0, 1, 0), (1, .getfield 66, 3, 10), (4, .ifCond .eq 25, 3, 0), (7, .iload_n 1, 1, 0), (8, .ifCond .lt 21, 3, 0), (11, .iload_n 1, 1, 0), (12, .aload_n 0, 1, 0), (13, .getfield 84, 3, 11), (16, .if_icmp .ge 13, 3, 0), (19, .iload_n 1, 1, 0), (20, .bipush 6, 2, 0), (22, .if_icmp .ge 7, 3, 0), (25, .iconst 1, 1, 0), (26, .goto 4, 3, 0), (29, .iconst 0, 1, 0), (30, .ireturn, 1, 0)]
def prows : List (List Row) := [[], r1, [], [], r4, [], [], [], [], [], r10, [], [], [], r14, r15, r16, r17, r18, [], [], [], [], [], [], [], [], [], [], [], [], [], [], [], [], [], [], [], [], [], [], [], [], [], [], [], []]
def pinfo : List MInfo := [(0, 0, 9, none, {}), (3, 5, 3, none, { frames := 1, cells := 15, slots := 490, locals := 12 }), (2, 2, 1, some .boolean, { frames := 2, cells := 0, slots := 0, locals := 26 }), (1, 1, 1, none, { frames := 0, cells := 0, slots := 0, locals := 0 }), (1, 1, 1, some .int, { frames := 0, cells := 0, slots := 0, locals := 0 }), (2, 2, 1, some .int, { frames := 0, cells := 0, slots := 0, locals := 0 }), (1, 4, 1, some .int, { frames := 4, cells := 0, slots := 0, locals := 77 }), (1, 1, 1, some .int, { frames := 0, cells := 0, slots := 0, locals := 0 }), (1, 1, 1, some .int, { frames := 0, cells := 0, slots := 0, locals := 0 }), (1, 1, 1, some .int, { frames := 0, cells := 0, slots := 0, locals := 0 }), (2, 2, 1, some .int, { frames := 0, cells := 0, slots := 0, locals := 0 }), (3, 3, 1, some .int, { frames := 1, cells := 0, slots := 0, locals := 13 }), (2, 2, 1, some .int, { frames := 1, cells := 0, slots := 0, locals := 13 }), (2, 2, 1, some .long, { frames := 1, cells := 0, slots := 0, locals := 13 }), (3, 3, 1, some .boolean, { frames := 1, cells := 0, slots := 0, locals := 13 }), (2, 7, 1, some .long, { frames := 1, cells := 0, slots := 0, locals := 13 }), (2, 2, 1, some .long, { frames := 1, cells := 0, slots := 0, locals := 13 }), (1, 7, 1, some .int, { frames := 1, cells := 0, slots := 0, locals := 13 }), (2, 2, 2, some .boolean, { frames := 0, cells := 0, slots := 0, locals := 0 }), (2, 2, 2, some .long, { frames := 0, cells := 0, slots := 0, locals := 0 }), (2, 2, 2, some .boolean, { frames := 0, cells := 0, slots := 0, locals := 0 }), (2, 2, 2, some .boolean, { frames := 0, cells := 0, slots := 0, locals := 0 }), (2, 2, 2, some .boolean, { frames := 0, cells := 0, slots := 0, locals := 0 }), (2, 2, 2, some .boolean, { frames := 1, cells := 0, slots := 0, locals := 13 }), (1, 8, 2, some .boolean, { frames := 3, cells := 0, slots := 0, locals := 41 }), (2, 4, 2, some .int, { frames := 2, cells := 0, slots := 0, locals := 26 }), (2, 3, 2, none, { frames := 0, cells := 0, slots := 0, locals := 0 }), (2, 2, 2, some .int, { frames := 1, cells := 0, slots := 0, locals := 13 }), (0, 0, 9, none, {}), (1, 8, 2, none, { frames := 3, cells := 0, slots := 0, locals := 46 }), (3, 7, 2, some .int, { frames := 2, cells := 0, slots := 0, locals := 28 }), (0, 0, 9, none, {}), (0, 0, 9, none, {}), (3, 5, 2, none, { frames := 0, cells := 0, slots := 0, locals := 0 }), (2, 4, 2, some .int, { frames := 1, cells := 0, slots := 0, locals := 13 }), (2, 3, 2, some .int, { frames := 0, cells := 0, slots := 0, locals := 0 }), (1, 5, 2, some .boolean, { frames := 0, cells := 0, slots := 0, locals := 0 }), (1, 5, 2, none, { frames := 0, cells := 0, slots := 0, locals := 0 }), (3, 11, 2, some .int, { frames := 1, cells := 0, slots := 0, locals := 22 }), (4, 5, 2, some .int, { frames := 0, cells := 0, slots := 0, locals := 0 }), (0, 0, 9, none, {}), (6, 11, 2, none, { frames := 0, cells := 0, slots := 0, locals := 0 }), (2, 3, 2, some .boolean, { frames := 3, cells := 0, slots := 0, locals := 63 }), (3, 6, 2, some .long, { frames := 2, cells := 0, slots := 0, locals := 44 }), (3, 6, 2, none, { frames := 0, cells := 0, slots := 0, locals := 0 }), (1, 8, 2, some .boolean, { frames := 1, cells := 0, slots := 0, locals := 23 }), (3, 12, 2, some .long, { frames := 0, cells := 0, slots := 0, locals := 0 })]
def pft : List FieldType := [.int, .int, .array .int, .int, .array .int, .array .int, .int, .int, .int, .int, .boolean, .int, .int, .int, .array .int, .array .int, .array .int, .array .long, .array .long, .array .long, .array .long, .array .long, .array .long, .array .int, .array .int, .array .long, .int, .long]
def pj (lw : LW) : Prog := (fun m pc => if m < 100 then (prows.getD m []).lookup pc else lw.1 (m - 100) pc, fun m => if m < 100 then pinfo.getD m (0, 0, 9, none, {}) else lw.2 (m - 100), fun k => pft.getD k .int, 28)
def lay : Lay := ([(.int, 0), (.int, 0), (.array .int, 1), (.int, 0), (.array .int, 2), (.array .int, 3), (.int, 0), (.int, 0), (.int, 0), (.int, 0), (.boolean, 0), (.int, 0), (.int, 0), (.int, 0), (.array .int, 4), (.array .int, 5), (.array .int, 6), (.array .long, 7), (.array .long, 8), (.array .long, 9), (.array .long, 10), (.array .long, 11), (.array .long, 12), (.array .int, 13), (.array .int, 14), (.array .long, 15), (.int, 0), (.long, 0)], [(.int, 96), (.int, 4), (.int, 96), (.int, 8), (.int, 48), (.int, 6), (.long, 6), (.long, 6), (.long, 48), (.long, 40), (.long, 54), (.long, 54), (.int, 9), (.int, 9), (.long, 6)])
abbrev ob (H : AH) (p : Nat) (s : St) : AH := put lay 15 H p s
section Acc
variable {H : AH} {p : Nat} {s : St} {i : Int32} {j q : Nat} {v : Int32} {w : Int64}
theorem g0 : fld (put lay j H p s) p 0 = .int (sI s 0) := fld_I (ty := .int) rfl (by decide) (by simp)
theorem s0 : wr (put lay j H p s) p 0 (.int v) = put lay j H p (uI s 0 v) := wr_I (ty := .int) rfl (by decide) (by simp)
theorem g1 : fld (put lay j H p s) p 1 = .int (sI s 1) := fld_I (ty := .int) rfl (by decide) (by simp)
theorem s1 : wr (put lay j H p s) p 1 (.int v) = put lay j H p (uI s 1 v) := wr_I (ty := .int) rfl (by decide) (by simp)
theorem g2 : fld (ob H p s) p 2 = .ref (p + 1) := fld_R (ty := .int) rfl (by decide)
theorem g3 : fld (put lay j H p s) p 3 = .int (sI s 3) := fld_I (ty := .int) rfl (by decide) (by simp)
theorem s3 : wr (put lay j H p s) p 3 (.int v) = put lay j H p (uI s 3 v) := wr_I (ty := .int) rfl (by decide) (by simp)
theorem g4 : fld (ob H p s) p 4 = .ref (p + 2) := fld_R (ty := .int) rfl (by decide)
theorem g5 : fld (ob H p s) p 5 = .ref (p + 3) := fld_R (ty := .int) rfl (by decide)
theorem g6 : fld (put lay j H p s) p 6 = .int (sI s 6) := fld_I (ty := .int) rfl (by decide) (by simp)
theorem s6 : wr (put lay j H p s) p 6 (.int v) = put lay j H p (uI s 6 v) := wr_I (ty := .int) rfl (by decide) (by simp)
theorem g7 : fld (put lay j H p s) p 7 = .int (sI s 7) := fld_I (ty := .int) rfl (by decide) (by simp)
theorem s7 : wr (put lay j H p s) p 7 (.int v) = put lay j H p (uI s 7 v) := wr_I (ty := .int) rfl (by decide) (by simp)
theorem g8 : fld (put lay j H p s) p 8 = .int (sI s 8) := fld_I (ty := .int) rfl (by decide) (by simp)
theorem s8 : wr (put lay j H p s) p 8 (.int v) = put lay j H p (uI s 8 v) := wr_I (ty := .int) rfl (by decide) (by simp)
theorem g9 : fld (put lay j H p s) p 9 = .int (sI s 9) := fld_I (ty := .int) rfl (by decide) (by simp)
theorem s9 : wr (put lay j H p s) p 9 (.int v) = put lay j H p (uI s 9 v) := wr_I (ty := .int) rfl (by decide) (by simp)
theorem g10 : fld (put lay j H p s) p 10 = .int (sI s 10) := fld_I (ty := .boolean) rfl (by decide) (by simp)
theorem s10 : wr (put lay j H p s) p 10 (.int v) = put lay j H p (uI s 10 v) := wr_I (ty := .boolean) rfl (by decide) (by simp)
theorem g11 : fld (put lay j H p s) p 11 = .int (sI s 11) := fld_I (ty := .int) rfl (by decide) (by simp)
theorem s11 : wr (put lay j H p s) p 11 (.int v) = put lay j H p (uI s 11 v) := wr_I (ty := .int) rfl (by decide) (by simp)
theorem g12 : fld (put lay j H p s) p 12 = .int (sI s 12) := fld_I (ty := .int) rfl (by decide) (by simp)
theorem s12 : wr (put lay j H p s) p 12 (.int v) = put lay j H p (uI s 12 v) := wr_I (ty := .int) rfl (by decide) (by simp)
theorem g13 : fld (put lay j H p s) p 13 = .int (sI s 13) := fld_I (ty := .int) rfl (by decide) (by simp)
theorem s13 : wr (put lay j H p s) p 13 (.int v) = put lay j H p (uI s 13 v) := wr_I (ty := .int) rfl (by decide) (by simp)
theorem g14 : fld (ob H p s) p 14 = .ref (p + 4) := fld_R (ty := .int) rfl (by decide)
theorem g15 : fld (ob H p s) p 15 = .ref (p + 5) := fld_R (ty := .int) rfl (by decide)
theorem g16 : fld (ob H p s) p 16 = .ref (p + 6) := fld_R (ty := .int) rfl (by decide)
theorem g17 : fld (ob H p s) p 17 = .ref (p + 7) := fld_R (ty := .long) rfl (by decide)
theorem g18 : fld (ob H p s) p 18 = .ref (p + 8) := fld_R (ty := .long) rfl (by decide)
theorem g19 : fld (ob H p s) p 19 = .ref (p + 9) := fld_R (ty := .long) rfl (by decide)
theorem g20 : fld (ob H p s) p 20 = .ref (p + 10) := fld_R (ty := .long) rfl (by decide)
theorem g21 : fld (ob H p s) p 21 = .ref (p + 11) := fld_R (ty := .long) rfl (by decide)
theorem g22 : fld (ob H p s) p 22 = .ref (p + 12) := fld_R (ty := .long) rfl (by decide)
theorem g23 : fld (ob H p s) p 23 = .ref (p + 13) := fld_R (ty := .int) rfl (by decide)
theorem g24 : fld (ob H p s) p 24 = .ref (p + 14) := fld_R (ty := .int) rfl (by decide)
theorem g25 : fld (ob H p s) p 25 = .ref (p + 15) := fld_R (ty := .long) rfl (by decide)
theorem g26 : fld (put lay j H p s) p 26 = .int (sI s 26) := fld_I (ty := .int) rfl (by decide) (by simp)
theorem s26 : wr (put lay j H p s) p 26 (.int v) = put lay j H p (uI s 26 v) := wr_I (ty := .int) rfl (by decide) (by simp)
theorem g27 : fld (put lay j H p s) p 27 = .long (sJ s 27) := fld_J rfl
theorem s27 : wr (put lay j H p s) p 27 (.long w) = put lay j H p (uJ s 27 w) := wr_J rfl
theorem ai1 : inA (ob H p s) (p + 1) .int i = true ↔ (0 ≤ i.toInt ∧ i.toInt < 96) := inA_I (t := 0) rfl (by decide) (by decide)
theorem aw1 : inAw (ob H p s) (p + 1) .int i = true ↔ (0 ≤ i.toInt ∧ i.toInt < 96) := inAw_I (t := 0) rfl (by decide) (by decide)
theorem ae1 : elt (ob H p s) (p + 1) i = .int (sA s 1 i.toNatClampNeg) := elt_I (t := 0) (ty := .int) rfl (by decide) (by decide)
theorem as1 : wr (ob H p s) (p + 1) q (.int v) = ob H p (uA s 1 q v) := wr_A (t := 0) (ty := .int) rfl (by decide) (by decide)
theorem ai2 : inA (ob H p s) (p + 2) .int i = true ↔ (0 ≤ i.toInt ∧ i.toInt < 4) := inA_I (t := 1) rfl (by decide) (by decide)
theorem aw2 : inAw (ob H p s) (p + 2) .int i = true ↔ (0 ≤ i.toInt ∧ i.toInt < 4) := inAw_I (t := 1) rfl (by decide) (by decide)
theorem ae2 : elt (ob H p s) (p + 2) i = .int (sA s 2 i.toNatClampNeg) := elt_I (t := 1) (ty := .int) rfl (by decide) (by decide)
theorem as2 : wr (ob H p s) (p + 2) q (.int v) = ob H p (uA s 2 q v) := wr_A (t := 1) (ty := .int) rfl (by decide) (by decide)
theorem ai3 : inA (ob H p s) (p + 3) .int i = true ↔ (0 ≤ i.toInt ∧ i.toInt < 96) := inA_I (t := 2) rfl (by decide) (by decide)
theorem aw3 : inAw (ob H p s) (p + 3) .int i = true ↔ (0 ≤ i.toInt ∧ i.toInt < 96) := inAw_I (t := 2) rfl (by decide) (by decide)
theorem ae3 : elt (ob H p s) (p + 3) i = .int (sA s 3 i.toNatClampNeg) := elt_I (t := 2) (ty := .int) rfl (by decide) (by decide)
theorem as3 : wr (ob H p s) (p + 3) q (.int v) = ob H p (uA s 3 q v) := wr_A (t := 2) (ty := .int) rfl (by decide) (by decide)
theorem ai4 : inA (ob H p s) (p + 4) .int i = true ↔ (0 ≤ i.toInt ∧ i.toInt < 8) := inA_I (t := 3) rfl (by decide) (by decide)
theorem aw4 : inAw (ob H p s) (p + 4) .int i = true ↔ (0 ≤ i.toInt ∧ i.toInt < 8) := inAw_I (t := 3) rfl (by decide) (by decide)
theorem ae4 : elt (ob H p s) (p + 4) i = .int (sA s 4 i.toNatClampNeg) := elt_I (t := 3) (ty := .int) rfl (by decide) (by decide)
theorem as4 : wr (ob H p s) (p + 4) q (.int v) = ob H p (uA s 4 q v) := wr_A (t := 3) (ty := .int) rfl (by decide) (by decide)
theorem ai5 : inA (ob H p s) (p + 5) .int i = true ↔ (0 ≤ i.toInt ∧ i.toInt < 48) := inA_I (t := 4) rfl (by decide) (by decide)
theorem aw5 : inAw (ob H p s) (p + 5) .int i = true ↔ (0 ≤ i.toInt ∧ i.toInt < 48) := inAw_I (t := 4) rfl (by decide) (by decide)
theorem ae5 : elt (ob H p s) (p + 5) i = .int (sA s 5 i.toNatClampNeg) := elt_I (t := 4) (ty := .int) rfl (by decide) (by decide)
theorem as5 : wr (ob H p s) (p + 5) q (.int v) = ob H p (uA s 5 q v) := wr_A (t := 4) (ty := .int) rfl (by decide) (by decide)
theorem ai6 : inA (ob H p s) (p + 6) .int i = true ↔ (0 ≤ i.toInt ∧ i.toInt < 6) := inA_I (t := 5) rfl (by decide) (by decide)
theorem aw6 : inAw (ob H p s) (p + 6) .int i = true ↔ (0 ≤ i.toInt ∧ i.toInt < 6) := inAw_I (t := 5) rfl (by decide) (by decide)
theorem ae6 : elt (ob H p s) (p + 6) i = .int (sA s 6 i.toNatClampNeg) := elt_I (t := 5) (ty := .int) rfl (by decide) (by decide)
theorem as6 : wr (ob H p s) (p + 6) q (.int v) = ob H p (uA s 6 q v) := wr_A (t := 5) (ty := .int) rfl (by decide) (by decide)
theorem ai7 : inA (ob H p s) (p + 7) .long i = true ↔ (0 ≤ i.toInt ∧ i.toInt < 6) := inA_J (t := 6) rfl (by decide)
theorem aw7 : inAw (ob H p s) (p + 7) .long i = true ↔ (0 ≤ i.toInt ∧ i.toInt < 6) := inAw_J (t := 6) rfl (by decide)
theorem ae7 : elt (ob H p s) (p + 7) i = .long (sB s 7 i.toNatClampNeg) := elt_J (t := 6) rfl (by decide)
theorem as7 : wr (ob H p s) (p + 7) q (.long w) = ob H p (uB s 7 q w) := wr_B (t := 6) rfl (by decide)
theorem ai8 : inA (ob H p s) (p + 8) .long i = true ↔ (0 ≤ i.toInt ∧ i.toInt < 6) := inA_J (t := 7) rfl (by decide)
theorem aw8 : inAw (ob H p s) (p + 8) .long i = true ↔ (0 ≤ i.toInt ∧ i.toInt < 6) := inAw_J (t := 7) rfl (by decide)
theorem ae8 : elt (ob H p s) (p + 8) i = .long (sB s 8 i.toNatClampNeg) := elt_J (t := 7) rfl (by decide)
theorem as8 : wr (ob H p s) (p + 8) q (.long w) = ob H p (uB s 8 q w) := wr_B (t := 7) rfl (by decide)
theorem ai9 : inA (ob H p s) (p + 9) .long i = true ↔ (0 ≤ i.toInt ∧ i.toInt < 48) := inA_J (t := 8) rfl (by decide)
theorem aw9 : inAw (ob H p s) (p + 9) .long i = true ↔ (0 ≤ i.toInt ∧ i.toInt < 48) := inAw_J (t := 8) rfl (by decide)
theorem ae9 : elt (ob H p s) (p + 9) i = .long (sB s 9 i.toNatClampNeg) := elt_J (t := 8) rfl (by decide)
theorem as9 : wr (ob H p s) (p + 9) q (.long w) = ob H p (uB s 9 q w) := wr_B (t := 8) rfl (by decide)
theorem ai10 : inA (ob H p s) (p + 10) .long i = true ↔ (0 ≤ i.toInt ∧ i.toInt < 40) := inA_J (t := 9) rfl (by decide)
theorem aw10 : inAw (ob H p s) (p + 10) .long i = true ↔ (0 ≤ i.toInt ∧ i.toInt < 40) := inAw_J (t := 9) rfl (by decide)
theorem ae10 : elt (ob H p s) (p + 10) i = .long (sB s 10 i.toNatClampNeg) := elt_J (t := 9) rfl (by decide)
theorem as10 : wr (ob H p s) (p + 10) q (.long w) = ob H p (uB s 10 q w) := wr_B (t := 9) rfl (by decide)
theorem ai11 : inA (ob H p s) (p + 11) .long i = true ↔ (0 ≤ i.toInt ∧ i.toInt < 54) := inA_J (t := 10) rfl (by decide)
theorem aw11 : inAw (ob H p s) (p + 11) .long i = true ↔ (0 ≤ i.toInt ∧ i.toInt < 54) := inAw_J (t := 10) rfl (by decide)
theorem ae11 : elt (ob H p s) (p + 11) i = .long (sB s 11 i.toNatClampNeg) := elt_J (t := 10) rfl (by decide)
theorem as11 : wr (ob H p s) (p + 11) q (.long w) = ob H p (uB s 11 q w) := wr_B (t := 10) rfl (by decide)
theorem ai12 : inA (ob H p s) (p + 12) .long i = true ↔ (0 ≤ i.toInt ∧ i.toInt < 54) := inA_J (t := 11) rfl (by decide)
theorem aw12 : inAw (ob H p s) (p + 12) .long i = true ↔ (0 ≤ i.toInt ∧ i.toInt < 54) := inAw_J (t := 11) rfl (by decide)
theorem ae12 : elt (ob H p s) (p + 12) i = .long (sB s 12 i.toNatClampNeg) := elt_J (t := 11) rfl (by decide)
theorem as12 : wr (ob H p s) (p + 12) q (.long w) = ob H p (uB s 12 q w) := wr_B (t := 11) rfl (by decide)
theorem ai13 : inA (ob H p s) (p + 13) .int i = true ↔ (0 ≤ i.toInt ∧ i.toInt < 9) := inA_I (t := 12) rfl (by decide) (by decide)
theorem aw13 : inAw (ob H p s) (p + 13) .int i = true ↔ (0 ≤ i.toInt ∧ i.toInt < 9) := inAw_I (t := 12) rfl (by decide) (by decide)
theorem ae13 : elt (ob H p s) (p + 13) i = .int (sA s 13 i.toNatClampNeg) := elt_I (t := 12) (ty := .int) rfl (by decide) (by decide)
theorem as13 : wr (ob H p s) (p + 13) q (.int v) = ob H p (uA s 13 q v) := wr_A (t := 12) (ty := .int) rfl (by decide) (by decide)
theorem ai14 : inA (ob H p s) (p + 14) .int i = true ↔ (0 ≤ i.toInt ∧ i.toInt < 9) := inA_I (t := 13) rfl (by decide) (by decide)
theorem aw14 : inAw (ob H p s) (p + 14) .int i = true ↔ (0 ≤ i.toInt ∧ i.toInt < 9) := inAw_I (t := 13) rfl (by decide) (by decide)
theorem ae14 : elt (ob H p s) (p + 14) i = .int (sA s 14 i.toNatClampNeg) := elt_I (t := 13) (ty := .int) rfl (by decide) (by decide)
theorem as14 : wr (ob H p s) (p + 14) q (.int v) = ob H p (uA s 14 q v) := wr_A (t := 13) (ty := .int) rfl (by decide) (by decide)
theorem ai15 : inA (ob H p s) (p + 15) .long i = true ↔ (0 ≤ i.toInt ∧ i.toInt < 6) := inA_J (t := 14) rfl (by decide)
theorem aw15 : inAw (ob H p s) (p + 15) .long i = true ↔ (0 ≤ i.toInt ∧ i.toInt < 6) := inAw_J (t := 14) rfl (by decide)
theorem ae15 : elt (ob H p s) (p + 15) i = .long (sB s 15 i.toNatClampNeg) := elt_J (t := 14) rfl (by decide)
theorem as15 : wr (ob H p s) (p + 15) q (.long w) = ob H p (uB s 15 q w) := wr_B (t := 14) rfl (by decide)
theorem mkO_ob {lw : LW} : mkO (pj lw) H = put lay 0 (H.1 + 1, H.2) H.1 z0 := mkO_put rfl (fun k => match k with | 0 => rfl | 1 => rfl | 2 => rfl | 3 => rfl | 4 => rfl | 5 => rfl | 6 => rfl | 7 => rfl | 8 => rfl | 9 => rfl | 10 => rfl | 11 => rfl | 12 => rfl | 13 => rfl | 14 => rfl | 15 => rfl | 16 => rfl | 17 => rfl | 18 => rfl | 19 => rfl | 20 => rfl | 21 => rfl | 22 => rfl | 23 => rfl | 24 => rfl | 25 => rfl | 26 => rfl | 27 => rfl | (_ + 28) => rfl)
theorem mk1 {h : Nat → Cel} (hz : zr s 1) : wr (mkA .int 96 (put lay 0 (p + 1, h) p s)) p 2 (.ref (p + 1)) = put lay 1 (p + 2, h) p s := mkA_put (j := 0) rfl rfl (by decide) hz.1 hz.2 (Or.inl rfl)
theorem io1 {h : Nat → Cel} : isOw (mkA .int 96 (put lay 0 (p + 1, h) p s)) p = true := isOw_mk (c := 0)
theorem mk2 {h : Nat → Cel} (hz : zr s 2) : wr (mkA .int 4 (put lay 1 (p + 2, h) p s)) p 4 (.ref (p + 2)) = put lay 2 (p + 3, h) p s := mkA_put (j := 1) rfl rfl (by decide) hz.1 hz.2 (Or.inl rfl)
theorem io2 {h : Nat → Cel} : isOw (mkA .int 4 (put lay 1 (p + 2, h) p s)) p = true := isOw_mk (c := 1)
theorem mk3 {h : Nat → Cel} (hz : zr s 3) : wr (mkA .int 96 (put lay 2 (p + 3, h) p s)) p 5 (.ref (p + 3)) = put lay 3 (p + 4, h) p s := mkA_put (j := 2) rfl rfl (by decide) hz.1 hz.2 (Or.inl rfl)
theorem io3 {h : Nat → Cel} : isOw (mkA .int 96 (put lay 2 (p + 3, h) p s)) p = true := isOw_mk (c := 2)
theorem mk4 {h : Nat → Cel} (hz : zr s 4) : wr (mkA .int 8 (put lay 3 (p + 4, h) p s)) p 14 (.ref (p + 4)) = put lay 4 (p + 5, h) p s := mkA_put (j := 3) rfl rfl (by decide) hz.1 hz.2 (Or.inl rfl)
theorem io4 {h : Nat → Cel} : isOw (mkA .int 8 (put lay 3 (p + 4, h) p s)) p = true := isOw_mk (c := 3)
theorem mk5 {h : Nat → Cel} (hz : zr s 5) : wr (mkA .int 48 (put lay 4 (p + 5, h) p s)) p 15 (.ref (p + 5)) = put lay 5 (p + 6, h) p s := mkA_put (j := 4) rfl rfl (by decide) hz.1 hz.2 (Or.inl rfl)
theorem io5 {h : Nat → Cel} : isOw (mkA .int 48 (put lay 4 (p + 5, h) p s)) p = true := isOw_mk (c := 4)
theorem mk6 {h : Nat → Cel} (hz : zr s 6) : wr (mkA .int 6 (put lay 5 (p + 6, h) p s)) p 16 (.ref (p + 6)) = put lay 6 (p + 7, h) p s := mkA_put (j := 5) rfl rfl (by decide) hz.1 hz.2 (Or.inl rfl)
theorem io6 {h : Nat → Cel} : isOw (mkA .int 6 (put lay 5 (p + 6, h) p s)) p = true := isOw_mk (c := 5)
theorem mk7 {h : Nat → Cel} (hz : zr s 7) : wr (mkA .long 6 (put lay 6 (p + 7, h) p s)) p 17 (.ref (p + 7)) = put lay 7 (p + 8, h) p s := mkA_put (j := 6) rfl rfl (by decide) hz.1 hz.2 (Or.inr (Or.inl rfl))
theorem io7 {h : Nat → Cel} : isOw (mkA .long 6 (put lay 6 (p + 7, h) p s)) p = true := isOw_mk (c := 6)
theorem mk8 {h : Nat → Cel} (hz : zr s 8) : wr (mkA .long 6 (put lay 7 (p + 8, h) p s)) p 18 (.ref (p + 8)) = put lay 8 (p + 9, h) p s := mkA_put (j := 7) rfl rfl (by decide) hz.1 hz.2 (Or.inr (Or.inl rfl))
theorem io8 {h : Nat → Cel} : isOw (mkA .long 6 (put lay 7 (p + 8, h) p s)) p = true := isOw_mk (c := 7)
theorem mk9 {h : Nat → Cel} (hz : zr s 9) : wr (mkA .long 48 (put lay 8 (p + 9, h) p s)) p 19 (.ref (p + 9)) = put lay 9 (p + 10, h) p s := mkA_put (j := 8) rfl rfl (by decide) hz.1 hz.2 (Or.inr (Or.inl rfl))
theorem io9 {h : Nat → Cel} : isOw (mkA .long 48 (put lay 8 (p + 9, h) p s)) p = true := isOw_mk (c := 8)
theorem mk10 {h : Nat → Cel} (hz : zr s 10) : wr (mkA .long 40 (put lay 9 (p + 10, h) p s)) p 20 (.ref (p + 10)) = put lay 10 (p + 11, h) p s := mkA_put (j := 9) rfl rfl (by decide) hz.1 hz.2 (Or.inr (Or.inl rfl))
theorem io10 {h : Nat → Cel} : isOw (mkA .long 40 (put lay 9 (p + 10, h) p s)) p = true := isOw_mk (c := 9)
theorem mk11 {h : Nat → Cel} (hz : zr s 11) : wr (mkA .long 54 (put lay 10 (p + 11, h) p s)) p 21 (.ref (p + 11)) = put lay 11 (p + 12, h) p s := mkA_put (j := 10) rfl rfl (by decide) hz.1 hz.2 (Or.inr (Or.inl rfl))
theorem io11 {h : Nat → Cel} : isOw (mkA .long 54 (put lay 10 (p + 11, h) p s)) p = true := isOw_mk (c := 10)
theorem mk12 {h : Nat → Cel} (hz : zr s 12) : wr (mkA .long 54 (put lay 11 (p + 12, h) p s)) p 22 (.ref (p + 12)) = put lay 12 (p + 13, h) p s := mkA_put (j := 11) rfl rfl (by decide) hz.1 hz.2 (Or.inr (Or.inl rfl))
theorem io12 {h : Nat → Cel} : isOw (mkA .long 54 (put lay 11 (p + 12, h) p s)) p = true := isOw_mk (c := 11)
theorem mk13 {h : Nat → Cel} (hz : zr s 13) : wr (mkA .int 9 (put lay 12 (p + 13, h) p s)) p 23 (.ref (p + 13)) = put lay 13 (p + 14, h) p s := mkA_put (j := 12) rfl rfl (by decide) hz.1 hz.2 (Or.inl rfl)
theorem io13 {h : Nat → Cel} : isOw (mkA .int 9 (put lay 12 (p + 13, h) p s)) p = true := isOw_mk (c := 12)
theorem mk14 {h : Nat → Cel} (hz : zr s 14) : wr (mkA .int 9 (put lay 13 (p + 14, h) p s)) p 24 (.ref (p + 14)) = put lay 14 (p + 15, h) p s := mkA_put (j := 13) rfl rfl (by decide) hz.1 hz.2 (Or.inl rfl)
theorem io14 {h : Nat → Cel} : isOw (mkA .int 9 (put lay 13 (p + 14, h) p s)) p = true := isOw_mk (c := 13)
theorem mk15 {h : Nat → Cel} (hz : zr s 15) : wr (mkA .long 6 (put lay 14 (p + 15, h) p s)) p 25 (.ref (p + 15)) = put lay 15 (p + 16, h) p s := mkA_put (j := 14) rfl rfl (by decide) hz.1 hz.2 (Or.inr (Or.inl rfl))
theorem io15 {h : Nat → Cel} : isOw (mkA .long 6 (put lay 14 (p + 15, h) p s)) p = true := isOw_mk (c := 14)
end Acc
section Pc
variable {lw : LW} {L : List Slot} {S : List Value} {k n : Nat} {H : AH} {Q : Option Value → AH → Prop}
theorem c1 {x0 : Nat} {x1 : Int32} {x2 : Int32} : Cl (pj lw) 1 [.ref x0, .int x1, .int x2] H Q ↔ W (pj lw) 1 0 [.val (.ref x0), .val (.int x1), .val (.int x2), .unset, .unset] [] 0 0 H Q := cl_unf rfl
theorem w1_0 {x : Nat} : W (pj lw) 1 0 (.val (.ref x) :: L) S k n H Q ↔ W (pj lw) 1 1 (.val (.ref x) :: L) (.ref x :: S) k n H Q := W_s (rfl : (pj lw).1 1 0 = some (.aload_n 0, 1, 0)) rfl rfl rfl
theorem w1_1 {a : Nat} : W (pj lw) 1 1 L (.ref a :: S) k n H Q ↔ ((1 ≤ 1 ∧ cs S + 12 ≤ 12) ∧ W (pj lw) 1 4 L S k n H Q) := W_oinit (rfl : (pj lw).1 1 1 = some (.invokespecial 1, 3, (-1)))
theorem w1_4 {x : Nat} : W (pj lw) 1 4 (.val (.ref x) :: L) S k n H Q ↔ W (pj lw) 1 5 (.val (.ref x) :: L) (.ref x :: S) k n H Q := W_s (rfl : (pj lw).1 1 4 = some (.aload_n 0, 1, 0)) rfl rfl rfl
theorem w1_5 : W (pj lw) 1 5 L S k n H Q ↔ W (pj lw) 1 7 L (.int 96 :: S) k n H Q := W_s (rfl : (pj lw).1 1 5 = some (.bipush 96, 2, 0)) rfl rfl rfl
theorem w1_7 : W (pj lw) 1 7 L (.int 96 :: S) k n H Q ↔ ((k + 1 ≤ 15 ∧ n + 96 ≤ 490) ∧ W (pj lw) 1 9 L (.ref H.1 :: S) (k + 1) (n + 96) (mkA .int 96 H) Q) := W_newarr' (rfl : (pj lw).1 1 7 = some (.newarray .int, 2, 0)) rfl (by decide) (by decide)
theorem w1_9 {a : Nat} {v : Value} : W (pj lw) 1 9 L (v :: .ref a :: S) k n H Q ↔ ((isOw H a = true ∧ okv (.array .int) v = true) ∧ W (pj lw) 1 12 L S k n (wr H a 2 v) Q) := W_putf (rfl : (pj lw).1 1 9 = some (.putfield 7, 3, 2))
theorem w1_12 {x : Nat} : W (pj lw) 1 12 (.val (.ref x) :: L) S k n H Q ↔ W (pj lw) 1 13 (.val (.ref x) :: L) (.ref x :: S) k n H Q := W_s (rfl : (pj lw).1 1 12 = some (.aload_n 0, 1, 0)) rfl rfl rfl
theorem w1_13 : W (pj lw) 1 13 L S k n H Q ↔ W (pj lw) 1 14 L (.int 4 :: S) k n H Q := W_s (rfl : (pj lw).1 1 13 = some (.iconst 4, 1, 0)) rfl rfl rfl
theorem w1_14 : W (pj lw) 1 14 L (.int 4 :: S) k n H Q ↔ ((k + 1 ≤ 15 ∧ n + 4 ≤ 490) ∧ W (pj lw) 1 16 L (.ref H.1 :: S) (k + 1) (n + 4) (mkA .int 4 H) Q) := W_newarr' (rfl : (pj lw).1 1 14 = some (.newarray .int, 2, 0)) rfl (by decide) (by decide)
theorem w1_16 {a : Nat} {v : Value} : W (pj lw) 1 16 L (v :: .ref a :: S) k n H Q ↔ ((isOw H a = true ∧ okv (.array .int) v = true) ∧ W (pj lw) 1 19 L S k n (wr H a 4 v) Q) := W_putf (rfl : (pj lw).1 1 16 = some (.putfield 13, 3, 4))
theorem w1_19 {x : Nat} : W (pj lw) 1 19 (.val (.ref x) :: L) S k n H Q ↔ W (pj lw) 1 20 (.val (.ref x) :: L) (.ref x :: S) k n H Q := W_s (rfl : (pj lw).1 1 19 = some (.aload_n 0, 1, 0)) rfl rfl rfl
theorem w1_20 : W (pj lw) 1 20 L S k n H Q ↔ W (pj lw) 1 22 L (.int 96 :: S) k n H Q := W_s (rfl : (pj lw).1 1 20 = some (.bipush 96, 2, 0)) rfl rfl rfl
theorem w1_22 : W (pj lw) 1 22 L (.int 96 :: S) k n H Q ↔ ((k + 1 ≤ 15 ∧ n + 96 ≤ 490) ∧ W (pj lw) 1 24 L (.ref H.1 :: S) (k + 1) (n + 96) (mkA .int 96 H) Q) := W_newarr' (rfl : (pj lw).1 1 22 = some (.newarray .int, 2, 0)) rfl (by decide) (by decide)
theorem w1_24 {a : Nat} {v : Value} : W (pj lw) 1 24 L (v :: .ref a :: S) k n H Q ↔ ((isOw H a = true ∧ okv (.array .int) v = true) ∧ W (pj lw) 1 27 L S k n (wr H a 5 v) Q) := W_putf (rfl : (pj lw).1 1 24 = some (.putfield 16, 3, 5))
theorem w1_27 {x : Nat} : W (pj lw) 1 27 (.val (.ref x) :: L) S k n H Q ↔ W (pj lw) 1 28 (.val (.ref x) :: L) (.ref x :: S) k n H Q := W_s (rfl : (pj lw).1 1 27 = some (.aload_n 0, 1, 0)) rfl rfl rfl
theorem w1_28 : W (pj lw) 1 28 L S k n H Q ↔ W (pj lw) 1 30 L (.int 8 :: S) k n H Q := W_s (rfl : (pj lw).1 1 28 = some (.bipush 8, 2, 0)) rfl rfl rfl
theorem w1_30 : W (pj lw) 1 30 L (.int 8 :: S) k n H Q ↔ ((k + 1 ≤ 15 ∧ n + 8 ≤ 490) ∧ W (pj lw) 1 32 L (.ref H.1 :: S) (k + 1) (n + 8) (mkA .int 8 H) Q) := W_newarr' (rfl : (pj lw).1 1 30 = some (.newarray .int, 2, 0)) rfl (by decide) (by decide)
theorem w1_32 {a : Nat} {v : Value} : W (pj lw) 1 32 L (v :: .ref a :: S) k n H Q ↔ ((isOw H a = true ∧ okv (.array .int) v = true) ∧ W (pj lw) 1 35 L S k n (wr H a 14 v) Q) := W_putf (rfl : (pj lw).1 1 32 = some (.putfield 19, 3, 14))
theorem w1_35 {x : Nat} : W (pj lw) 1 35 (.val (.ref x) :: L) S k n H Q ↔ W (pj lw) 1 36 (.val (.ref x) :: L) (.ref x :: S) k n H Q := W_s (rfl : (pj lw).1 1 35 = some (.aload_n 0, 1, 0)) rfl rfl rfl
theorem w1_36 : W (pj lw) 1 36 L S k n H Q ↔ W (pj lw) 1 38 L (.int 48 :: S) k n H Q := W_s (rfl : (pj lw).1 1 36 = some (.bipush 48, 2, 0)) rfl rfl rfl
theorem w1_38 : W (pj lw) 1 38 L (.int 48 :: S) k n H Q ↔ ((k + 1 ≤ 15 ∧ n + 48 ≤ 490) ∧ W (pj lw) 1 40 L (.ref H.1 :: S) (k + 1) (n + 48) (mkA .int 48 H) Q) := W_newarr' (rfl : (pj lw).1 1 38 = some (.newarray .int, 2, 0)) rfl (by decide) (by decide)
theorem w1_40 {a : Nat} {v : Value} : W (pj lw) 1 40 L (v :: .ref a :: S) k n H Q ↔ ((isOw H a = true ∧ okv (.array .int) v = true) ∧ W (pj lw) 1 43 L S k n (wr H a 15 v) Q) := W_putf (rfl : (pj lw).1 1 40 = some (.putfield 22, 3, 15))
theorem w1_43 {x : Nat} : W (pj lw) 1 43 (.val (.ref x) :: L) S k n H Q ↔ W (pj lw) 1 44 (.val (.ref x) :: L) (.ref x :: S) k n H Q := W_s (rfl : (pj lw).1 1 43 = some (.aload_n 0, 1, 0)) rfl rfl rfl
theorem w1_44 : W (pj lw) 1 44 L S k n H Q ↔ W (pj lw) 1 46 L (.int 6 :: S) k n H Q := W_s (rfl : (pj lw).1 1 44 = some (.bipush 6, 2, 0)) rfl rfl rfl
theorem w1_46 : W (pj lw) 1 46 L (.int 6 :: S) k n H Q ↔ ((k + 1 ≤ 15 ∧ n + 6 ≤ 490) ∧ W (pj lw) 1 48 L (.ref H.1 :: S) (k + 1) (n + 6) (mkA .int 6 H) Q) := W_newarr' (rfl : (pj lw).1 1 46 = some (.newarray .int, 2, 0)) rfl (by decide) (by decide)
theorem w1_48 {a : Nat} {v : Value} : W (pj lw) 1 48 L (v :: .ref a :: S) k n H Q ↔ ((isOw H a = true ∧ okv (.array .int) v = true) ∧ W (pj lw) 1 51 L S k n (wr H a 16 v) Q) := W_putf (rfl : (pj lw).1 1 48 = some (.putfield 25, 3, 16))
theorem w1_51 {x : Nat} : W (pj lw) 1 51 (.val (.ref x) :: L) S k n H Q ↔ W (pj lw) 1 52 (.val (.ref x) :: L) (.ref x :: S) k n H Q := W_s (rfl : (pj lw).1 1 51 = some (.aload_n 0, 1, 0)) rfl rfl rfl
theorem w1_52 : W (pj lw) 1 52 L S k n H Q ↔ W (pj lw) 1 54 L (.int 6 :: S) k n H Q := W_s (rfl : (pj lw).1 1 52 = some (.bipush 6, 2, 0)) rfl rfl rfl
theorem w1_54 : W (pj lw) 1 54 L (.int 6 :: S) k n H Q ↔ ((k + 1 ≤ 15 ∧ n + 6 ≤ 490) ∧ W (pj lw) 1 56 L (.ref H.1 :: S) (k + 1) (n + 6) (mkA .long 6 H) Q) := W_newarr' (rfl : (pj lw).1 1 54 = some (.newarray .long, 2, 0)) rfl (by decide) (by decide)
theorem w1_56 {a : Nat} {v : Value} : W (pj lw) 1 56 L (v :: .ref a :: S) k n H Q ↔ ((isOw H a = true ∧ okv (.array .long) v = true) ∧ W (pj lw) 1 59 L S k n (wr H a 17 v) Q) := W_putf (rfl : (pj lw).1 1 56 = some (.putfield 28, 3, 17))
theorem w1_59 {x : Nat} : W (pj lw) 1 59 (.val (.ref x) :: L) S k n H Q ↔ W (pj lw) 1 60 (.val (.ref x) :: L) (.ref x :: S) k n H Q := W_s (rfl : (pj lw).1 1 59 = some (.aload_n 0, 1, 0)) rfl rfl rfl
theorem w1_60 : W (pj lw) 1 60 L S k n H Q ↔ W (pj lw) 1 62 L (.int 6 :: S) k n H Q := W_s (rfl : (pj lw).1 1 60 = some (.bipush 6, 2, 0)) rfl rfl rfl
theorem w1_62 : W (pj lw) 1 62 L (.int 6 :: S) k n H Q ↔ ((k + 1 ≤ 15 ∧ n + 6 ≤ 490) ∧ W (pj lw) 1 64 L (.ref H.1 :: S) (k + 1) (n + 6) (mkA .long 6 H) Q) := W_newarr' (rfl : (pj lw).1 1 62 = some (.newarray .long, 2, 0)) rfl (by decide) (by decide)
theorem w1_64 {a : Nat} {v : Value} : W (pj lw) 1 64 L (v :: .ref a :: S) k n H Q ↔ ((isOw H a = true ∧ okv (.array .long) v = true) ∧ W (pj lw) 1 67 L S k n (wr H a 18 v) Q) := W_putf (rfl : (pj lw).1 1 64 = some (.putfield 32, 3, 18))
theorem w1_67 {x : Nat} : W (pj lw) 1 67 (.val (.ref x) :: L) S k n H Q ↔ W (pj lw) 1 68 (.val (.ref x) :: L) (.ref x :: S) k n H Q := W_s (rfl : (pj lw).1 1 67 = some (.aload_n 0, 1, 0)) rfl rfl rfl
theorem w1_68 : W (pj lw) 1 68 L S k n H Q ↔ W (pj lw) 1 70 L (.int 48 :: S) k n H Q := W_s (rfl : (pj lw).1 1 68 = some (.bipush 48, 2, 0)) rfl rfl rfl
theorem w1_70 : W (pj lw) 1 70 L (.int 48 :: S) k n H Q ↔ ((k + 1 ≤ 15 ∧ n + 48 ≤ 490) ∧ W (pj lw) 1 72 L (.ref H.1 :: S) (k + 1) (n + 48) (mkA .long 48 H) Q) := W_newarr' (rfl : (pj lw).1 1 70 = some (.newarray .long, 2, 0)) rfl (by decide) (by decide)
theorem w1_72 {a : Nat} {v : Value} : W (pj lw) 1 72 L (v :: .ref a :: S) k n H Q ↔ ((isOw H a = true ∧ okv (.array .long) v = true) ∧ W (pj lw) 1 75 L S k n (wr H a 19 v) Q) := W_putf (rfl : (pj lw).1 1 72 = some (.putfield 35, 3, 19))
theorem w1_75 {x : Nat} : W (pj lw) 1 75 (.val (.ref x) :: L) S k n H Q ↔ W (pj lw) 1 76 (.val (.ref x) :: L) (.ref x :: S) k n H Q := W_s (rfl : (pj lw).1 1 75 = some (.aload_n 0, 1, 0)) rfl rfl rfl
theorem w1_76 : W (pj lw) 1 76 L S k n H Q ↔ W (pj lw) 1 78 L (.int 40 :: S) k n H Q := W_s (rfl : (pj lw).1 1 76 = some (.bipush 40, 2, 0)) rfl rfl rfl
theorem w1_78 : W (pj lw) 1 78 L (.int 40 :: S) k n H Q ↔ ((k + 1 ≤ 15 ∧ n + 40 ≤ 490) ∧ W (pj lw) 1 80 L (.ref H.1 :: S) (k + 1) (n + 40) (mkA .long 40 H) Q) := W_newarr' (rfl : (pj lw).1 1 78 = some (.newarray .long, 2, 0)) rfl (by decide) (by decide)
theorem w1_80 {a : Nat} {v : Value} : W (pj lw) 1 80 L (v :: .ref a :: S) k n H Q ↔ ((isOw H a = true ∧ okv (.array .long) v = true) ∧ W (pj lw) 1 83 L S k n (wr H a 20 v) Q) := W_putf (rfl : (pj lw).1 1 80 = some (.putfield 38, 3, 20))
theorem w1_83 {x : Nat} : W (pj lw) 1 83 (.val (.ref x) :: L) S k n H Q ↔ W (pj lw) 1 84 (.val (.ref x) :: L) (.ref x :: S) k n H Q := W_s (rfl : (pj lw).1 1 83 = some (.aload_n 0, 1, 0)) rfl rfl rfl
theorem w1_84 : W (pj lw) 1 84 L S k n H Q ↔ W (pj lw) 1 86 L (.int 54 :: S) k n H Q := W_s (rfl : (pj lw).1 1 84 = some (.bipush 54, 2, 0)) rfl rfl rfl
theorem w1_86 : W (pj lw) 1 86 L (.int 54 :: S) k n H Q ↔ ((k + 1 ≤ 15 ∧ n + 54 ≤ 490) ∧ W (pj lw) 1 88 L (.ref H.1 :: S) (k + 1) (n + 54) (mkA .long 54 H) Q) := W_newarr' (rfl : (pj lw).1 1 86 = some (.newarray .long, 2, 0)) rfl (by decide) (by decide)
theorem w1_88 {a : Nat} {v : Value} : W (pj lw) 1 88 L (v :: .ref a :: S) k n H Q ↔ ((isOw H a = true ∧ okv (.array .long) v = true) ∧ W (pj lw) 1 91 L S k n (wr H a 21 v) Q) := W_putf (rfl : (pj lw).1 1 88 = some (.putfield 41, 3, 21))
theorem w1_91 {x : Nat} : W (pj lw) 1 91 (.val (.ref x) :: L) S k n H Q ↔ W (pj lw) 1 92 (.val (.ref x) :: L) (.ref x :: S) k n H Q := W_s (rfl : (pj lw).1 1 91 = some (.aload_n 0, 1, 0)) rfl rfl rfl
theorem w1_92 : W (pj lw) 1 92 L S k n H Q ↔ W (pj lw) 1 94 L (.int 54 :: S) k n H Q := W_s (rfl : (pj lw).1 1 92 = some (.bipush 54, 2, 0)) rfl rfl rfl
theorem w1_94 : W (pj lw) 1 94 L (.int 54 :: S) k n H Q ↔ ((k + 1 ≤ 15 ∧ n + 54 ≤ 490) ∧ W (pj lw) 1 96 L (.ref H.1 :: S) (k + 1) (n + 54) (mkA .long 54 H) Q) := W_newarr' (rfl : (pj lw).1 1 94 = some (.newarray .long, 2, 0)) rfl (by decide) (by decide)
theorem w1_96 {a : Nat} {v : Value} : W (pj lw) 1 96 L (v :: .ref a :: S) k n H Q ↔ ((isOw H a = true ∧ okv (.array .long) v = true) ∧ W (pj lw) 1 99 L S k n (wr H a 22 v) Q) := W_putf (rfl : (pj lw).1 1 96 = some (.putfield 44, 3, 22))
theorem w1_99 {x : Nat} : W (pj lw) 1 99 (.val (.ref x) :: L) S k n H Q ↔ W (pj lw) 1 100 (.val (.ref x) :: L) (.ref x :: S) k n H Q := W_s (rfl : (pj lw).1 1 99 = some (.aload_n 0, 1, 0)) rfl rfl rfl
theorem w1_100 : W (pj lw) 1 100 L S k n H Q ↔ W (pj lw) 1 102 L (.int 9 :: S) k n H Q := W_s (rfl : (pj lw).1 1 100 = some (.bipush 9, 2, 0)) rfl rfl rfl
theorem w1_102 : W (pj lw) 1 102 L (.int 9 :: S) k n H Q ↔ ((k + 1 ≤ 15 ∧ n + 9 ≤ 490) ∧ W (pj lw) 1 104 L (.ref H.1 :: S) (k + 1) (n + 9) (mkA .int 9 H) Q) := W_newarr' (rfl : (pj lw).1 1 102 = some (.newarray .int, 2, 0)) rfl (by decide) (by decide)
theorem w1_104 {a : Nat} {v : Value} : W (pj lw) 1 104 L (v :: .ref a :: S) k n H Q ↔ ((isOw H a = true ∧ okv (.array .int) v = true) ∧ W (pj lw) 1 107 L S k n (wr H a 23 v) Q) := W_putf (rfl : (pj lw).1 1 104 = some (.putfield 47, 3, 23))
theorem w1_107 {x : Nat} : W (pj lw) 1 107 (.val (.ref x) :: L) S k n H Q ↔ W (pj lw) 1 108 (.val (.ref x) :: L) (.ref x :: S) k n H Q := W_s (rfl : (pj lw).1 1 107 = some (.aload_n 0, 1, 0)) rfl rfl rfl
theorem w1_108 : W (pj lw) 1 108 L S k n H Q ↔ W (pj lw) 1 110 L (.int 9 :: S) k n H Q := W_s (rfl : (pj lw).1 1 108 = some (.bipush 9, 2, 0)) rfl rfl rfl
theorem w1_110 : W (pj lw) 1 110 L (.int 9 :: S) k n H Q ↔ ((k + 1 ≤ 15 ∧ n + 9 ≤ 490) ∧ W (pj lw) 1 112 L (.ref H.1 :: S) (k + 1) (n + 9) (mkA .int 9 H) Q) := W_newarr' (rfl : (pj lw).1 1 110 = some (.newarray .int, 2, 0)) rfl (by decide) (by decide)
theorem w1_112 {a : Nat} {v : Value} : W (pj lw) 1 112 L (v :: .ref a :: S) k n H Q ↔ ((isOw H a = true ∧ okv (.array .int) v = true) ∧ W (pj lw) 1 115 L S k n (wr H a 24 v) Q) := W_putf (rfl : (pj lw).1 1 112 = some (.putfield 50, 3, 24))
theorem w1_115 {x : Nat} : W (pj lw) 1 115 (.val (.ref x) :: L) S k n H Q ↔ W (pj lw) 1 116 (.val (.ref x) :: L) (.ref x :: S) k n H Q := W_s (rfl : (pj lw).1 1 115 = some (.aload_n 0, 1, 0)) rfl rfl rfl
theorem w1_116 : W (pj lw) 1 116 L S k n H Q ↔ W (pj lw) 1 118 L (.int 6 :: S) k n H Q := W_s (rfl : (pj lw).1 1 116 = some (.bipush 6, 2, 0)) rfl rfl rfl
theorem w1_118 : W (pj lw) 1 118 L (.int 6 :: S) k n H Q ↔ ((k + 1 ≤ 15 ∧ n + 6 ≤ 490) ∧ W (pj lw) 1 120 L (.ref H.1 :: S) (k + 1) (n + 6) (mkA .long 6 H) Q) := W_newarr' (rfl : (pj lw).1 1 118 = some (.newarray .long, 2, 0)) rfl (by decide) (by decide)
theorem w1_120 {a : Nat} {v : Value} : W (pj lw) 1 120 L (v :: .ref a :: S) k n H Q ↔ ((isOw H a = true ∧ okv (.array .long) v = true) ∧ W (pj lw) 1 123 L S k n (wr H a 25 v) Q) := W_putf (rfl : (pj lw).1 1 120 = some (.putfield 53, 3, 25))
theorem w1_123 {x : Int32} {l0 : Slot} : W (pj lw) 1 123 (l0 :: .val (.int x) :: L) S k n H Q ↔ W (pj lw) 1 124 (l0 :: .val (.int x) :: L) (.int x :: S) k n H Q := W_s (rfl : (pj lw).1 1 123 = some (.iload_n 1, 1, 0)) rfl rfl rfl
theorem w1_124 {x : Int32} {l0 l1 l2 : Slot} : W (pj lw) 1 124 (l0 :: l1 :: l2 :: .unset :: L) (.int x :: S) k n H Q ↔ W (pj lw) 1 125 (l0 :: l1 :: l2 :: .val (.int x) :: L) S k n H Q := W_istn (rfl : (pj lw).1 1 124 = some (.istore_n 3, 1, 0)) rfl rfl
theorem w1_125 {x : Int32} {l0 l1 l2 : Slot} : W (pj lw) 1 125 (l0 :: l1 :: l2 :: .val (.int x) :: L) S k n H Q ↔ W (pj lw) 1 126 (l0 :: l1 :: l2 :: .val (.int x) :: L) (.int x :: S) k n H Q := W_s (rfl : (pj lw).1 1 125 = some (.iload_n 3, 1, 0)) rfl rfl rfl
theorem w1_126 : W (pj lw) 1 126 L S k n H Q ↔ W (pj lw) 1 127 L (.int 2 :: S) k n H Q := W_s (rfl : (pj lw).1 1 126 = some (.iconst 2, 1, 0)) rfl rfl rfl
theorem w1_127 {x y : Int32} : W (pj lw) 1 127 L (.int y :: .int x :: S) k n H Q ↔ (if x < y then W (pj lw) 1 130 L S k n H Q else W (pj lw) 1 132 L S k n H Q) := W_icmp_ge (rfl : (pj lw).1 1 127 = some (.if_icmp .ge 5, 3, 0)) rfl
theorem w1_130 : W (pj lw) 1 130 L S k n H Q ↔ W (pj lw) 1 131 L (.int 2 :: S) k n H Q := W_s (rfl : (pj lw).1 1 130 = some (.iconst 2, 1, 0)) rfl rfl rfl
theorem w1_131i {y : Int32} {x : Int32} {l0 l1 l2 : Slot} : W (pj lw) 1 131 (l0 :: l1 :: l2 :: .val (.int y) :: L) (.int x :: S) k n H Q ↔ W (pj lw) 1 132 (l0 :: l1 :: l2 :: .val (.int x) :: L) S k n H Q := W_istn (rfl : (pj lw).1 1 131 = some (.istore_n 3, 1, 0)) rfl rfl
theorem w1_132 {x : Int32} {l0 l1 l2 : Slot} : W (pj lw) 1 132 (l0 :: l1 :: l2 :: .val (.int x) :: L) S k n H Q ↔ W (pj lw) 1 133 (l0 :: l1 :: l2 :: .val (.int x) :: L) (.int x :: S) k n H Q := W_s (rfl : (pj lw).1 1 132 = some (.iload_n 3, 1, 0)) rfl rfl rfl
theorem w1_133 : W (pj lw) 1 133 L S k n H Q ↔ W (pj lw) 1 135 L (.int 6 :: S) k n H Q := W_s (rfl : (pj lw).1 1 133 = some (.bipush 6, 2, 0)) rfl rfl rfl
theorem w1_135 {x y : Int32} : W (pj lw) 1 135 L (.int y :: .int x :: S) k n H Q ↔ (if y < x then W (pj lw) 1 138 L S k n H Q else W (pj lw) 1 141 L S k n H Q) := W_icmp_le (rfl : (pj lw).1 1 135 = some (.if_icmp .le 6, 3, 0)) rfl
theorem w1_138 : W (pj lw) 1 138 L S k n H Q ↔ W (pj lw) 1 140 L (.int 6 :: S) k n H Q := W_s (rfl : (pj lw).1 1 138 = some (.bipush 6, 2, 0)) rfl rfl rfl
theorem w1_140i {y : Int32} {x : Int32} {l0 l1 l2 : Slot} : W (pj lw) 1 140 (l0 :: l1 :: l2 :: .val (.int y) :: L) (.int x :: S) k n H Q ↔ W (pj lw) 1 141 (l0 :: l1 :: l2 :: .val (.int x) :: L) S k n H Q := W_istn (rfl : (pj lw).1 1 140 = some (.istore_n 3, 1, 0)) rfl rfl
theorem w1_141 {x : Int32} {l0 l1 : Slot} : W (pj lw) 1 141 (l0 :: l1 :: .val (.int x) :: L) S k n H Q ↔ W (pj lw) 1 142 (l0 :: l1 :: .val (.int x) :: L) (.int x :: S) k n H Q := W_s (rfl : (pj lw).1 1 141 = some (.iload_n 2, 1, 0)) rfl rfl rfl
theorem w1_142 {x : Int32} {l0 l1 l2 l3 : Slot} : W (pj lw) 1 142 (l0 :: l1 :: l2 :: l3 :: .unset :: L) (.int x :: S) k n H Q ↔ W (pj lw) 1 144 (l0 :: l1 :: l2 :: l3 :: .val (.int x) :: L) S k n H Q := W_ist (rfl : (pj lw).1 1 142 = some (.istore 4, 2, 0)) rfl rfl
theorem w1_144 {x : Int32} {l0 l1 l2 l3 : Slot} : W (pj lw) 1 144 (l0 :: l1 :: l2 :: l3 :: .val (.int x) :: L) S k n H Q ↔ W (pj lw) 1 146 (l0 :: l1 :: l2 :: l3 :: .val (.int x) :: L) (.int x :: S) k n H Q := W_s (rfl : (pj lw).1 1 144 = some (.iload 4, 2, 0)) rfl rfl rfl
theorem w1_146 : W (pj lw) 1 146 L S k n H Q ↔ W (pj lw) 1 147 L (.int 1 :: S) k n H Q := W_s (rfl : (pj lw).1 1 146 = some (.iconst 1, 1, 0)) rfl rfl rfl
theorem w1_147 {x y : Int32} : W (pj lw) 1 147 L (.int y :: .int x :: S) k n H Q ↔ (if x < y then W (pj lw) 1 150 L S k n H Q else W (pj lw) 1 153 L S k n H Q) := W_icmp_ge (rfl : (pj lw).1 1 147 = some (.if_icmp .ge 6, 3, 0)) rfl
theorem w1_150 : W (pj lw) 1 150 L S k n H Q ↔ W (pj lw) 1 151 L (.int 1 :: S) k n H Q := W_s (rfl : (pj lw).1 1 150 = some (.iconst 1, 1, 0)) rfl rfl rfl
theorem w1_151i {y : Int32} {x : Int32} {l0 l1 l2 l3 : Slot} : W (pj lw) 1 151 (l0 :: l1 :: l2 :: l3 :: .val (.int y) :: L) (.int x :: S) k n H Q ↔ W (pj lw) 1 153 (l0 :: l1 :: l2 :: l3 :: .val (.int x) :: L) S k n H Q := W_ist (rfl : (pj lw).1 1 151 = some (.istore 4, 2, 0)) rfl rfl
theorem w1_153 {x : Int32} {l0 l1 l2 l3 : Slot} : W (pj lw) 1 153 (l0 :: l1 :: l2 :: l3 :: .val (.int x) :: L) S k n H Q ↔ W (pj lw) 1 155 (l0 :: l1 :: l2 :: l3 :: .val (.int x) :: L) (.int x :: S) k n H Q := W_s (rfl : (pj lw).1 1 153 = some (.iload 4, 2, 0)) rfl rfl rfl
theorem w1_155 : W (pj lw) 1 155 L S k n H Q ↔ W (pj lw) 1 157 L (.int 8 :: S) k n H Q := W_s (rfl : (pj lw).1 1 155 = some (.bipush 8, 2, 0)) rfl rfl rfl
theorem w1_157 {x y : Int32} : W (pj lw) 1 157 L (.int y :: .int x :: S) k n H Q ↔ (if y < x then W (pj lw) 1 160 L S k n H Q else W (pj lw) 1 164 L S k n H Q) := W_icmp_le (rfl : (pj lw).1 1 157 = some (.if_icmp .le 7, 3, 0)) rfl
theorem w1_160 : W (pj lw) 1 160 L S k n H Q ↔ W (pj lw) 1 162 L (.int 8 :: S) k n H Q := W_s (rfl : (pj lw).1 1 160 = some (.bipush 8, 2, 0)) rfl rfl rfl
theorem w1_162i {y : Int32} {x : Int32} {l0 l1 l2 l3 : Slot} : W (pj lw) 1 162 (l0 :: l1 :: l2 :: l3 :: .val (.int y) :: L) (.int x :: S) k n H Q ↔ W (pj lw) 1 164 (l0 :: l1 :: l2 :: l3 :: .val (.int x) :: L) S k n H Q := W_ist (rfl : (pj lw).1 1 162 = some (.istore 4, 2, 0)) rfl rfl
theorem w1_164 {x : Nat} : W (pj lw) 1 164 (.val (.ref x) :: L) S k n H Q ↔ W (pj lw) 1 165 (.val (.ref x) :: L) (.ref x :: S) k n H Q := W_s (rfl : (pj lw).1 1 164 = some (.aload_n 0, 1, 0)) rfl rfl rfl
theorem w1_165 {x : Int32} {l0 l1 l2 : Slot} : W (pj lw) 1 165 (l0 :: l1 :: l2 :: .val (.int x) :: L) S k n H Q ↔ W (pj lw) 1 166 (l0 :: l1 :: l2 :: .val (.int x) :: L) (.int x :: S) k n H Q := W_s (rfl : (pj lw).1 1 165 = some (.iload_n 3, 1, 0)) rfl rfl rfl
theorem w1_166 {a : Nat} {v : Value} : W (pj lw) 1 166 L (v :: .ref a :: S) k n H Q ↔ ((isOw H a = true ∧ okv (.int) v = true) ∧ W (pj lw) 1 169 L S k n (wr H a 0 v) Q) := W_putf (rfl : (pj lw).1 1 166 = some (.putfield 56, 3, 0))
theorem w1_169 {x : Nat} : W (pj lw) 1 169 (.val (.ref x) :: L) S k n H Q ↔ W (pj lw) 1 170 (.val (.ref x) :: L) (.ref x :: S) k n H Q := W_s (rfl : (pj lw).1 1 169 = some (.aload_n 0, 1, 0)) rfl rfl rfl
theorem w1_170 {x : Int32} {l0 l1 l2 l3 : Slot} : W (pj lw) 1 170 (l0 :: l1 :: l2 :: l3 :: .val (.int x) :: L) S k n H Q ↔ W (pj lw) 1 172 (l0 :: l1 :: l2 :: l3 :: .val (.int x) :: L) (.int x :: S) k n H Q := W_s (rfl : (pj lw).1 1 170 = some (.iload 4, 2, 0)) rfl rfl rfl
theorem w1_172 {a : Nat} {v : Value} : W (pj lw) 1 172 L (v :: .ref a :: S) k n H Q ↔ ((isOw H a = true ∧ okv (.int) v = true) ∧ W (pj lw) 1 175 L S k n (wr H a 1 v) Q) := W_putf (rfl : (pj lw).1 1 172 = some (.putfield 60, 3, 1))
theorem w1_175 {x : Nat} : W (pj lw) 1 175 (.val (.ref x) :: L) S k n H Q ↔ W (pj lw) 1 176 (.val (.ref x) :: L) (.ref x :: S) k n H Q := W_s (rfl : (pj lw).1 1 175 = some (.aload_n 0, 1, 0)) rfl rfl rfl
theorem w1_176 : W (pj lw) 1 176 L S k n H Q ↔ W (pj lw) 1 177 L (.int 0 :: S) k n H Q := W_s (rfl : (pj lw).1 1 176 = some (.iconst 0, 1, 0)) rfl rfl rfl
theorem w1_177 {a : Nat} {v : Value} : W (pj lw) 1 177 L (v :: .ref a :: S) k n H Q ↔ ((isOw H a = true ∧ okv (.int) v = true) ∧ W (pj lw) 1 180 L S k n (wr H a 3 v) Q) := W_putf (rfl : (pj lw).1 1 177 = some (.putfield 63, 3, 3))
theorem w1_180 {x : Nat} : W (pj lw) 1 180 (.val (.ref x) :: L) S k n H Q ↔ W (pj lw) 1 181 (.val (.ref x) :: L) (.ref x :: S) k n H Q := W_s (rfl : (pj lw).1 1 180 = some (.aload_n 0, 1, 0)) rfl rfl rfl
theorem w1_181 : W (pj lw) 1 181 L S k n H Q ↔ W (pj lw) 1 182 L (.int 0 :: S) k n H Q := W_s (rfl : (pj lw).1 1 181 = some (.iconst 0, 1, 0)) rfl rfl rfl
theorem w1_182 {a : Nat} {v : Value} : W (pj lw) 1 182 L (v :: .ref a :: S) k n H Q ↔ ((isOw H a = true ∧ okv (.boolean) v = true) ∧ W (pj lw) 1 185 L S k n (wr H a 10 v) Q) := W_putf (rfl : (pj lw).1 1 182 = some (.putfield 66, 3, 10))
theorem w1_185 : W (pj lw) 1 185 L [] k n H Q ↔ Q none H := W_r (rfl : (pj lw).1 1 185 = some (.return_, 1, 0)) rfl
theorem c4 {x0 : Nat} : Cl (pj lw) 4 [.ref x0] H Q ↔ W (pj lw) 4 0 [.val (.ref x0)] [] 0 0 H Q := cl_unf rfl
theorem w4_0 {x : Nat} : W (pj lw) 4 0 (.val (.ref x) :: L) S k n H Q ↔ W (pj lw) 4 1 (.val (.ref x) :: L) (.ref x :: S) k n H Q := W_s (rfl : (pj lw).1 4 0 = some (.aload_n 0, 1, 0)) rfl rfl rfl
theorem w4_1 {a : Nat} : W (pj lw) 4 1 L (.ref a :: S) k n H Q ↔ (isO H a = true ∧ W (pj lw) 4 4 L (fld H a 3 :: S) k n H Q) := W_getf (rfl : (pj lw).1 4 1 = some (.getfield 63, 3, 3))
theorem w4_4 {x : Int32} : W (pj lw) 4 4 L (.int x :: S) k n H Q ↔ Q (some (.int x)) H := W_r (rfl : (pj lw).1 4 4 = some (.ireturn, 1, 0)) rfl
theorem c10 {x0 : Nat} {x1 : Int32} : Cl (pj lw) 10 [.ref x0, .int x1] H Q ↔ W (pj lw) 10 0 [.val (.ref x0), .val (.int x1)] [] 0 0 H Q := cl_unf rfl
theorem w10_0 {x : Nat} : W (pj lw) 10 0 (.val (.ref x) :: L) S k n H Q ↔ W (pj lw) 10 1 (.val (.ref x) :: L) (.ref x :: S) k n H Q := W_s (rfl : (pj lw).1 10 0 = some (.aload_n 0, 1, 0)) rfl rfl rfl
theorem w10_1 {a : Nat} : W (pj lw) 10 1 L (.ref a :: S) k n H Q ↔ (isO H a = true ∧ W (pj lw) 10 4 L (fld H a 10 :: S) k n H Q) := W_getf (rfl : (pj lw).1 10 1 = some (.getfield 66, 3, 10))
theorem w10_4 {x : Int32} : W (pj lw) 10 4 L (.int x :: S) k n H Q ↔ (if x = 0 then W (pj lw) 10 25 L S k n H Q else W (pj lw) 10 7 L S k n H Q) := W_if_eq (rfl : (pj lw).1 10 4 = some (.ifCond .eq 21, 3, 0)) rfl
theorem w10_7 {x : Int32} {l0 : Slot} : W (pj lw) 10 7 (l0 :: .val (.int x) :: L) S k n H Q ↔ W (pj lw) 10 8 (l0 :: .val (.int x) :: L) (.int x :: S) k n H Q := W_s (rfl : (pj lw).1 10 7 = some (.iload_n 1, 1, 0)) rfl rfl rfl
theorem w10_8 {x : Int32} : W (pj lw) 10 8 L (.int x :: S) k n H Q ↔ (if x < 0 then W (pj lw) 10 25 L S k n H Q else W (pj lw) 10 11 L S k n H Q) := W_if_lt (rfl : (pj lw).1 10 8 = some (.ifCond .lt 17, 3, 0)) rfl
theorem w10_11 {x : Int32} {l0 : Slot} : W (pj lw) 10 11 (l0 :: .val (.int x) :: L) S k n H Q ↔ W (pj lw) 10 12 (l0 :: .val (.int x) :: L) (.int x :: S) k n H Q := W_s (rfl : (pj lw).1 10 11 = some (.iload_n 1, 1, 0)) rfl rfl rfl
theorem w10_12 {x : Nat} : W (pj lw) 10 12 (.val (.ref x) :: L) S k n H Q ↔ W (pj lw) 10 13 (.val (.ref x) :: L) (.ref x :: S) k n H Q := W_s (rfl : (pj lw).1 10 12 = some (.aload_n 0, 1, 0)) rfl rfl rfl
theorem w10_13 {a : Nat} : W (pj lw) 10 13 L (.ref a :: S) k n H Q ↔ (isO H a = true ∧ W (pj lw) 10 16 L (fld H a 13 :: S) k n H Q) := W_getf (rfl : (pj lw).1 10 13 = some (.getfield 93, 3, 13))
theorem w10_16 {x y : Int32} : W (pj lw) 10 16 L (.int y :: .int x :: S) k n H Q ↔ (if x < y then W (pj lw) 10 19 L S k n H Q else W (pj lw) 10 25 L S k n H Q) := W_icmp_ge (rfl : (pj lw).1 10 16 = some (.if_icmp .ge 9, 3, 0)) rfl
theorem w10_19 {x : Int32} {l0 : Slot} : W (pj lw) 10 19 (l0 :: .val (.int x) :: L) S k n H Q ↔ W (pj lw) 10 20 (l0 :: .val (.int x) :: L) (.int x :: S) k n H Q := W_s (rfl : (pj lw).1 10 19 = some (.iload_n 1, 1, 0)) rfl rfl rfl
theorem w10_20 : W (pj lw) 10 20 L S k n H Q ↔ W (pj lw) 10 22 L (.int 8 :: S) k n H Q := W_s (rfl : (pj lw).1 10 20 = some (.bipush 8, 2, 0)) rfl rfl rfl
theorem w10_22 {x y : Int32} : W (pj lw) 10 22 L (.int y :: .int x :: S) k n H Q ↔ (if x < y then W (pj lw) 10 27 L S k n H Q else W (pj lw) 10 25 L S k n H Q) := W_icmp_lt (rfl : (pj lw).1 10 22 = some (.if_icmp .lt 5, 3, 0)) rfl
theorem w10_25 : W (pj lw) 10 25 L S k n H Q ↔ W (pj lw) 10 26 L (.int (-1) :: S) k n H Q := W_s (rfl : (pj lw).1 10 25 = some (.iconst (-1), 1, 0)) rfl rfl rfl
theorem w10_26 {x : Int32} : W (pj lw) 10 26 L (.int x :: S) k n H Q ↔ Q (some (.int x)) H := W_r (rfl : (pj lw).1 10 26 = some (.ireturn, 1, 0)) rfl
theorem w10_27 {x : Nat} : W (pj lw) 10 27 (.val (.ref x) :: L) S k n H Q ↔ W (pj lw) 10 28 (.val (.ref x) :: L) (.ref x :: S) k n H Q := W_s (rfl : (pj lw).1 10 27 = some (.aload_n 0, 1, 0)) rfl rfl rfl
theorem w10_28 {a : Nat} : W (pj lw) 10 28 L (.ref a :: S) k n H Q ↔ (isO H a = true ∧ W (pj lw) 10 31 L (fld H a 14 :: S) k n H Q) := W_getf (rfl : (pj lw).1 10 28 = some (.getfield 19, 3, 14))
theorem w10_31 {x : Int32} {l0 : Slot} : W (pj lw) 10 31 (l0 :: .val (.int x) :: L) S k n H Q ↔ W (pj lw) 10 32 (l0 :: .val (.int x) :: L) (.int x :: S) k n H Q := W_s (rfl : (pj lw).1 10 31 = some (.iload_n 1, 1, 0)) rfl rfl rfl
theorem w10_32 {i : Int32} {a : Nat} : W (pj lw) 10 32 L (.int i :: .ref a :: S) k n H Q ↔ (inA H a .int i = true ∧ W (pj lw) 10 33 L (elt H a i :: S) k n H Q) := W_iaload (rfl : (pj lw).1 10 32 = some (.iaload, 1, 0))
theorem w10_33 {x : Int32} : W (pj lw) 10 33 L (.int x :: S) k n H Q ↔ Q (some (.int x)) H := W_r (rfl : (pj lw).1 10 33 = some (.ireturn, 1, 0)) rfl
theorem c14 {x0 : Nat} {x1 : Int32} {x2 : Int32} : Cl (pj lw) 14 [.ref x0, .int x1, .int x2] H Q ↔ W (pj lw) 14 0 [.val (.ref x0), .val (.int x1), .val (.int x2)] [] 0 0 H Q := cl_unf rfl
theorem w14_0 {x : Nat} : W (pj lw) 14 0 (.val (.ref x) :: L) S k n H Q ↔ W (pj lw) 14 1 (.val (.ref x) :: L) (.ref x :: S) k n H Q := W_s (rfl : (pj lw).1 14 0 = some (.aload_n 0, 1, 0)) rfl rfl rfl
theorem w14_1 {x : Int32} {l0 : Slot} : W (pj lw) 14 1 (l0 :: .val (.int x) :: L) S k n H Q ↔ W (pj lw) 14 2 (l0 :: .val (.int x) :: L) (.int x :: S) k n H Q := W_s (rfl : (pj lw).1 14 1 = some (.iload_n 1, 1, 0)) rfl rfl rfl
theorem w14_2 {a : Nat} {x0 : Int32} : W (pj lw) 14 2 L (.int x0 :: .ref a :: S) k n H Q ↔ ((isO H a = true ∧ cs S + (2 + 11) + 0 ≤ 13) ∧ Cl (pj lw) 18 [.ref a, .int x0] H (fun v H => W (pj lw) 14 5 L (v.toList ++ S) k n H Q)) := W_inst (as := [.int x0]) (rfl : (pj lw).1 14 2 = some (.invokevirtual 112, 3, 18)) rfl rfl rfl (Nat.le_of_ble_eq_true rfl) (Nat.le_of_ble_eq_true rfl) ⟨rfl, rfl⟩
theorem w14_5 {x : Int32} : W (pj lw) 14 5 L (.int x :: S) k n H Q ↔ (if x = 0 then W (pj lw) 14 8 L S k n H Q else W (pj lw) 14 10 L S k n H Q) := W_if_ne (rfl : (pj lw).1 14 5 = some (.ifCond .ne 5, 3, 0)) rfl
theorem w14_8 : W (pj lw) 14 8 L S k n H Q ↔ W (pj lw) 14 9 L (.int 0 :: S) k n H Q := W_s (rfl : (pj lw).1 14 8 = some (.iconst 0, 1, 0)) rfl rfl rfl
theorem w14_9 {x : Int32} : W (pj lw) 14 9 L (.int x :: S) k n H Q ↔ ((x = 0 ∨ x = 1) ∧ Q (some (.int x)) H) := W_rz (rfl : (pj lw).1 14 9 = some (.ireturn, 1, 0)) rfl
theorem w14_10 {x : Int32} {l0 l1 : Slot} : W (pj lw) 14 10 (l0 :: l1 :: .val (.int x) :: L) S k n H Q ↔ W (pj lw) 14 11 (l0 :: l1 :: .val (.int x) :: L) (.int x :: S) k n H Q := W_s (rfl : (pj lw).1 14 10 = some (.iload_n 2, 1, 0)) rfl rfl rfl
theorem w14_11 {x : Int32} : W (pj lw) 14 11 L (.int x :: S) k n H Q ↔ (if x < 0 then W (pj lw) 14 20 L S k n H Q else W (pj lw) 14 14 L S k n H Q) := W_if_lt (rfl : (pj lw).1 14 11 = some (.ifCond .lt 9, 3, 0)) rfl
theorem w14_14 {x : Int32} {l0 l1 : Slot} : W (pj lw) 14 14 (l0 :: l1 :: .val (.int x) :: L) S k n H Q ↔ W (pj lw) 14 15 (l0 :: l1 :: .val (.int x) :: L) (.int x :: S) k n H Q := W_s (rfl : (pj lw).1 14 14 = some (.iload_n 2, 1, 0)) rfl rfl rfl
theorem w14_15 : W (pj lw) 14 15 L S k n H Q ↔ W (pj lw) 14 17 L (.int 100000 :: S) k n H Q := W_s (rfl : (pj lw).1 14 15 = some (.ldc 115, 2, 100000)) rfl rfl rfl
theorem w14_17 {x y : Int32} : W (pj lw) 14 17 L (.int y :: .int x :: S) k n H Q ↔ (if y < x then W (pj lw) 14 20 L S k n H Q else W (pj lw) 14 22 L S k n H Q) := W_icmp_le (rfl : (pj lw).1 14 17 = some (.if_icmp .le 5, 3, 0)) rfl
theorem w14_20 : W (pj lw) 14 20 L S k n H Q ↔ W (pj lw) 14 21 L (.int 0 :: S) k n H Q := W_s (rfl : (pj lw).1 14 20 = some (.iconst 0, 1, 0)) rfl rfl rfl
theorem w14_21 {x : Int32} : W (pj lw) 14 21 L (.int x :: S) k n H Q ↔ ((x = 0 ∨ x = 1) ∧ Q (some (.int x)) H) := W_rz (rfl : (pj lw).1 14 21 = some (.ireturn, 1, 0)) rfl
theorem w14_22 {x : Nat} : W (pj lw) 14 22 (.val (.ref x) :: L) S k n H Q ↔ W (pj lw) 14 23 (.val (.ref x) :: L) (.ref x :: S) k n H Q := W_s (rfl : (pj lw).1 14 22 = some (.aload_n 0, 1, 0)) rfl rfl rfl
theorem w14_23 {a : Nat} : W (pj lw) 14 23 L (.ref a :: S) k n H Q ↔ (isO H a = true ∧ W (pj lw) 14 26 L (fld H a 18 :: S) k n H Q) := W_getf (rfl : (pj lw).1 14 23 = some (.getfield 32, 3, 18))
theorem w14_26 {x : Int32} {l0 : Slot} : W (pj lw) 14 26 (l0 :: .val (.int x) :: L) S k n H Q ↔ W (pj lw) 14 27 (l0 :: .val (.int x) :: L) (.int x :: S) k n H Q := W_s (rfl : (pj lw).1 14 26 = some (.iload_n 1, 1, 0)) rfl rfl rfl
theorem w14_27 {x : Int32} {l0 l1 : Slot} : W (pj lw) 14 27 (l0 :: l1 :: .val (.int x) :: L) S k n H Q ↔ W (pj lw) 14 28 (l0 :: l1 :: .val (.int x) :: L) (.int x :: S) k n H Q := W_s (rfl : (pj lw).1 14 27 = some (.iload_n 2, 1, 0)) rfl rfl rfl
theorem w14_28 {x : Int32} : W (pj lw) 14 28 L (.int x :: S) k n H Q ↔ W (pj lw) 14 29 L (.long x.toInt64 :: S) k n H Q := W_s (rfl : (pj lw).1 14 28 = some (.i2l, 1, 0)) rfl rfl rfl
theorem w14_29 {x : Int64} {i : Int32} {a : Nat} : W (pj lw) 14 29 L (.long x :: .int i :: .ref a :: S) k n H Q ↔ (inAw H a .long i = true ∧ W (pj lw) 14 30 L S k n (wr H a i.toNatClampNeg (.long x)) Q) := W_lastore (rfl : (pj lw).1 14 29 = some (.lastore, 1, 0))
theorem w14_30 : W (pj lw) 14 30 L S k n H Q ↔ W (pj lw) 14 31 L (.int 1 :: S) k n H Q := W_s (rfl : (pj lw).1 14 30 = some (.iconst 1, 1, 0)) rfl rfl rfl
theorem w14_31 {x : Int32} : W (pj lw) 14 31 L (.int x :: S) k n H Q ↔ ((x = 0 ∨ x = 1) ∧ Q (some (.int x)) H) := W_rz (rfl : (pj lw).1 14 31 = some (.ireturn, 1, 0)) rfl
theorem c15 {x0 : Nat} {x1 : Int32} : Cl (pj lw) 15 [.ref x0, .int x1] H Q ↔ W (pj lw) 15 0 [.val (.ref x0), .val (.int x1), .unset, .unset, .unset, .unset, .unset] [] 0 0 H Q := cl_unf rfl
theorem w15_0 {x : Nat} : W (pj lw) 15 0 (.val (.ref x) :: L) S k n H Q ↔ W (pj lw) 15 1 (.val (.ref x) :: L) (.ref x :: S) k n H Q := W_s (rfl : (pj lw).1 15 0 = some (.aload_n 0, 1, 0)) rfl rfl rfl
theorem w15_1 {a : Nat} : W (pj lw) 15 1 L (.ref a :: S) k n H Q ↔ (isO H a = true ∧ W (pj lw) 15 4 L (fld H a 10 :: S) k n H Q) := W_getf (rfl : (pj lw).1 15 1 = some (.getfield 66, 3, 10))
theorem w15_4 {x : Int32} : W (pj lw) 15 4 L (.int x :: S) k n H Q ↔ (if x = 0 then W (pj lw) 15 7 L S k n H Q else W (pj lw) 15 9 L S k n H Q) := W_if_ne (rfl : (pj lw).1 15 4 = some (.ifCond .ne 5, 3, 0)) rfl
theorem w15_7 : W (pj lw) 15 7 L S k n H Q ↔ W (pj lw) 15 8 L (.long 0 :: S) k n H Q := W_s (rfl : (pj lw).1 15 7 = some (.lconst 0, 1, 0)) rfl rfl rfl
theorem w15_8 {x : Int64} : W (pj lw) 15 8 L (.long x :: S) k n H Q ↔ Q (some (.long x)) H := W_r (rfl : (pj lw).1 15 8 = some (.lreturn, 1, 0)) rfl
theorem w15_9 {x : Int32} {l0 : Slot} : W (pj lw) 15 9 (l0 :: .val (.int x) :: L) S k n H Q ↔ W (pj lw) 15 10 (l0 :: .val (.int x) :: L) (.int x :: S) k n H Q := W_s (rfl : (pj lw).1 15 9 = some (.iload_n 1, 1, 0)) rfl rfl rfl
theorem w15_10 {x : Int32} : W (pj lw) 15 10 L (.int x :: S) k n H Q ↔ W (pj lw) 15 11 L (.long x.toInt64 :: S) k n H Q := W_s (rfl : (pj lw).1 15 10 = some (.i2l, 1, 0)) rfl rfl rfl
theorem w15_11uu {x : Int64} {l0 l1 : Slot} : W (pj lw) 15 11 (l0 :: l1 :: .unset :: .unset :: L) (.long x :: S) k n H Q ↔ W (pj lw) 15 12 (l0 :: l1 :: .val (.long x) :: .second :: L) S k n H Q := W_lstn (rfl : (pj lw).1 15 11 = some (.lstore_n 2, 1, 0)) rfl rfl rfl rfl
theorem w15_12 {x : Int64} {l0 l1 : Slot} : W (pj lw) 15 12 (l0 :: l1 :: .val (.long x) :: L) S k n H Q ↔ W (pj lw) 15 13 (l0 :: l1 :: .val (.long x) :: L) (.long x :: S) k n H Q := W_s (rfl : (pj lw).1 15 12 = some (.lload_n 2, 1, 0)) rfl rfl rfl
theorem w15_13 : W (pj lw) 15 13 L S k n H Q ↔ W (pj lw) 15 14 L (.long 0 :: S) k n H Q := W_s (rfl : (pj lw).1 15 13 = some (.lconst 0, 1, 0)) rfl rfl rfl
theorem w15_14 {x y : Int64} : W (pj lw) 15 14 L (.long y :: .long x :: S) k n H Q ↔ W (pj lw) 15 15 L (.int (Jvm.Free.XT.cmpL x y) :: S) k n H Q := W_s (rfl : (pj lw).1 15 14 = some (.lcmp, 1, 0)) rfl rfl rfl
theorem w15_15 {x : Int32} : W (pj lw) 15 15 L (.int x :: S) k n H Q ↔ (if x < 0 then W (pj lw) 15 18 L S k n H Q else W (pj lw) 15 20 L S k n H Q) := W_if_ge (rfl : (pj lw).1 15 15 = some (.ifCond .ge 5, 3, 0)) rfl
theorem w15_18 : W (pj lw) 15 18 L S k n H Q ↔ W (pj lw) 15 19 L (.long 0 :: S) k n H Q := W_s (rfl : (pj lw).1 15 18 = some (.lconst 0, 1, 0)) rfl rfl rfl
theorem w15_19j {x y : Int64} {l0 l1 : Slot} : W (pj lw) 15 19 (l0 :: l1 :: .val (.long y) :: .second :: L) (.long x :: S) k n H Q ↔ W (pj lw) 15 20 (l0 :: l1 :: .val (.long x) :: .second :: L) S k n H Q := W_lstn' (rfl : (pj lw).1 15 19 = some (.lstore_n 2, 1, 0)) rfl rfl
theorem w15_20 {x : Int64} {l0 l1 : Slot} : W (pj lw) 15 20 (l0 :: l1 :: .val (.long x) :: L) S k n H Q ↔ W (pj lw) 15 21 (l0 :: l1 :: .val (.long x) :: L) (.long x :: S) k n H Q := W_s (rfl : (pj lw).1 15 20 = some (.lload_n 2, 1, 0)) rfl rfl rfl
theorem w15_21 : W (pj lw) 15 21 L S k n H Q ↔ W (pj lw) 15 24 L (.long 100000 :: S) k n H Q := W_s (rfl : (pj lw).1 15 21 = some (.ldc2_w 116, 3, 100000)) rfl rfl rfl
theorem w15_24 {x y : Int64} : W (pj lw) 15 24 L (.long y :: .long x :: S) k n H Q ↔ W (pj lw) 15 25 L (.int (Jvm.Free.XT.cmpL x y) :: S) k n H Q := W_s (rfl : (pj lw).1 15 24 = some (.lcmp, 1, 0)) rfl rfl rfl
theorem w15_25 {x : Int32} : W (pj lw) 15 25 L (.int x :: S) k n H Q ↔ (if 0 < x then W (pj lw) 15 28 L S k n H Q else W (pj lw) 15 32 L S k n H Q) := W_if_le (rfl : (pj lw).1 15 25 = some (.ifCond .le 7, 3, 0)) rfl
theorem w15_28 : W (pj lw) 15 28 L S k n H Q ↔ W (pj lw) 15 31 L (.long 100000 :: S) k n H Q := W_s (rfl : (pj lw).1 15 28 = some (.ldc2_w 116, 3, 100000)) rfl rfl rfl
theorem w15_31j {x y : Int64} {l0 l1 : Slot} : W (pj lw) 15 31 (l0 :: l1 :: .val (.long y) :: .second :: L) (.long x :: S) k n H Q ↔ W (pj lw) 15 32 (l0 :: l1 :: .val (.long x) :: .second :: L) S k n H Q := W_lstn' (rfl : (pj lw).1 15 31 = some (.lstore_n 2, 1, 0)) rfl rfl
theorem w15_32 : W (pj lw) 15 32 L S k n H Q ↔ W (pj lw) 15 33 L (.int 0 :: S) k n H Q := W_s (rfl : (pj lw).1 15 32 = some (.iconst 0, 1, 0)) rfl rfl rfl
theorem w15_33 {x : Int32} {l0 l1 l2 l3 : Slot} : W (pj lw) 15 33 (l0 :: l1 :: l2 :: l3 :: .unset :: L) (.int x :: S) k n H Q ↔ W (pj lw) 15 35 (l0 :: l1 :: l2 :: l3 :: .val (.int x) :: L) S k n H Q := W_ist (rfl : (pj lw).1 15 33 = some (.istore 4, 2, 0)) rfl rfl
theorem w15_35 {x : Int32} {l0 l1 l2 l3 : Slot} : W (pj lw) 15 35 (l0 :: l1 :: l2 :: l3 :: .val (.int x) :: L) S k n H Q ↔ W (pj lw) 15 37 (l0 :: l1 :: l2 :: l3 :: .val (.int x) :: L) (.int x :: S) k n H Q := W_s (rfl : (pj lw).1 15 35 = some (.iload 4, 2, 0)) rfl rfl rfl
theorem w15_37 {x : Nat} : W (pj lw) 15 37 (.val (.ref x) :: L) S k n H Q ↔ W (pj lw) 15 38 (.val (.ref x) :: L) (.ref x :: S) k n H Q := W_s (rfl : (pj lw).1 15 37 = some (.aload_n 0, 1, 0)) rfl rfl rfl
theorem w15_38 {a : Nat} : W (pj lw) 15 38 L (.ref a :: S) k n H Q ↔ (isO H a = true ∧ W (pj lw) 15 41 L (fld H a 12 :: S) k n H Q) := W_getf (rfl : (pj lw).1 15 38 = some (.getfield 90, 3, 12))
theorem w15_41 {x y : Int32} : W (pj lw) 15 41 L (.int y :: .int x :: S) k n H Q ↔ (if x < y then W (pj lw) 15 44 L S k n H Q else W (pj lw) 15 75 L S k n H Q) := W_icmp_ge (rfl : (pj lw).1 15 41 = some (.if_icmp .ge 34, 3, 0)) rfl
theorem w15_44 {x : Int32} {l0 l1 l2 l3 : Slot} : W (pj lw) 15 44 (l0 :: l1 :: l2 :: l3 :: .val (.int x) :: L) S k n H Q ↔ W (pj lw) 15 46 (l0 :: l1 :: l2 :: l3 :: .val (.int x) :: L) (.int x :: S) k n H Q := W_s (rfl : (pj lw).1 15 44 = some (.iload 4, 2, 0)) rfl rfl rfl
theorem w15_46 : W (pj lw) 15 46 L S k n H Q ↔ W (pj lw) 15 48 L (.int 6 :: S) k n H Q := W_s (rfl : (pj lw).1 15 46 = some (.bipush 6, 2, 0)) rfl rfl rfl
theorem w15_48 {x y : Int32} : W (pj lw) 15 48 L (.int y :: .int x :: S) k n H Q ↔ (if x < y then W (pj lw) 15 51 L S k n H Q else W (pj lw) 15 75 L S k n H Q) := W_icmp_ge (rfl : (pj lw).1 15 48 = some (.if_icmp .ge 27, 3, 0)) rfl
theorem w15_51 {x : Nat} : W (pj lw) 15 51 (.val (.ref x) :: L) S k n H Q ↔ W (pj lw) 15 52 (.val (.ref x) :: L) (.ref x :: S) k n H Q := W_s (rfl : (pj lw).1 15 51 = some (.aload_n 0, 1, 0)) rfl rfl rfl
theorem w15_52 {x : Int32} {l0 l1 l2 l3 : Slot} : W (pj lw) 15 52 (l0 :: l1 :: l2 :: l3 :: .val (.int x) :: L) S k n H Q ↔ W (pj lw) 15 54 (l0 :: l1 :: l2 :: l3 :: .val (.int x) :: L) (.int x :: S) k n H Q := W_s (rfl : (pj lw).1 15 52 = some (.iload 4, 2, 0)) rfl rfl rfl
theorem w15_57j {x y : Int64} {l0 l1 l2 l3 l4 : Slot} : W (pj lw) 15 57 (l0 :: l1 :: l2 :: l3 :: l4 :: .val (.long y) :: .second :: L) (.long x :: S) k n H Q ↔ W (pj lw) 15 59 (l0 :: l1 :: l2 :: l3 :: l4 :: .val (.long x) :: .second :: L) S k n H Q := W_lst' (rfl : (pj lw).1 15 57 = some (.lstore 5, 2, 0)) rfl rfl
theorem w15_57uu {x : Int64} {l0 l1 l2 l3 l4 : Slot} : W (pj lw) 15 57 (l0 :: l1 :: l2 :: l3 :: l4 :: .unset :: .unset :: L) (.long x :: S) k n H Q ↔ W (pj lw) 15 59 (l0 :: l1 :: l2 :: l3 :: l4 :: .val (.long x) :: .second :: L) S k n H Q := W_lst (rfl : (pj lw).1 15 57 = some (.lstore 5, 2, 0)) rfl rfl rfl rfl
theorem w15_59 {x : Int64} {l0 l1 l2 l3 l4 : Slot} : W (pj lw) 15 59 (l0 :: l1 :: l2 :: l3 :: l4 :: .val (.long x) :: L) S k n H Q ↔ W (pj lw) 15 61 (l0 :: l1 :: l2 :: l3 :: l4 :: .val (.long x) :: L) (.long x :: S) k n H Q := W_s (rfl : (pj lw).1 15 59 = some (.lload 5, 2, 0)) rfl rfl rfl
theorem w15_61 {x : Int64} {l0 l1 : Slot} : W (pj lw) 15 61 (l0 :: l1 :: .val (.long x) :: L) S k n H Q ↔ W (pj lw) 15 62 (l0 :: l1 :: .val (.long x) :: L) (.long x :: S) k n H Q := W_s (rfl : (pj lw).1 15 61 = some (.lload_n 2, 1, 0)) rfl rfl rfl
theorem w15_62 {x y : Int64} : W (pj lw) 15 62 L (.long y :: .long x :: S) k n H Q ↔ W (pj lw) 15 63 L (.int (Jvm.Free.XT.cmpL x y) :: S) k n H Q := W_s (rfl : (pj lw).1 15 62 = some (.lcmp, 1, 0)) rfl rfl rfl
theorem w15_63 {x : Int32} : W (pj lw) 15 63 L (.int x :: S) k n H Q ↔ (if x < 0 then W (pj lw) 15 66 L S k n H Q else W (pj lw) 15 69 L S k n H Q) := W_if_ge (rfl : (pj lw).1 15 63 = some (.ifCond .ge 6, 3, 0)) rfl
theorem w15_66 {x : Int64} {l0 l1 l2 l3 l4 : Slot} : W (pj lw) 15 66 (l0 :: l1 :: l2 :: l3 :: l4 :: .val (.long x) :: L) S k n H Q ↔ W (pj lw) 15 68 (l0 :: l1 :: l2 :: l3 :: l4 :: .val (.long x) :: L) (.long x :: S) k n H Q := W_s (rfl : (pj lw).1 15 66 = some (.lload 5, 2, 0)) rfl rfl rfl
theorem w15_68j {x y : Int64} {l0 l1 : Slot} : W (pj lw) 15 68 (l0 :: l1 :: .val (.long y) :: .second :: L) (.long x :: S) k n H Q ↔ W (pj lw) 15 69 (l0 :: l1 :: .val (.long x) :: .second :: L) S k n H Q := W_lstn' (rfl : (pj lw).1 15 68 = some (.lstore_n 2, 1, 0)) rfl rfl
theorem w15_69 {x : Int32} {l0 l1 l2 l3 : Slot} : W (pj lw) 15 69 (l0 :: l1 :: l2 :: l3 :: .val (.int x) :: L) S k n H Q ↔ W (pj lw) 15 72 (l0 :: l1 :: l2 :: l3 :: .val (.int (x + 1)) :: L) S k n H Q := W_s (rfl : (pj lw).1 15 69 = some (.iinc 4 1, 3, 0)) rfl rfl rfl
theorem w15_72 : W (pj lw) 15 72 L S k n H Q ↔ W (pj lw) 15 35 L S k n H Q := W_goto (rfl : (pj lw).1 15 72 = some (.goto (-37), 3, 0)) rfl
theorem w15_75 : W (pj lw) 15 75 L S k n H Q ↔ W (pj lw) 15 76 L (.int 0 :: S) k n H Q := W_s (rfl : (pj lw).1 15 75 = some (.iconst 0, 1, 0)) rfl rfl rfl
theorem w15_76i {y : Int32} {x : Int32} {l0 l1 l2 l3 : Slot} : W (pj lw) 15 76 (l0 :: l1 :: l2 :: l3 :: .val (.int y) :: L) (.int x :: S) k n H Q ↔ W (pj lw) 15 78 (l0 :: l1 :: l2 :: l3 :: .val (.int x) :: L) S k n H Q := W_ist (rfl : (pj lw).1 15 76 = some (.istore 4, 2, 0)) rfl rfl
theorem w15_78 {x : Int32} {l0 l1 l2 l3 : Slot} : W (pj lw) 15 78 (l0 :: l1 :: l2 :: l3 :: .val (.int x) :: L) S k n H Q ↔ W (pj lw) 15 80 (l0 :: l1 :: l2 :: l3 :: .val (.int x) :: L) (.int x :: S) k n H Q := W_s (rfl : (pj lw).1 15 78 = some (.iload 4, 2, 0)) rfl rfl rfl
theorem w15_80 {x : Nat} : W (pj lw) 15 80 (.val (.ref x) :: L) S k n H Q ↔ W (pj lw) 15 81 (.val (.ref x) :: L) (.ref x :: S) k n H Q := W_s (rfl : (pj lw).1 15 80 = some (.aload_n 0, 1, 0)) rfl rfl rfl
theorem w15_81 {a : Nat} : W (pj lw) 15 81 L (.ref a :: S) k n H Q ↔ (isO H a = true ∧ W (pj lw) 15 84 L (fld H a 11 :: S) k n H Q) := W_getf (rfl : (pj lw).1 15 81 = some (.getfield 84, 3, 11))
theorem w15_84 {x y : Int32} : W (pj lw) 15 84 L (.int y :: .int x :: S) k n H Q ↔ (if x < y then W (pj lw) 15 87 L S k n H Q else W (pj lw) 15 147 L S k n H Q) := W_icmp_ge (rfl : (pj lw).1 15 84 = some (.if_icmp .ge 63, 3, 0)) rfl
theorem w15_87 {x : Int32} {l0 l1 l2 l3 : Slot} : W (pj lw) 15 87 (l0 :: l1 :: l2 :: l3 :: .val (.int x) :: L) S k n H Q ↔ W (pj lw) 15 89 (l0 :: l1 :: l2 :: l3 :: .val (.int x) :: L) (.int x :: S) k n H Q := W_s (rfl : (pj lw).1 15 87 = some (.iload 4, 2, 0)) rfl rfl rfl
theorem w15_89 : W (pj lw) 15 89 L S k n H Q ↔ W (pj lw) 15 91 L (.int 6 :: S) k n H Q := W_s (rfl : (pj lw).1 15 89 = some (.bipush 6, 2, 0)) rfl rfl rfl
theorem w15_91 {x y : Int32} : W (pj lw) 15 91 L (.int y :: .int x :: S) k n H Q ↔ (if x < y then W (pj lw) 15 94 L S k n H Q else W (pj lw) 15 147 L S k n H Q) := W_icmp_ge (rfl : (pj lw).1 15 91 = some (.if_icmp .ge 56, 3, 0)) rfl
theorem w15_94 {x : Int64} {l0 l1 : Slot} : W (pj lw) 15 94 (l0 :: l1 :: .val (.long x) :: L) S k n H Q ↔ W (pj lw) 15 95 (l0 :: l1 :: .val (.long x) :: L) (.long x :: S) k n H Q := W_s (rfl : (pj lw).1 15 94 = some (.lload_n 2, 1, 0)) rfl rfl rfl
theorem w15_95 {x : Nat} : W (pj lw) 15 95 (.val (.ref x) :: L) S k n H Q ↔ W (pj lw) 15 96 (.val (.ref x) :: L) (.ref x :: S) k n H Q := W_s (rfl : (pj lw).1 15 95 = some (.aload_n 0, 1, 0)) rfl rfl rfl
theorem w15_96 {a : Nat} : W (pj lw) 15 96 L (.ref a :: S) k n H Q ↔ (isO H a = true ∧ W (pj lw) 15 99 L (fld H a 17 :: S) k n H Q) := W_getf (rfl : (pj lw).1 15 96 = some (.getfield 28, 3, 17))
theorem w15_99 {x : Int32} {l0 l1 l2 l3 : Slot} : W (pj lw) 15 99 (l0 :: l1 :: l2 :: l3 :: .val (.int x) :: L) S k n H Q ↔ W (pj lw) 15 101 (l0 :: l1 :: l2 :: l3 :: .val (.int x) :: L) (.int x :: S) k n H Q := W_s (rfl : (pj lw).1 15 99 = some (.iload 4, 2, 0)) rfl rfl rfl
theorem w15_101 {i : Int32} {a : Nat} : W (pj lw) 15 101 L (.int i :: .ref a :: S) k n H Q ↔ (inA H a .long i = true ∧ W (pj lw) 15 102 L (elt H a i :: S) k n H Q) := W_laload (rfl : (pj lw).1 15 101 = some (.laload, 1, 0))
theorem w15_102 {x y : Int64} : W (pj lw) 15 102 L (.long y :: .long x :: S) k n H Q ↔ W (pj lw) 15 103 L (.long (x * y) :: S) k n H Q := W_s (rfl : (pj lw).1 15 102 = some (.lmul, 1, 0)) rfl rfl rfl
theorem w15_103j {x y : Int64} {l0 l1 l2 l3 l4 : Slot} : W (pj lw) 15 103 (l0 :: l1 :: l2 :: l3 :: l4 :: .val (.long y) :: .second :: L) (.long x :: S) k n H Q ↔ W (pj lw) 15 105 (l0 :: l1 :: l2 :: l3 :: l4 :: .val (.long x) :: .second :: L) S k n H Q := W_lst' (rfl : (pj lw).1 15 103 = some (.lstore 5, 2, 0)) rfl rfl
theorem w15_103uu {x : Int64} {l0 l1 l2 l3 l4 : Slot} : W (pj lw) 15 103 (l0 :: l1 :: l2 :: l3 :: l4 :: .unset :: .unset :: L) (.long x :: S) k n H Q ↔ W (pj lw) 15 105 (l0 :: l1 :: l2 :: l3 :: l4 :: .val (.long x) :: .second :: L) S k n H Q := W_lst (rfl : (pj lw).1 15 103 = some (.lstore 5, 2, 0)) rfl rfl rfl rfl
theorem w15_105 {x : Int32} {l0 l1 l2 l3 : Slot} : W (pj lw) 15 105 (l0 :: l1 :: l2 :: l3 :: .val (.int x) :: L) S k n H Q ↔ W (pj lw) 15 107 (l0 :: l1 :: l2 :: l3 :: .val (.int x) :: L) (.int x :: S) k n H Q := W_s (rfl : (pj lw).1 15 105 = some (.iload 4, 2, 0)) rfl rfl rfl
theorem w15_107 {x : Nat} : W (pj lw) 15 107 (.val (.ref x) :: L) S k n H Q ↔ W (pj lw) 15 108 (.val (.ref x) :: L) (.ref x :: S) k n H Q := W_s (rfl : (pj lw).1 15 107 = some (.aload_n 0, 1, 0)) rfl rfl rfl
theorem w15_108 {a : Nat} : W (pj lw) 15 108 L (.ref a :: S) k n H Q ↔ (isO H a = true ∧ W (pj lw) 15 111 L (fld H a 12 :: S) k n H Q) := W_getf (rfl : (pj lw).1 15 108 = some (.getfield 90, 3, 12))
theorem w15_111 {x y : Int32} : W (pj lw) 15 111 L (.int y :: .int x :: S) k n H Q ↔ (if x < y then W (pj lw) 15 114 L S k n H Q else W (pj lw) 15 129 L S k n H Q) := W_icmp_ge (rfl : (pj lw).1 15 111 = some (.if_icmp .ge 18, 3, 0)) rfl
theorem w15_114 {x : Nat} : W (pj lw) 15 114 (.val (.ref x) :: L) S k n H Q ↔ W (pj lw) 15 115 (.val (.ref x) :: L) (.ref x :: S) k n H Q := W_s (rfl : (pj lw).1 15 114 = some (.aload_n 0, 1, 0)) rfl rfl rfl
theorem w15_115 {a : Nat} : W (pj lw) 15 115 L (.ref a :: S) k n H Q ↔ (isO H a = true ∧ W (pj lw) 15 118 L (fld H a 18 :: S) k n H Q) := W_getf (rfl : (pj lw).1 15 115 = some (.getfield 32, 3, 18))
theorem w15_118 {x : Int32} {l0 l1 l2 l3 : Slot} : W (pj lw) 15 118 (l0 :: l1 :: l2 :: l3 :: .val (.int x) :: L) S k n H Q ↔ W (pj lw) 15 120 (l0 :: l1 :: l2 :: l3 :: .val (.int x) :: L) (.int x :: S) k n H Q := W_s (rfl : (pj lw).1 15 118 = some (.iload 4, 2, 0)) rfl rfl rfl
theorem w15_120 {x : Int32} {y : Nat} : W (pj lw) 15 120 L (.int x :: .ref y :: S) k n H Q ↔ W (pj lw) 15 121 L (.int x :: .ref y :: .int x :: .ref y :: S) k n H Q := W_s (rfl : (pj lw).1 15 120 = some (.dup2, 1, 0)) rfl rfl rfl
theorem w15_121 {i : Int32} {a : Nat} : W (pj lw) 15 121 L (.int i :: .ref a :: S) k n H Q ↔ (inA H a .long i = true ∧ W (pj lw) 15 122 L (elt H a i :: S) k n H Q) := W_laload (rfl : (pj lw).1 15 121 = some (.laload, 1, 0))
theorem w15_122 {x : Int64} {l0 l1 l2 l3 l4 : Slot} : W (pj lw) 15 122 (l0 :: l1 :: l2 :: l3 :: l4 :: .val (.long x) :: L) S k n H Q ↔ W (pj lw) 15 124 (l0 :: l1 :: l2 :: l3 :: l4 :: .val (.long x) :: L) (.long x :: S) k n H Q := W_s (rfl : (pj lw).1 15 122 = some (.lload 5, 2, 0)) rfl rfl rfl
theorem w15_124 {x y : Int64} : W (pj lw) 15 124 L (.long y :: .long x :: S) k n H Q ↔ W (pj lw) 15 125 L (.long (x - y) :: S) k n H Q := W_s (rfl : (pj lw).1 15 124 = some (.lsub, 1, 0)) rfl rfl rfl
theorem w15_125 {x : Int64} {i : Int32} {a : Nat} : W (pj lw) 15 125 L (.long x :: .int i :: .ref a :: S) k n H Q ↔ (inAw H a .long i = true ∧ W (pj lw) 15 126 L S k n (wr H a i.toNatClampNeg (.long x)) Q) := W_lastore (rfl : (pj lw).1 15 125 = some (.lastore, 1, 0))
theorem w15_126 : W (pj lw) 15 126 L S k n H Q ↔ W (pj lw) 15 141 L S k n H Q := W_goto (rfl : (pj lw).1 15 126 = some (.goto 15, 3, 0)) rfl
theorem w15_129 {x : Nat} : W (pj lw) 15 129 (.val (.ref x) :: L) S k n H Q ↔ W (pj lw) 15 130 (.val (.ref x) :: L) (.ref x :: S) k n H Q := W_s (rfl : (pj lw).1 15 129 = some (.aload_n 0, 1, 0)) rfl rfl rfl
theorem w15_130 {a : Nat} : W (pj lw) 15 130 L (.ref a :: S) k n H Q ↔ (isO H a = true ∧ W (pj lw) 15 133 L (fld H a 18 :: S) k n H Q) := W_getf (rfl : (pj lw).1 15 130 = some (.getfield 32, 3, 18))
theorem w15_133 {x : Int32} {l0 l1 l2 l3 : Slot} : W (pj lw) 15 133 (l0 :: l1 :: l2 :: l3 :: .val (.int x) :: L) S k n H Q ↔ W (pj lw) 15 135 (l0 :: l1 :: l2 :: l3 :: .val (.int x) :: L) (.int x :: S) k n H Q := W_s (rfl : (pj lw).1 15 133 = some (.iload 4, 2, 0)) rfl rfl rfl
theorem w15_135 {x : Int32} {y : Nat} : W (pj lw) 15 135 L (.int x :: .ref y :: S) k n H Q ↔ W (pj lw) 15 136 L (.int x :: .ref y :: .int x :: .ref y :: S) k n H Q := W_s (rfl : (pj lw).1 15 135 = some (.dup2, 1, 0)) rfl rfl rfl
theorem w15_136 {i : Int32} {a : Nat} : W (pj lw) 15 136 L (.int i :: .ref a :: S) k n H Q ↔ (inA H a .long i = true ∧ W (pj lw) 15 137 L (elt H a i :: S) k n H Q) := W_laload (rfl : (pj lw).1 15 136 = some (.laload, 1, 0))
theorem w15_137 {x : Int64} {l0 l1 l2 l3 l4 : Slot} : W (pj lw) 15 137 (l0 :: l1 :: l2 :: l3 :: l4 :: .val (.long x) :: L) S k n H Q ↔ W (pj lw) 15 139 (l0 :: l1 :: l2 :: l3 :: l4 :: .val (.long x) :: L) (.long x :: S) k n H Q := W_s (rfl : (pj lw).1 15 137 = some (.lload 5, 2, 0)) rfl rfl rfl
theorem w15_139 {x y : Int64} : W (pj lw) 15 139 L (.long y :: .long x :: S) k n H Q ↔ W (pj lw) 15 140 L (.long (x + y) :: S) k n H Q := W_s (rfl : (pj lw).1 15 139 = some (.ladd, 1, 0)) rfl rfl rfl
theorem w15_140 {x : Int64} {i : Int32} {a : Nat} : W (pj lw) 15 140 L (.long x :: .int i :: .ref a :: S) k n H Q ↔ (inAw H a .long i = true ∧ W (pj lw) 15 141 L S k n (wr H a i.toNatClampNeg (.long x)) Q) := W_lastore (rfl : (pj lw).1 15 140 = some (.lastore, 1, 0))
theorem w15_141 {x : Int32} {l0 l1 l2 l3 : Slot} : W (pj lw) 15 141 (l0 :: l1 :: l2 :: l3 :: .val (.int x) :: L) S k n H Q ↔ W (pj lw) 15 144 (l0 :: l1 :: l2 :: l3 :: .val (.int (x + 1)) :: L) S k n H Q := W_s (rfl : (pj lw).1 15 141 = some (.iinc 4 1, 3, 0)) rfl rfl rfl
theorem w15_144 : W (pj lw) 15 144 L S k n H Q ↔ W (pj lw) 15 78 L S k n H Q := W_goto (rfl : (pj lw).1 15 144 = some (.goto (-66), 3, 0)) rfl
theorem w15_147 {x : Int64} {l0 l1 : Slot} : W (pj lw) 15 147 (l0 :: l1 :: .val (.long x) :: L) S k n H Q ↔ W (pj lw) 15 148 (l0 :: l1 :: .val (.long x) :: L) (.long x :: S) k n H Q := W_s (rfl : (pj lw).1 15 147 = some (.lload_n 2, 1, 0)) rfl rfl rfl
theorem w15_148 {x : Int64} : W (pj lw) 15 148 L (.long x :: S) k n H Q ↔ Q (some (.long x)) H := W_r (rfl : (pj lw).1 15 148 = some (.lreturn, 1, 0)) rfl
theorem c16 {x0 : Nat} {x1 : Int32} : Cl (pj lw) 16 [.ref x0, .int x1] H Q ↔ W (pj lw) 16 0 [.val (.ref x0), .val (.int x1)] [] 0 0 H Q := cl_unf rfl
theorem w16_0 {x : Nat} : W (pj lw) 16 0 (.val (.ref x) :: L) S k n H Q ↔ W (pj lw) 16 1 (.val (.ref x) :: L) (.ref x :: S) k n H Q := W_s (rfl : (pj lw).1 16 0 = some (.aload_n 0, 1, 0)) rfl rfl rfl
theorem w16_1 {x : Int32} {l0 : Slot} : W (pj lw) 16 1 (l0 :: .val (.int x) :: L) S k n H Q ↔ W (pj lw) 16 2 (l0 :: .val (.int x) :: L) (.int x :: S) k n H Q := W_s (rfl : (pj lw).1 16 1 = some (.iload_n 1, 1, 0)) rfl rfl rfl
theorem w16_2 {a : Nat} {x0 : Int32} : W (pj lw) 16 2 L (.int x0 :: .ref a :: S) k n H Q ↔ ((isO H a = true ∧ cs S + (2 + 11) + 0 ≤ 13) ∧ Cl (pj lw) 18 [.ref a, .int x0] H (fun v H => W (pj lw) 16 5 L (v.toList ++ S) k n H Q)) := W_inst (as := [.int x0]) (rfl : (pj lw).1 16 2 = some (.invokevirtual 112, 3, 18)) rfl rfl rfl (Nat.le_of_ble_eq_true rfl) (Nat.le_of_ble_eq_true rfl) ⟨rfl, rfl⟩
theorem w16_5 {x : Int32} : W (pj lw) 16 5 L (.int x :: S) k n H Q ↔ (if x = 0 then W (pj lw) 16 8 L S k n H Q else W (pj lw) 16 10 L S k n H Q) := W_if_ne (rfl : (pj lw).1 16 5 = some (.ifCond .ne 5, 3, 0)) rfl
theorem w16_8 : W (pj lw) 16 8 L S k n H Q ↔ W (pj lw) 16 9 L (.long 0 :: S) k n H Q := W_s (rfl : (pj lw).1 16 8 = some (.lconst 0, 1, 0)) rfl rfl rfl
theorem w16_9 {x : Int64} : W (pj lw) 16 9 L (.long x :: S) k n H Q ↔ Q (some (.long x)) H := W_r (rfl : (pj lw).1 16 9 = some (.lreturn, 1, 0)) rfl
theorem w16_10 {x : Nat} : W (pj lw) 16 10 (.val (.ref x) :: L) S k n H Q ↔ W (pj lw) 16 11 (.val (.ref x) :: L) (.ref x :: S) k n H Q := W_s (rfl : (pj lw).1 16 10 = some (.aload_n 0, 1, 0)) rfl rfl rfl
theorem w16_11 {a : Nat} : W (pj lw) 16 11 L (.ref a :: S) k n H Q ↔ (isO H a = true ∧ W (pj lw) 16 14 L (fld H a 18 :: S) k n H Q) := W_getf (rfl : (pj lw).1 16 11 = some (.getfield 32, 3, 18))
theorem w16_14 {x : Int32} {l0 : Slot} : W (pj lw) 16 14 (l0 :: .val (.int x) :: L) S k n H Q ↔ W (pj lw) 16 15 (l0 :: .val (.int x) :: L) (.int x :: S) k n H Q := W_s (rfl : (pj lw).1 16 14 = some (.iload_n 1, 1, 0)) rfl rfl rfl
theorem w16_15 {i : Int32} {a : Nat} : W (pj lw) 16 15 L (.int i :: .ref a :: S) k n H Q ↔ (inA H a .long i = true ∧ W (pj lw) 16 16 L (elt H a i :: S) k n H Q) := W_laload (rfl : (pj lw).1 16 15 = some (.laload, 1, 0))
theorem w16_16 {x : Int64} : W (pj lw) 16 16 L (.long x :: S) k n H Q ↔ Q (some (.long x)) H := W_r (rfl : (pj lw).1 16 16 = some (.lreturn, 1, 0)) rfl
theorem c17 {x0 : Nat} : Cl (pj lw) 17 [.ref x0] H Q ↔ W (pj lw) 17 0 [.val (.ref x0), .unset, .unset, .unset, .unset, .unset, .unset] [] 0 0 H Q := cl_unf rfl
theorem w17_0 {x : Nat} : W (pj lw) 17 0 (.val (.ref x) :: L) S k n H Q ↔ W (pj lw) 17 1 (.val (.ref x) :: L) (.ref x :: S) k n H Q := W_s (rfl : (pj lw).1 17 0 = some (.aload_n 0, 1, 0)) rfl rfl rfl
theorem w17_1 {a : Nat} : W (pj lw) 17 1 L (.ref a :: S) k n H Q ↔ (isO H a = true ∧ W (pj lw) 17 4 L (fld H a 10 :: S) k n H Q) := W_getf (rfl : (pj lw).1 17 1 = some (.getfield 66, 3, 10))
theorem w17_4 {x : Int32} : W (pj lw) 17 4 L (.int x :: S) k n H Q ↔ (if x = 0 then W (pj lw) 17 7 L S k n H Q else W (pj lw) 17 9 L S k n H Q) := W_if_ne (rfl : (pj lw).1 17 4 = some (.ifCond .ne 5, 3, 0)) rfl
theorem w17_7 : W (pj lw) 17 7 L S k n H Q ↔ W (pj lw) 17 8 L (.int (-1) :: S) k n H Q := W_s (rfl : (pj lw).1 17 7 = some (.iconst (-1), 1, 0)) rfl rfl rfl
theorem w17_8 {x : Int32} : W (pj lw) 17 8 L (.int x :: S) k n H Q ↔ Q (some (.int x)) H := W_r (rfl : (pj lw).1 17 8 = some (.ireturn, 1, 0)) rfl
theorem w17_9 : W (pj lw) 17 9 L S k n H Q ↔ W (pj lw) 17 10 L (.int 0 :: S) k n H Q := W_s (rfl : (pj lw).1 17 9 = some (.iconst 0, 1, 0)) rfl rfl rfl
theorem w17_10 {x : Int32} {l0 : Slot} : W (pj lw) 17 10 (l0 :: .unset :: L) (.int x :: S) k n H Q ↔ W (pj lw) 17 11 (l0 :: .val (.int x) :: L) S k n H Q := W_istn (rfl : (pj lw).1 17 10 = some (.istore_n 1, 1, 0)) rfl rfl
theorem w17_11 {x : Nat} : W (pj lw) 17 11 (.val (.ref x) :: L) S k n H Q ↔ W (pj lw) 17 12 (.val (.ref x) :: L) (.ref x :: S) k n H Q := W_s (rfl : (pj lw).1 17 11 = some (.aload_n 0, 1, 0)) rfl rfl rfl
theorem w17_12 : W (pj lw) 17 12 L S k n H Q ↔ W (pj lw) 17 13 L (.int 0 :: S) k n H Q := W_s (rfl : (pj lw).1 17 12 = some (.iconst 0, 1, 0)) rfl rfl rfl
theorem w17_16uu {x : Int64} {l0 l1 : Slot} : W (pj lw) 17 16 (l0 :: l1 :: .unset :: .unset :: L) (.long x :: S) k n H Q ↔ W (pj lw) 17 17 (l0 :: l1 :: .val (.long x) :: .second :: L) S k n H Q := W_lstn (rfl : (pj lw).1 17 16 = some (.lstore_n 2, 1, 0)) rfl rfl rfl rfl
theorem w17_17 : W (pj lw) 17 17 L S k n H Q ↔ W (pj lw) 17 18 L (.int 1 :: S) k n H Q := W_s (rfl : (pj lw).1 17 17 = some (.iconst 1, 1, 0)) rfl rfl rfl
theorem w17_18 {x : Int32} {l0 l1 l2 l3 : Slot} : W (pj lw) 17 18 (l0 :: l1 :: l2 :: l3 :: .unset :: L) (.int x :: S) k n H Q ↔ W (pj lw) 17 20 (l0 :: l1 :: l2 :: l3 :: .val (.int x) :: L) S k n H Q := W_ist (rfl : (pj lw).1 17 18 = some (.istore 4, 2, 0)) rfl rfl
theorem w17_20 {x : Int32} {l0 l1 l2 l3 : Slot} : W (pj lw) 17 20 (l0 :: l1 :: l2 :: l3 :: .val (.int x) :: L) S k n H Q ↔ W (pj lw) 17 22 (l0 :: l1 :: l2 :: l3 :: .val (.int x) :: L) (.int x :: S) k n H Q := W_s (rfl : (pj lw).1 17 20 = some (.iload 4, 2, 0)) rfl rfl rfl
theorem w17_22 {x : Nat} : W (pj lw) 17 22 (.val (.ref x) :: L) S k n H Q ↔ W (pj lw) 17 23 (.val (.ref x) :: L) (.ref x :: S) k n H Q := W_s (rfl : (pj lw).1 17 22 = some (.aload_n 0, 1, 0)) rfl rfl rfl
theorem w17_23 {a : Nat} : W (pj lw) 17 23 L (.ref a :: S) k n H Q ↔ (isO H a = true ∧ W (pj lw) 17 26 L (fld H a 12 :: S) k n H Q) := W_getf (rfl : (pj lw).1 17 23 = some (.getfield 90, 3, 12))
theorem w17_26 {x y : Int32} : W (pj lw) 17 26 L (.int y :: .int x :: S) k n H Q ↔ (if x < y then W (pj lw) 17 29 L S k n H Q else W (pj lw) 17 63 L S k n H Q) := W_icmp_ge (rfl : (pj lw).1 17 26 = some (.if_icmp .ge 37, 3, 0)) rfl
theorem w17_29 {x : Int32} {l0 l1 l2 l3 : Slot} : W (pj lw) 17 29 (l0 :: l1 :: l2 :: l3 :: .val (.int x) :: L) S k n H Q ↔ W (pj lw) 17 31 (l0 :: l1 :: l2 :: l3 :: .val (.int x) :: L) (.int x :: S) k n H Q := W_s (rfl : (pj lw).1 17 29 = some (.iload 4, 2, 0)) rfl rfl rfl
theorem w17_31 : W (pj lw) 17 31 L S k n H Q ↔ W (pj lw) 17 33 L (.int 6 :: S) k n H Q := W_s (rfl : (pj lw).1 17 31 = some (.bipush 6, 2, 0)) rfl rfl rfl
theorem w17_33 {x y : Int32} : W (pj lw) 17 33 L (.int y :: .int x :: S) k n H Q ↔ (if x < y then W (pj lw) 17 36 L S k n H Q else W (pj lw) 17 63 L S k n H Q) := W_icmp_ge (rfl : (pj lw).1 17 33 = some (.if_icmp .ge 30, 3, 0)) rfl
theorem w17_36 {x : Nat} : W (pj lw) 17 36 (.val (.ref x) :: L) S k n H Q ↔ W (pj lw) 17 37 (.val (.ref x) :: L) (.ref x :: S) k n H Q := W_s (rfl : (pj lw).1 17 36 = some (.aload_n 0, 1, 0)) rfl rfl rfl
theorem w17_37 {x : Int32} {l0 l1 l2 l3 : Slot} : W (pj lw) 17 37 (l0 :: l1 :: l2 :: l3 :: .val (.int x) :: L) S k n H Q ↔ W (pj lw) 17 39 (l0 :: l1 :: l2 :: l3 :: .val (.int x) :: L) (.int x :: S) k n H Q := W_s (rfl : (pj lw).1 17 37 = some (.iload 4, 2, 0)) rfl rfl rfl
theorem w17_42j {x y : Int64} {l0 l1 l2 l3 l4 : Slot} : W (pj lw) 17 42 (l0 :: l1 :: l2 :: l3 :: l4 :: .val (.long y) :: .second :: L) (.long x :: S) k n H Q ↔ W (pj lw) 17 44 (l0 :: l1 :: l2 :: l3 :: l4 :: .val (.long x) :: .second :: L) S k n H Q := W_lst' (rfl : (pj lw).1 17 42 = some (.lstore 5, 2, 0)) rfl rfl
theorem w17_42uu {x : Int64} {l0 l1 l2 l3 l4 : Slot} : W (pj lw) 17 42 (l0 :: l1 :: l2 :: l3 :: l4 :: .unset :: .unset :: L) (.long x :: S) k n H Q ↔ W (pj lw) 17 44 (l0 :: l1 :: l2 :: l3 :: l4 :: .val (.long x) :: .second :: L) S k n H Q := W_lst (rfl : (pj lw).1 17 42 = some (.lstore 5, 2, 0)) rfl rfl rfl rfl
theorem w17_44 {x : Int64} {l0 l1 l2 l3 l4 : Slot} : W (pj lw) 17 44 (l0 :: l1 :: l2 :: l3 :: l4 :: .val (.long x) :: L) S k n H Q ↔ W (pj lw) 17 46 (l0 :: l1 :: l2 :: l3 :: l4 :: .val (.long x) :: L) (.long x :: S) k n H Q := W_s (rfl : (pj lw).1 17 44 = some (.lload 5, 2, 0)) rfl rfl rfl
theorem w17_46 {x : Int64} {l0 l1 : Slot} : W (pj lw) 17 46 (l0 :: l1 :: .val (.long x) :: L) S k n H Q ↔ W (pj lw) 17 47 (l0 :: l1 :: .val (.long x) :: L) (.long x :: S) k n H Q := W_s (rfl : (pj lw).1 17 46 = some (.lload_n 2, 1, 0)) rfl rfl rfl
theorem w17_47 {x y : Int64} : W (pj lw) 17 47 L (.long y :: .long x :: S) k n H Q ↔ W (pj lw) 17 48 L (.int (Jvm.Free.XT.cmpL x y) :: S) k n H Q := W_s (rfl : (pj lw).1 17 47 = some (.lcmp, 1, 0)) rfl rfl rfl
theorem w17_48 {x : Int32} : W (pj lw) 17 48 L (.int x :: S) k n H Q ↔ (if x < 0 then W (pj lw) 17 51 L S k n H Q else W (pj lw) 17 57 L S k n H Q) := W_if_ge (rfl : (pj lw).1 17 48 = some (.ifCond .ge 9, 3, 0)) rfl
theorem w17_51 {x : Int64} {l0 l1 l2 l3 l4 : Slot} : W (pj lw) 17 51 (l0 :: l1 :: l2 :: l3 :: l4 :: .val (.long x) :: L) S k n H Q ↔ W (pj lw) 17 53 (l0 :: l1 :: l2 :: l3 :: l4 :: .val (.long x) :: L) (.long x :: S) k n H Q := W_s (rfl : (pj lw).1 17 51 = some (.lload 5, 2, 0)) rfl rfl rfl
theorem w17_53j {x y : Int64} {l0 l1 : Slot} : W (pj lw) 17 53 (l0 :: l1 :: .val (.long y) :: .second :: L) (.long x :: S) k n H Q ↔ W (pj lw) 17 54 (l0 :: l1 :: .val (.long x) :: .second :: L) S k n H Q := W_lstn' (rfl : (pj lw).1 17 53 = some (.lstore_n 2, 1, 0)) rfl rfl
theorem w17_54 {x : Int32} {l0 l1 l2 l3 : Slot} : W (pj lw) 17 54 (l0 :: l1 :: l2 :: l3 :: .val (.int x) :: L) S k n H Q ↔ W (pj lw) 17 56 (l0 :: l1 :: l2 :: l3 :: .val (.int x) :: L) (.int x :: S) k n H Q := W_s (rfl : (pj lw).1 17 54 = some (.iload 4, 2, 0)) rfl rfl rfl
theorem w17_56i {y : Int32} {x : Int32} {l0 : Slot} : W (pj lw) 17 56 (l0 :: .val (.int y) :: L) (.int x :: S) k n H Q ↔ W (pj lw) 17 57 (l0 :: .val (.int x) :: L) S k n H Q := W_istn (rfl : (pj lw).1 17 56 = some (.istore_n 1, 1, 0)) rfl rfl
theorem w17_57 {x : Int32} {l0 l1 l2 l3 : Slot} : W (pj lw) 17 57 (l0 :: l1 :: l2 :: l3 :: .val (.int x) :: L) S k n H Q ↔ W (pj lw) 17 60 (l0 :: l1 :: l2 :: l3 :: .val (.int (x + 1)) :: L) S k n H Q := W_s (rfl : (pj lw).1 17 57 = some (.iinc 4 1, 3, 0)) rfl rfl rfl
theorem w17_60 : W (pj lw) 17 60 L S k n H Q ↔ W (pj lw) 17 20 L S k n H Q := W_goto (rfl : (pj lw).1 17 60 = some (.goto (-40), 3, 0)) rfl
theorem w17_63 {x : Int32} {l0 : Slot} : W (pj lw) 17 63 (l0 :: .val (.int x) :: L) S k n H Q ↔ W (pj lw) 17 64 (l0 :: .val (.int x) :: L) (.int x :: S) k n H Q := W_s (rfl : (pj lw).1 17 63 = some (.iload_n 1, 1, 0)) rfl rfl rfl
theorem w17_64 {x : Int32} : W (pj lw) 17 64 L (.int x :: S) k n H Q ↔ Q (some (.int x)) H := W_r (rfl : (pj lw).1 17 64 = some (.ireturn, 1, 0)) rfl
theorem c18 {x0 : Nat} {x1 : Int32} : Cl (pj lw) 18 [.ref x0, .int x1] H Q ↔ W (pj lw) 18 0 [.val (.ref x0), .val (.int x1)] [] 0 0 H Q := cl_unf rfl
theorem w18_0 {x : Nat} : W (pj lw) 18 0 (.val (.ref x) :: L) S k n H Q ↔ W (pj lw) 18 1 (.val (.ref x) :: L) (.ref x :: S) k n H Q := W_s (rfl : (pj lw).1 18 0 = some (.aload_n 0, 1, 0)) rfl rfl rfl
theorem w18_1 {a : Nat} : W (pj lw) 18 1 L (.ref a :: S) k n H Q ↔ (isO H a = true ∧ W (pj lw) 18 4 L (fld H a 10 :: S) k n H Q) := W_getf (rfl : (pj lw).1 18 1 = some (.getfield 66, 3, 10))
theorem w18_4 {x : Int32} : W (pj lw) 18 4 L (.int x :: S) k n H Q ↔ (if x = 0 then W (pj lw) 18 29 L S k n H Q else W (pj lw) 18 7 L S k n H Q) := W_if_eq (rfl : (pj lw).1 18 4 = some (.ifCond .eq 25, 3, 0)) rfl
theorem w18_7 {x : Int32} {l0 : Slot} : W (pj lw) 18 7 (l0 :: .val (.int x) :: L) S k n H Q ↔ W (pj lw) 18 8 (l0 :: .val (.int x) :: L) (.int x :: S) k n H Q := W_s (rfl : (pj lw).1 18 7 = some (.iload_n 1, 1, 0)) rfl rfl rfl
theorem w18_8 {x : Int32} : W (pj lw) 18 8 L (.int x :: S) k n H Q ↔ (if x < 0 then W (pj lw) 18 29 L S k n H Q else W (pj lw) 18 11 L S k n H Q) := W_if_lt (rfl : (pj lw).1 18 8 = some (.ifCond .lt 21, 3, 0)) rfl
theorem w18_11 {x : Int32} {l0 : Slot} : W (pj lw) 18 11 (l0 :: .val (.int x) :: L) S k n H Q ↔ W (pj lw) 18 12 (l0 :: .val (.int x) :: L) (.int x :: S) k n H Q := W_s (rfl : (pj lw).1 18 11 = some (.iload_n 1, 1, 0)) rfl rfl rfl
theorem w18_12 {x : Nat} : W (pj lw) 18 12 (.val (.ref x) :: L) S k n H Q ↔ W (pj lw) 18 13 (.val (.ref x) :: L) (.ref x :: S) k n H Q := W_s (rfl : (pj lw).1 18 12 = some (.aload_n 0, 1, 0)) rfl rfl rfl
theorem w18_13 {a : Nat} : W (pj lw) 18 13 L (.ref a :: S) k n H Q ↔ (isO H a = true ∧ W (pj lw) 18 16 L (fld H a 11 :: S) k n H Q) := W_getf (rfl : (pj lw).1 18 13 = some (.getfield 84, 3, 11))
theorem w18_16 {x y : Int32} : W (pj lw) 18 16 L (.int y :: .int x :: S) k n H Q ↔ (if x < y then W (pj lw) 18 19 L S k n H Q else W (pj lw) 18 29 L S k n H Q) := W_icmp_ge (rfl : (pj lw).1 18 16 = some (.if_icmp .ge 13, 3, 0)) rfl
theorem w18_19 {x : Int32} {l0 : Slot} : W (pj lw) 18 19 (l0 :: .val (.int x) :: L) S k n H Q ↔ W (pj lw) 18 20 (l0 :: .val (.int x) :: L) (.int x :: S) k n H Q := W_s (rfl : (pj lw).1 18 19 = some (.iload_n 1, 1, 0)) rfl rfl rfl
theorem w18_20 : W (pj lw) 18 20 L S k n H Q ↔ W (pj lw) 18 22 L (.int 6 :: S) k n H Q := W_s (rfl : (pj lw).1 18 20 = some (.bipush 6, 2, 0)) rfl rfl rfl
theorem w18_22 {x y : Int32} : W (pj lw) 18 22 L (.int y :: .int x :: S) k n H Q ↔ (if x < y then W (pj lw) 18 25 L S k n H Q else W (pj lw) 18 29 L S k n H Q) := W_icmp_ge (rfl : (pj lw).1 18 22 = some (.if_icmp .ge 7, 3, 0)) rfl
theorem w18_25 : W (pj lw) 18 25 L S k n H Q ↔ W (pj lw) 18 26 L (.int 1 :: S) k n H Q := W_s (rfl : (pj lw).1 18 25 = some (.iconst 1, 1, 0)) rfl rfl rfl
theorem w18_26 : W (pj lw) 18 26 L S k n H Q ↔ W (pj lw) 18 30 L S k n H Q := W_goto (rfl : (pj lw).1 18 26 = some (.goto 4, 3, 0)) rfl
theorem w18_29 : W (pj lw) 18 29 L S k n H Q ↔ W (pj lw) 18 30 L (.int 0 :: S) k n H Q := W_s (rfl : (pj lw).1 18 29 = some (.iconst 0, 1, 0)) rfl rfl rfl
theorem w18_30 {x : Int32} : W (pj lw) 18 30 L (.int x :: S) k n H Q ↔ ((x = 0 ∨ x = 1) ∧ Q (some (.int x)) H) := W_rz (rfl : (pj lw).1 18 30 = some (.ireturn, 1, 0)) rfl
end Pc
section A
variable {lw : LW} {H : AH} {p j : Nat} {s : St} {Q : Option Value → AH → Prop} {a b c d : Int32} {h : Nat → Cel} {k n : Nat}
def ini0 (a b : Int32) : St := uI (uI (uI (uI z0 0 (cl 2 6 a)) 1 (cl 1 8 b)) 3 0) 10 0
set_option maxRecDepth 100000 in
theorem t1 : Cl (pj lw) 1 [.ref p, .int a, .int b] (put lay 0 (p + 1, h) p z0) Q ↔ Q none (ob (p + 16, h) p (ini0 a b)) := by
  rw [c1]
  rcases cl3 (lo := 2) (hi := 6) a (by decide) with ⟨h1, h2⟩ | ⟨h1, h2⟩ | ⟨h1, h2⟩ <;> rcases cl3 (lo := 1) (hi := 8) b (by decide) with ⟨h3, h4⟩ | ⟨h3, h4⟩ | ⟨h3, h4⟩ <;>
    simp +decide only [w1_0, w1_1, w1_4, w1_5, w1_7, w1_9, w1_12, w1_13, w1_14, w1_16, w1_19, w1_20, w1_22, w1_24, w1_27, w1_28, w1_30, w1_32, w1_35, w1_36, w1_38, w1_40, w1_43, w1_44, w1_46, w1_48, w1_51, w1_52, w1_54, w1_56, w1_59, w1_60, w1_62, w1_64, w1_67, w1_68, w1_70, w1_72, w1_75, w1_76, w1_78, w1_80, w1_83, w1_84, w1_86, w1_88, w1_91, w1_92, w1_94, w1_96, w1_99, w1_100, w1_102, w1_104, w1_107, w1_108, w1_110, w1_112, w1_115, w1_116, w1_118, w1_120, w1_123, w1_124, w1_125, w1_126, w1_127, w1_130, w1_131i, w1_132, w1_133, w1_135, w1_138, w1_140i, w1_141, w1_142, w1_144, w1_146, w1_147, w1_150, w1_151i, w1_153, w1_155, w1_157, w1_160, w1_162i, w1_164, w1_165, w1_166, w1_169, w1_170, w1_172, w1_175, w1_176, w1_177, w1_180, w1_181, w1_182, w1_185, zr_z0, zr_uI, zr_uJ, isO_put, isOw_put, put_fst, okv_int, okv_long, okv_ref, okv_bool, okv_byte, cat1_unset, cat1_int, cat1_ref, cs_nil, cs_int, cs_ref, cs_long, cmpL_lt, cmpL_gt, cmpL_eq, sI_uI, sI_uJ, sI_uA, sI_uB, sJ_uI, sJ_uJ, sJ_uA, sJ_uB, sA_uI, sA_uJ, sA_uA, sA_uB, sB_uI, sB_uJ, sB_uA, sB_uB, sI_fA, sJ_fA, sA_fA, sB_fA, sI_z0, sJ_z0, sA_z0, sB_z0, Option.toList_some, Option.toList_none, List.cons_append, List.nil_append, true_and, and_true, false_and, and_false, or_false, false_or, or_true, true_or, not_true_eq_false, not_false_eq_true, ↓reduceIte, Nat.reduceAdd, Nat.reduceLeDiff, Nat.reduceEqDiff, Nat.reduceSub, Int32.reduceAdd, Int32.reduceSub, Int32.reduceMul, Int32.reduceToNatClampNeg, Int64.reduceAdd, Int64.reduceSub, Int64.reduceMul, Int64.reduceLT, Int32.reduceLT, Int32.reduceToInt, Nat.add_zero, Nat.zero_add, Nat.le_refl, eq_self, implies_true, ne_eq, g0, s0, g1, s1, g2, g3, s3, g4, g5, g6, s6, g7, s7, g8, s8, g9, s9, g10, s10, g11, s11, g12, s12, g13, s13, g14, g15, g16, g17, g18, g19, g20, g21, g22, g23, g24, g25, g26, s26, g27, s27, ai1, aw1, ae1, as1, ai2, aw2, ae2, as2, ai3, aw3, ae3, as3, ai4, aw4, ae4, as4, ai5, aw5, ae5, as5, ai6, aw6, ae6, as6, ai7, aw7, ae7, as7, ai8, aw8, ae8, as8, ai9, aw9, ae9, as9, ai10, aw10, ae10, as10, ai11, aw11, ae11, as11, ai12, aw12, ae12, as12, ai13, aw13, ae13, as13, ai14, aw14, ae14, as14, ai15, aw15, ae15, as15, mk1, io1, mk2, io2, mk3, io3, mk4, io4, mk5, io5, mk6, io6, mk7, io7, mk8, io8, mk9, io9, mk10, io10, mk11, io11, mk12, io12, mk13, io13, mk14, io14, mk15, io15, h1, h2, h3, h4, ini0, cl]
end A

end Jvm.JX.Pj
namespace Jvm.JX.Lw
open Jvm Jvm.ClassFile Sem Op Lib Jvm.JX Jvm.JX.Pj
def lr0 : List Row := [(0, .new 7, 3, 28), (3, .dup, 1, 0), (4, .iload_n 0, 1, 0), (5, .iload_n 1, 1, 0), (6, .invokespecial 9, 3, 1), (9, .astore 6, 2, 0), (11, .aload 6, 2, 0), (13, .iload_n 2, 1, 0), (14, .iload 4, 2, 0), (16, .invokevirtual 12, 3, 14), (19, .istore 7, 2, 0), (21, .aload 6, 2, 0), (23, .iload 5, 2, 0), (25, .invokevirtual 16, 3, 15), (28, .lstore 8, 2, 0), (30, .aload 6, 2, 0), (32, .iload_n 3, 1, 0), (33, .invokevirtual 20, 3, 10), (36, .istore 10, 2, 0), (38, .aload 6, 2, 0), (40, .invokevirtual 24, 3, 17), (43, .istore 11, 2, 0), (45, .aload 6, 2, 0), (47, .iload_n 2, 1, 0), (48, .invokevirtual 28, 3, 16), (51, .lstore 12, 2, 0), (53, .aload 6, 2, 0), (55, .invokevirtual 31, 3, 4), (58, .istore 14, 2, 0), (60, .iload 7, 2, 0), (62, .ifCond .ne 38, 3, 0), (65, .lload 8, 2, 0), (67, .lconst 0, 1, 0), (68, .lcmp, 1, 0), (69, .ifCond .ne 31, 3, 0), (72, .iload 10, 2, 0), (74, .iconst (-1), 1, 0), (75, .if_icmp .ne 25, 3, 0), (78, .iload 11, 2, 0), (80, .iconst (-1), 1, 0), (81, .if_icmp .ne 19, 3, 0), (84, .lload 12, 2, 0), (86, .lconst 0, 1, 0), (87, .lcmp, 1, 0), (88, .ifCond .ne 12, 3, 0), (91, .iload 14, 2, 0), (93, .ifCond .ne 7, 3, 0), (96, .iconst 1, 1, 0), (97, .goto 4, 3, 0), (100, .iconst 0, 1, 0), (101, .ireturn, 1, 0)]
def lrows : List (List Row) := [lr0]
def linfo : List MInfo := [(6, 15, 9, some .boolean, { frames := 5, cells := 40, slots := 1152, locals := 128 })]
def lw : LW := (fun j pc => (lrows.getD j []).lookup pc, fun j => linfo.getD j (0, 0, 9, none, {}))
section LPc
variable {L : List Slot} {S : List Value} {k n : Nat} {H : AH} {Q : Option Value → AH → Prop}
theorem c100 {x0 : Int32} {x1 : Int32} {x2 : Int32} {x3 : Int32} {x4 : Int32} {x5 : Int32} : Cl (pj lw) 100 [.int x0, .int x1, .int x2, .int x3, .int x4, .int x5] H Q ↔ W (pj lw) 100 0 [.val (.int x0), .val (.int x1), .val (.int x2), .val (.int x3), .val (.int x4), .val (.int x5), .unset, .unset, .unset, .unset, .unset, .unset, .unset, .unset, .unset] [] 0 0 H Q := cl_unf rfl
theorem w100_0 : W (pj lw) 100 0 L S k n H Q ↔ ((k + 1 ≤ 40 ∧ n + 28 ≤ 1152) ∧ W (pj lw) 100 3 L (.ref H.1 :: S) (k + 1) (n + 28) (mkO (pj lw) H) Q) := W_new' (rfl : (pj lw).1 100 0 = some (.new 7, 3, 28)) (by decide)
theorem w100_3 {x : Nat} : W (pj lw) 100 3 L (.ref x :: S) k n H Q ↔ W (pj lw) 100 4 L (.ref x :: .ref x :: S) k n H Q := W_s (rfl : (pj lw).1 100 3 = some (.dup, 1, 0)) rfl rfl rfl
theorem w100_4 {x : Int32} : W (pj lw) 100 4 (.val (.int x) :: L) S k n H Q ↔ W (pj lw) 100 5 (.val (.int x) :: L) (.int x :: S) k n H Q := W_s (rfl : (pj lw).1 100 4 = some (.iload_n 0, 1, 0)) rfl rfl rfl
theorem w100_5 {x : Int32} {l0 : Slot} : W (pj lw) 100 5 (l0 :: .val (.int x) :: L) S k n H Q ↔ W (pj lw) 100 6 (l0 :: .val (.int x) :: L) (.int x :: S) k n H Q := W_s (rfl : (pj lw).1 100 5 = some (.iload_n 1, 1, 0)) rfl rfl rfl
theorem w100_6 {a : Nat} {x0 : Int32} {x1 : Int32} : W (pj lw) 100 6 L (.int x1 :: .int x0 :: .ref a :: S) k n H Q ↔ ((isO H a = true ∧ cs S + (5 + 11) + 12 ≤ 128 ∧ k + 15 ≤ 40 ∧ n + 490 ≤ 1152) ∧ Cl (pj lw) 1 [.ref a, .int x0, .int x1] H (fun v H => W (pj lw) 100 9 L (v.toList ++ S) (k + 15) (n + 490) H Q)) := W_init (as := [.int x0, .int x1]) (rfl : (pj lw).1 100 6 = some (.invokespecial 9, 3, 1)) rfl rfl rfl (Nat.le_of_ble_eq_true rfl) (Nat.le_of_ble_eq_true rfl) (fun h => absurd (show (15 : Nat) = 0 from h.1) (by decide))
theorem w100_9 {x : Nat} {l0 l1 l2 l3 l4 l5 : Slot} : W (pj lw) 100 9 (l0 :: l1 :: l2 :: l3 :: l4 :: l5 :: .unset :: L) (.ref x :: S) k n H Q ↔ W (pj lw) 100 11 (l0 :: l1 :: l2 :: l3 :: l4 :: l5 :: .val (.ref x) :: L) S k n H Q := W_ast (rfl : (pj lw).1 100 9 = some (.astore 6, 2, 0)) rfl rfl
theorem w100_11 {x : Nat} {l0 l1 l2 l3 l4 l5 : Slot} : W (pj lw) 100 11 (l0 :: l1 :: l2 :: l3 :: l4 :: l5 :: .val (.ref x) :: L) S k n H Q ↔ W (pj lw) 100 13 (l0 :: l1 :: l2 :: l3 :: l4 :: l5 :: .val (.ref x) :: L) (.ref x :: S) k n H Q := W_s (rfl : (pj lw).1 100 11 = some (.aload 6, 2, 0)) rfl rfl rfl
theorem w100_13 {x : Int32} {l0 l1 : Slot} : W (pj lw) 100 13 (l0 :: l1 :: .val (.int x) :: L) S k n H Q ↔ W (pj lw) 100 14 (l0 :: l1 :: .val (.int x) :: L) (.int x :: S) k n H Q := W_s (rfl : (pj lw).1 100 13 = some (.iload_n 2, 1, 0)) rfl rfl rfl
theorem w100_14 {x : Int32} {l0 l1 l2 l3 : Slot} : W (pj lw) 100 14 (l0 :: l1 :: l2 :: l3 :: .val (.int x) :: L) S k n H Q ↔ W (pj lw) 100 16 (l0 :: l1 :: l2 :: l3 :: .val (.int x) :: L) (.int x :: S) k n H Q := W_s (rfl : (pj lw).1 100 14 = some (.iload 4, 2, 0)) rfl rfl rfl
theorem w100_16 {a : Nat} {x0 : Int32} {x1 : Int32} : W (pj lw) 100 16 L (.int x1 :: .int x0 :: .ref a :: S) k n H Q ↔ ((isO H a = true ∧ cs S + (3 + 11) + 13 ≤ 128) ∧ Cl (pj lw) 14 [.ref a, .int x0, .int x1] H (fun v H => W (pj lw) 100 19 L (v.toList ++ S) k n H Q)) := W_inst (as := [.int x0, .int x1]) (rfl : (pj lw).1 100 16 = some (.invokevirtual 12, 3, 14)) rfl rfl rfl (Nat.le_of_ble_eq_true rfl) (Nat.le_of_ble_eq_true rfl) ⟨rfl, rfl⟩
theorem w100_19 {x : Int32} {l0 l1 l2 l3 l4 l5 l6 : Slot} : W (pj lw) 100 19 (l0 :: l1 :: l2 :: l3 :: l4 :: l5 :: l6 :: .unset :: L) (.int x :: S) k n H Q ↔ W (pj lw) 100 21 (l0 :: l1 :: l2 :: l3 :: l4 :: l5 :: l6 :: .val (.int x) :: L) S k n H Q := W_ist (rfl : (pj lw).1 100 19 = some (.istore 7, 2, 0)) rfl rfl
theorem w100_21 {x : Nat} {l0 l1 l2 l3 l4 l5 : Slot} : W (pj lw) 100 21 (l0 :: l1 :: l2 :: l3 :: l4 :: l5 :: .val (.ref x) :: L) S k n H Q ↔ W (pj lw) 100 23 (l0 :: l1 :: l2 :: l3 :: l4 :: l5 :: .val (.ref x) :: L) (.ref x :: S) k n H Q := W_s (rfl : (pj lw).1 100 21 = some (.aload 6, 2, 0)) rfl rfl rfl
theorem w100_23 {x : Int32} {l0 l1 l2 l3 l4 : Slot} : W (pj lw) 100 23 (l0 :: l1 :: l2 :: l3 :: l4 :: .val (.int x) :: L) S k n H Q ↔ W (pj lw) 100 25 (l0 :: l1 :: l2 :: l3 :: l4 :: .val (.int x) :: L) (.int x :: S) k n H Q := W_s (rfl : (pj lw).1 100 23 = some (.iload 5, 2, 0)) rfl rfl rfl
theorem w100_25 {a : Nat} {x0 : Int32} : W (pj lw) 100 25 L (.int x0 :: .ref a :: S) k n H Q ↔ ((isO H a = true ∧ cs S + (7 + 11) + 13 ≤ 128) ∧ Cl (pj lw) 15 [.ref a, .int x0] H (fun v H => W (pj lw) 100 28 L (v.toList ++ S) k n H Q)) := W_inst (as := [.int x0]) (rfl : (pj lw).1 100 25 = some (.invokevirtual 16, 3, 15)) rfl rfl rfl (Nat.le_of_ble_eq_true rfl) (Nat.le_of_ble_eq_true rfl) ⟨rfl, rfl⟩
theorem w100_28uu {x : Int64} {l0 l1 l2 l3 l4 l5 l6 l7 : Slot} : W (pj lw) 100 28 (l0 :: l1 :: l2 :: l3 :: l4 :: l5 :: l6 :: l7 :: .unset :: .unset :: L) (.long x :: S) k n H Q ↔ W (pj lw) 100 30 (l0 :: l1 :: l2 :: l3 :: l4 :: l5 :: l6 :: l7 :: .val (.long x) :: .second :: L) S k n H Q := W_lst (rfl : (pj lw).1 100 28 = some (.lstore 8, 2, 0)) rfl rfl rfl rfl
theorem w100_30 {x : Nat} {l0 l1 l2 l3 l4 l5 : Slot} : W (pj lw) 100 30 (l0 :: l1 :: l2 :: l3 :: l4 :: l5 :: .val (.ref x) :: L) S k n H Q ↔ W (pj lw) 100 32 (l0 :: l1 :: l2 :: l3 :: l4 :: l5 :: .val (.ref x) :: L) (.ref x :: S) k n H Q := W_s (rfl : (pj lw).1 100 30 = some (.aload 6, 2, 0)) rfl rfl rfl
theorem w100_32 {x : Int32} {l0 l1 l2 : Slot} : W (pj lw) 100 32 (l0 :: l1 :: l2 :: .val (.int x) :: L) S k n H Q ↔ W (pj lw) 100 33 (l0 :: l1 :: l2 :: .val (.int x) :: L) (.int x :: S) k n H Q := W_s (rfl : (pj lw).1 100 32 = some (.iload_n 3, 1, 0)) rfl rfl rfl
theorem w100_33 {a : Nat} {x0 : Int32} : W (pj lw) 100 33 L (.int x0 :: .ref a :: S) k n H Q ↔ ((isO H a = true ∧ cs S + (2 + 11) + 0 ≤ 128) ∧ Cl (pj lw) 10 [.ref a, .int x0] H (fun v H => W (pj lw) 100 36 L (v.toList ++ S) k n H Q)) := W_inst (as := [.int x0]) (rfl : (pj lw).1 100 33 = some (.invokevirtual 20, 3, 10)) rfl rfl rfl (Nat.le_of_ble_eq_true rfl) (Nat.le_of_ble_eq_true rfl) ⟨rfl, rfl⟩
theorem w100_36 {x : Int32} {l0 l1 l2 l3 l4 l5 l6 l7 l8 l9 : Slot} : W (pj lw) 100 36 (l0 :: l1 :: l2 :: l3 :: l4 :: l5 :: l6 :: l7 :: l8 :: l9 :: .unset :: L) (.int x :: S) k n H Q ↔ W (pj lw) 100 38 (l0 :: l1 :: l2 :: l3 :: l4 :: l5 :: l6 :: l7 :: l8 :: l9 :: .val (.int x) :: L) S k n H Q := W_ist (rfl : (pj lw).1 100 36 = some (.istore 10, 2, 0)) rfl rfl
theorem w100_38 {x : Nat} {l0 l1 l2 l3 l4 l5 : Slot} : W (pj lw) 100 38 (l0 :: l1 :: l2 :: l3 :: l4 :: l5 :: .val (.ref x) :: L) S k n H Q ↔ W (pj lw) 100 40 (l0 :: l1 :: l2 :: l3 :: l4 :: l5 :: .val (.ref x) :: L) (.ref x :: S) k n H Q := W_s (rfl : (pj lw).1 100 38 = some (.aload 6, 2, 0)) rfl rfl rfl
theorem w100_40 {a : Nat} : W (pj lw) 100 40 L (.ref a :: S) k n H Q ↔ ((isO H a = true ∧ cs S + (7 + 11) + 13 ≤ 128) ∧ Cl (pj lw) 17 [.ref a] H (fun v H => W (pj lw) 100 43 L (v.toList ++ S) k n H Q)) := W_inst (as := []) (rfl : (pj lw).1 100 40 = some (.invokevirtual 24, 3, 17)) rfl rfl rfl (Nat.le_of_ble_eq_true rfl) (Nat.le_of_ble_eq_true rfl) ⟨rfl, rfl⟩
theorem w100_43 {x : Int32} {l0 l1 l2 l3 l4 l5 l6 l7 l8 l9 l10 : Slot} : W (pj lw) 100 43 (l0 :: l1 :: l2 :: l3 :: l4 :: l5 :: l6 :: l7 :: l8 :: l9 :: l10 :: .unset :: L) (.int x :: S) k n H Q ↔ W (pj lw) 100 45 (l0 :: l1 :: l2 :: l3 :: l4 :: l5 :: l6 :: l7 :: l8 :: l9 :: l10 :: .val (.int x) :: L) S k n H Q := W_ist (rfl : (pj lw).1 100 43 = some (.istore 11, 2, 0)) rfl rfl
theorem w100_45 {x : Nat} {l0 l1 l2 l3 l4 l5 : Slot} : W (pj lw) 100 45 (l0 :: l1 :: l2 :: l3 :: l4 :: l5 :: .val (.ref x) :: L) S k n H Q ↔ W (pj lw) 100 47 (l0 :: l1 :: l2 :: l3 :: l4 :: l5 :: .val (.ref x) :: L) (.ref x :: S) k n H Q := W_s (rfl : (pj lw).1 100 45 = some (.aload 6, 2, 0)) rfl rfl rfl
theorem w100_47 {x : Int32} {l0 l1 : Slot} : W (pj lw) 100 47 (l0 :: l1 :: .val (.int x) :: L) S k n H Q ↔ W (pj lw) 100 48 (l0 :: l1 :: .val (.int x) :: L) (.int x :: S) k n H Q := W_s (rfl : (pj lw).1 100 47 = some (.iload_n 2, 1, 0)) rfl rfl rfl
theorem w100_48 {a : Nat} {x0 : Int32} : W (pj lw) 100 48 L (.int x0 :: .ref a :: S) k n H Q ↔ ((isO H a = true ∧ cs S + (2 + 11) + 13 ≤ 128) ∧ Cl (pj lw) 16 [.ref a, .int x0] H (fun v H => W (pj lw) 100 51 L (v.toList ++ S) k n H Q)) := W_inst (as := [.int x0]) (rfl : (pj lw).1 100 48 = some (.invokevirtual 28, 3, 16)) rfl rfl rfl (Nat.le_of_ble_eq_true rfl) (Nat.le_of_ble_eq_true rfl) ⟨rfl, rfl⟩
theorem w100_51uu {x : Int64} {l0 l1 l2 l3 l4 l5 l6 l7 l8 l9 l10 l11 : Slot} : W (pj lw) 100 51 (l0 :: l1 :: l2 :: l3 :: l4 :: l5 :: l6 :: l7 :: l8 :: l9 :: l10 :: l11 :: .unset :: .unset :: L) (.long x :: S) k n H Q ↔ W (pj lw) 100 53 (l0 :: l1 :: l2 :: l3 :: l4 :: l5 :: l6 :: l7 :: l8 :: l9 :: l10 :: l11 :: .val (.long x) :: .second :: L) S k n H Q := W_lst (rfl : (pj lw).1 100 51 = some (.lstore 12, 2, 0)) rfl rfl rfl rfl
theorem w100_53 {x : Nat} {l0 l1 l2 l3 l4 l5 : Slot} : W (pj lw) 100 53 (l0 :: l1 :: l2 :: l3 :: l4 :: l5 :: .val (.ref x) :: L) S k n H Q ↔ W (pj lw) 100 55 (l0 :: l1 :: l2 :: l3 :: l4 :: l5 :: .val (.ref x) :: L) (.ref x :: S) k n H Q := W_s (rfl : (pj lw).1 100 53 = some (.aload 6, 2, 0)) rfl rfl rfl
theorem w100_55 {a : Nat} : W (pj lw) 100 55 L (.ref a :: S) k n H Q ↔ ((isO H a = true ∧ cs S + (1 + 11) + 0 ≤ 128) ∧ Cl (pj lw) 4 [.ref a] H (fun v H => W (pj lw) 100 58 L (v.toList ++ S) k n H Q)) := W_inst (as := []) (rfl : (pj lw).1 100 55 = some (.invokevirtual 31, 3, 4)) rfl rfl rfl (Nat.le_of_ble_eq_true rfl) (Nat.le_of_ble_eq_true rfl) ⟨rfl, rfl⟩
theorem w100_58 {x : Int32} {l0 l1 l2 l3 l4 l5 l6 l7 l8 l9 l10 l11 l12 l13 : Slot} : W (pj lw) 100 58 (l0 :: l1 :: l2 :: l3 :: l4 :: l5 :: l6 :: l7 :: l8 :: l9 :: l10 :: l11 :: l12 :: l13 :: .unset :: L) (.int x :: S) k n H Q ↔ W (pj lw) 100 60 (l0 :: l1 :: l2 :: l3 :: l4 :: l5 :: l6 :: l7 :: l8 :: l9 :: l10 :: l11 :: l12 :: l13 :: .val (.int x) :: L) S k n H Q := W_ist (rfl : (pj lw).1 100 58 = some (.istore 14, 2, 0)) rfl rfl
theorem w100_60 {x : Int32} {l0 l1 l2 l3 l4 l5 l6 : Slot} : W (pj lw) 100 60 (l0 :: l1 :: l2 :: l3 :: l4 :: l5 :: l6 :: .val (.int x) :: L) S k n H Q ↔ W (pj lw) 100 62 (l0 :: l1 :: l2 :: l3 :: l4 :: l5 :: l6 :: .val (.int x) :: L) (.int x :: S) k n H Q := W_s (rfl : (pj lw).1 100 60 = some (.iload 7, 2, 0)) rfl rfl rfl
theorem w100_62 {x : Int32} : W (pj lw) 100 62 L (.int x :: S) k n H Q ↔ (if x = 0 then W (pj lw) 100 65 L S k n H Q else W (pj lw) 100 100 L S k n H Q) := W_if_ne (rfl : (pj lw).1 100 62 = some (.ifCond .ne 38, 3, 0)) rfl
theorem w100_65 {x : Int64} {l0 l1 l2 l3 l4 l5 l6 l7 : Slot} : W (pj lw) 100 65 (l0 :: l1 :: l2 :: l3 :: l4 :: l5 :: l6 :: l7 :: .val (.long x) :: L) S k n H Q ↔ W (pj lw) 100 67 (l0 :: l1 :: l2 :: l3 :: l4 :: l5 :: l6 :: l7 :: .val (.long x) :: L) (.long x :: S) k n H Q := W_s (rfl : (pj lw).1 100 65 = some (.lload 8, 2, 0)) rfl rfl rfl
theorem w100_67 : W (pj lw) 100 67 L S k n H Q ↔ W (pj lw) 100 68 L (.long 0 :: S) k n H Q := W_s (rfl : (pj lw).1 100 67 = some (.lconst 0, 1, 0)) rfl rfl rfl
theorem w100_68 {x y : Int64} : W (pj lw) 100 68 L (.long y :: .long x :: S) k n H Q ↔ W (pj lw) 100 69 L (.int (Jvm.Free.XT.cmpL x y) :: S) k n H Q := W_s (rfl : (pj lw).1 100 68 = some (.lcmp, 1, 0)) rfl rfl rfl
theorem w100_69 {x : Int32} : W (pj lw) 100 69 L (.int x :: S) k n H Q ↔ (if x = 0 then W (pj lw) 100 72 L S k n H Q else W (pj lw) 100 100 L S k n H Q) := W_if_ne (rfl : (pj lw).1 100 69 = some (.ifCond .ne 31, 3, 0)) rfl
theorem w100_72 {x : Int32} {l0 l1 l2 l3 l4 l5 l6 l7 l8 l9 : Slot} : W (pj lw) 100 72 (l0 :: l1 :: l2 :: l3 :: l4 :: l5 :: l6 :: l7 :: l8 :: l9 :: .val (.int x) :: L) S k n H Q ↔ W (pj lw) 100 74 (l0 :: l1 :: l2 :: l3 :: l4 :: l5 :: l6 :: l7 :: l8 :: l9 :: .val (.int x) :: L) (.int x :: S) k n H Q := W_s (rfl : (pj lw).1 100 72 = some (.iload 10, 2, 0)) rfl rfl rfl
theorem w100_74 : W (pj lw) 100 74 L S k n H Q ↔ W (pj lw) 100 75 L (.int (-1) :: S) k n H Q := W_s (rfl : (pj lw).1 100 74 = some (.iconst (-1), 1, 0)) rfl rfl rfl
theorem w100_75 {x y : Int32} : W (pj lw) 100 75 L (.int y :: .int x :: S) k n H Q ↔ (if x = y then W (pj lw) 100 78 L S k n H Q else W (pj lw) 100 100 L S k n H Q) := W_icmp_ne (rfl : (pj lw).1 100 75 = some (.if_icmp .ne 25, 3, 0)) rfl
theorem w100_78 {x : Int32} {l0 l1 l2 l3 l4 l5 l6 l7 l8 l9 l10 : Slot} : W (pj lw) 100 78 (l0 :: l1 :: l2 :: l3 :: l4 :: l5 :: l6 :: l7 :: l8 :: l9 :: l10 :: .val (.int x) :: L) S k n H Q ↔ W (pj lw) 100 80 (l0 :: l1 :: l2 :: l3 :: l4 :: l5 :: l6 :: l7 :: l8 :: l9 :: l10 :: .val (.int x) :: L) (.int x :: S) k n H Q := W_s (rfl : (pj lw).1 100 78 = some (.iload 11, 2, 0)) rfl rfl rfl
theorem w100_80 : W (pj lw) 100 80 L S k n H Q ↔ W (pj lw) 100 81 L (.int (-1) :: S) k n H Q := W_s (rfl : (pj lw).1 100 80 = some (.iconst (-1), 1, 0)) rfl rfl rfl
theorem w100_81 {x y : Int32} : W (pj lw) 100 81 L (.int y :: .int x :: S) k n H Q ↔ (if x = y then W (pj lw) 100 84 L S k n H Q else W (pj lw) 100 100 L S k n H Q) := W_icmp_ne (rfl : (pj lw).1 100 81 = some (.if_icmp .ne 19, 3, 0)) rfl
theorem w100_84 {x : Int64} {l0 l1 l2 l3 l4 l5 l6 l7 l8 l9 l10 l11 : Slot} : W (pj lw) 100 84 (l0 :: l1 :: l2 :: l3 :: l4 :: l5 :: l6 :: l7 :: l8 :: l9 :: l10 :: l11 :: .val (.long x) :: L) S k n H Q ↔ W (pj lw) 100 86 (l0 :: l1 :: l2 :: l3 :: l4 :: l5 :: l6 :: l7 :: l8 :: l9 :: l10 :: l11 :: .val (.long x) :: L) (.long x :: S) k n H Q := W_s (rfl : (pj lw).1 100 84 = some (.lload 12, 2, 0)) rfl rfl rfl
theorem w100_86 : W (pj lw) 100 86 L S k n H Q ↔ W (pj lw) 100 87 L (.long 0 :: S) k n H Q := W_s (rfl : (pj lw).1 100 86 = some (.lconst 0, 1, 0)) rfl rfl rfl
theorem w100_87 {x y : Int64} : W (pj lw) 100 87 L (.long y :: .long x :: S) k n H Q ↔ W (pj lw) 100 88 L (.int (Jvm.Free.XT.cmpL x y) :: S) k n H Q := W_s (rfl : (pj lw).1 100 87 = some (.lcmp, 1, 0)) rfl rfl rfl
theorem w100_88 {x : Int32} : W (pj lw) 100 88 L (.int x :: S) k n H Q ↔ (if x = 0 then W (pj lw) 100 91 L S k n H Q else W (pj lw) 100 100 L S k n H Q) := W_if_ne (rfl : (pj lw).1 100 88 = some (.ifCond .ne 12, 3, 0)) rfl
theorem w100_91 {x : Int32} {l0 l1 l2 l3 l4 l5 l6 l7 l8 l9 l10 l11 l12 l13 : Slot} : W (pj lw) 100 91 (l0 :: l1 :: l2 :: l3 :: l4 :: l5 :: l6 :: l7 :: l8 :: l9 :: l10 :: l11 :: l12 :: l13 :: .val (.int x) :: L) S k n H Q ↔ W (pj lw) 100 93 (l0 :: l1 :: l2 :: l3 :: l4 :: l5 :: l6 :: l7 :: l8 :: l9 :: l10 :: l11 :: l12 :: l13 :: .val (.int x) :: L) (.int x :: S) k n H Q := W_s (rfl : (pj lw).1 100 91 = some (.iload 14, 2, 0)) rfl rfl rfl
theorem w100_93 {x : Int32} : W (pj lw) 100 93 L (.int x :: S) k n H Q ↔ (if x = 0 then W (pj lw) 100 96 L S k n H Q else W (pj lw) 100 100 L S k n H Q) := W_if_ne (rfl : (pj lw).1 100 93 = some (.ifCond .ne 7, 3, 0)) rfl
theorem w100_96 : W (pj lw) 100 96 L S k n H Q ↔ W (pj lw) 100 97 L (.int 1 :: S) k n H Q := W_s (rfl : (pj lw).1 100 96 = some (.iconst 1, 1, 0)) rfl rfl rfl
theorem w100_97 : W (pj lw) 100 97 L S k n H Q ↔ W (pj lw) 100 101 L S k n H Q := W_goto (rfl : (pj lw).1 100 97 = some (.goto 4, 3, 0)) rfl
theorem w100_100 : W (pj lw) 100 100 L S k n H Q ↔ W (pj lw) 100 101 L (.int 0 :: S) k n H Q := W_s (rfl : (pj lw).1 100 100 = some (.iconst 0, 1, 0)) rfl rfl rfl
theorem w100_101 {x : Int32} : W (pj lw) 100 101 L (.int x :: S) k n H Q ↔ ((x = 0 ∨ x = 1) ∧ Q (some (.int x)) H) := W_rz (rfl : (pj lw).1 100 101 = some (.ireturn, 1, 0)) rfl
end LPc
set_option maxRecDepth 100000 in
theorem law_ok (i0 i1 i2 i3 i4 i5 : Int32) (N : Nat) : Cl (pj lw) 100 [.int i0, .int i1, .int i2, .int i3, .int i4, .int i5] (H0 N) (fun v _ => v = some (.int 1)) := by
  rw [c100]
  simp +decide only [w100_0, w100_3, w100_4, w100_5, w100_6, w100_9, w100_11, w100_13, w100_14, w100_16, w100_19, w100_21, w100_23, w100_25, w100_28uu, w100_30, w100_32, w100_33, w100_36, w100_38, w100_40, w100_43, w100_45, w100_47, w100_48, w100_51uu, w100_53, w100_55, w100_58, w100_60, w100_62, w100_65, w100_67, w100_68, w100_69, w100_72, w100_74, w100_75, w100_78, w100_80, w100_81, w100_84, w100_86, w100_87, w100_88, w100_91, w100_93, w100_96, w100_97, w100_100, w100_101, zr_z0, zr_uI, zr_uJ, isO_put, isOw_put, put_fst, okv_int, okv_long, okv_ref, okv_bool, okv_byte, cat1_unset, cat1_int, cat1_ref, cs_nil, cs_int, cs_ref, cs_long, cmpL_lt, cmpL_gt, cmpL_eq, sI_uI, sI_uJ, sI_uA, sI_uB, sJ_uI, sJ_uJ, sJ_uA, sJ_uB, sA_uI, sA_uJ, sA_uA, sA_uB, sB_uI, sB_uJ, sB_uA, sB_uB, sI_fA, sJ_fA, sA_fA, sB_fA, sI_z0, sJ_z0, sA_z0, sB_z0, Option.toList_some, Option.toList_none, List.cons_append, List.nil_append, true_and, and_true, false_and, and_false, or_false, false_or, or_true, true_or, not_true_eq_false, not_false_eq_true, ↓reduceIte, Nat.reduceAdd, Nat.reduceLeDiff, Nat.reduceEqDiff, Nat.reduceSub, Int32.reduceAdd, Int32.reduceSub, Int32.reduceMul, Int32.reduceToNatClampNeg, Int64.reduceAdd, Int64.reduceSub, Int64.reduceMul, Int64.reduceLT, Int32.reduceLT, Int32.reduceToInt, Nat.add_zero, Nat.zero_add, Nat.le_refl, eq_self, implies_true, ne_eq, g0, s0, g1, s1, g2, g3, s3, g4, g5, g6, s6, g7, s7, g8, s8, g9, s9, g10, s10, g11, s11, g12, s12, g13, s13, g14, g15, g16, g17, g18, g19, g20, g21, g22, g23, g24, g25, g26, s26, g27, s27, ai1, aw1, ae1, as1, ai2, aw2, ae2, as2, ai3, aw3, ae3, as3, ai4, aw4, ae4, as4, ai5, aw5, ae5, as5, ai6, aw6, ae6, as6, ai7, aw7, ae7, as7, ai8, aw8, ae8, as8, ai9, aw9, ae9, as9, ai10, aw10, ae10, as10, ai11, aw11, ae11, as11, ai12, aw12, ae12, as12, ai13, aw13, ae13, as13, ai14, aw14, ae14, as14, ai15, aw15, ae15, as15, mkO_ob, t1, ini0, H0, c4, w4_0, w4_1, w4_4, c10, w10_0, w10_1, w10_4, w10_7, w10_8, w10_11, w10_12, w10_13, w10_16, w10_19, w10_20, w10_22, w10_25, w10_26, w10_27, w10_28, w10_31, w10_32, w10_33, c14, w14_0, w14_1, w14_2, w14_5, w14_8, w14_9, w14_10, w14_11, w14_14, w14_15, w14_17, w14_20, w14_21, w14_22, w14_23, w14_26, w14_27, w14_28, w14_29, w14_30, w14_31, c15, w15_0, w15_1, w15_4, w15_7, w15_8, w15_9, w15_10, w15_11uu, w15_12, w15_13, w15_14, w15_15, w15_18, w15_19j, w15_20, w15_21, w15_24, w15_25, w15_28, w15_31j, w15_32, w15_33, w15_37, w15_38, w15_41, w15_44, w15_46, w15_48, w15_51, w15_52, w15_57j, w15_57uu, w15_59, w15_61, w15_62, w15_63, w15_66, w15_68j, w15_69, w15_72, w15_75, w15_76i, w15_80, w15_81, w15_84, w15_87, w15_89, w15_91, w15_94, w15_95, w15_96, w15_99, w15_101, w15_102, w15_103j, w15_103uu, w15_105, w15_107, w15_108, w15_111, w15_114, w15_115, w15_118, w15_120, w15_121, w15_122, w15_124, w15_125, w15_126, w15_129, w15_130, w15_133, w15_135, w15_136, w15_137, w15_139, w15_140, w15_141, w15_144, w15_147, w15_148, c16, w16_0, w16_1, w16_2, w16_5, w16_8, w16_9, w16_10, w16_11, w16_14, w16_15, w16_16, c17, w17_0, w17_1, w17_4, w17_7, w17_8, w17_9, w17_10, w17_11, w17_12, w17_16uu, w17_17, w17_18, w17_22, w17_23, w17_26, w17_29, w17_31, w17_33, w17_36, w17_37, w17_42j, w17_42uu, w17_44, w17_46, w17_47, w17_48, w17_51, w17_53j, w17_54, w17_56i, w17_57, w17_60, w17_63, w17_64, c18, w18_0, w18_1, w18_4, w18_7, w18_8, w18_11, w18_12, w18_13, w18_16, w18_19, w18_20, w18_22, w18_25, w18_26, w18_29, w18_30]

end Jvm.JX.Lw
namespace Jvm.Pilot.@@N@@
open Jvm Jvm.ClassFile Sem Op Lib Jvm.Free Jvm.Stand Jvm.LawKit Jvm.RoadKit Bundle Jvm.Pilot.@@N@@.Jvm.D Jvm.JX Jvm.JX.Pj Jvm.JX.Lw
def nmL : List (Nat × MethodName) := [(1, ⟨"ChemBalancer", "<init>", "(II)V"⟩), (4, ⟨"ChemBalancer", "getLength", "()I"⟩), (10, ⟨"ChemBalancer", "getElementCode", "(I)I"⟩), (14, ⟨"ChemBalancer", "setAmount", "(II)Z"⟩), (15, ⟨"ChemBalancer", "run", "(I)J"⟩), (16, ⟨"ChemBalancer", "getAmount", "(I)J"⟩), (17, ⟨"ChemBalancer", "getLimiting", "()I"⟩), (18, ⟨"ChemBalancer", "validSpecies", "(I)Z"⟩), (100, ⟨"ChemBalancerL1", "law", "(IIIIII)Z"⟩)]
def nm (m : Nat) : MethodName := (nmL.lookup m).getD ⟨"", "", ""⟩
def btL : List (Nat × ByteArray) := [(1, prog_1_method_1_code), (4, prog_1_method_4_code), (10, prog_1_method_10_code), (14, prog_1_method_14_code), (15, prog_1_method_15_code), (16, prog_1_method_16_code), (17, prog_1_method_17_code), (18, prog_1_method_18_code), (100, code)]
def bt (m : Nat) : ByteArray := (btL.lookup m).getD ⟨#[]⟩
def fnL : List (String × String) := [("maxSpecies", "I"), ("maxElements", "I"), ("buf", "[I"), ("len", "I"), ("openStack", "[I"), ("seenCodes", "[I"), ("seenCount", "I"), ("parsedSpecies", "I"), ("parsedLeft", "I"), ("numEnd", "I"), ("present", "Z"), ("n", "I"), ("left", "I"), ("elems", "I"), ("elemCode", "[I"), ("count", "[I"), ("charge", "[I"), ("coef", "[J"), ("amount", "[J"), ("cnt", "[J"), ("acc", "[J"), ("mat", "[J"), ("work", "[J"), ("perm", "[I"), ("sel", "[I"), ("vec", "[J"), ("swapSign", "I"), ("lastPivot", "J")]
def fn (k : Nat) : String × String := fnL.getD k ("", "")
def RL : List Nat := [1, 4, 10, 14, 15, 16, 17, 18, 100]
def FS : List Nat := [0, 1, 2, 3, 4, 5, 10, 11, 12, 13, 14, 15, 16, 17, 18, 19, 20, 21, 22, 23, 24, 25]
def WF : List Nat := [0, 1, 3, 10, 11, 12, 13]
def FL : List (Nat × Nat × Nat) := [(0, 7, 2), (0, 13, 4), (0, 16, 5), (0, 19, 14), (0, 22, 15), (0, 25, 16), (0, 28, 17), (0, 32, 18), (0, 35, 19), (0, 38, 20), (0, 41, 21), (0, 44, 22), (0, 47, 23), (0, 50, 24), (0, 53, 25), (0, 56, 0), (0, 60, 1), (0, 63, 3), (0, 66, 10), (0, 93, 13), (0, 90, 12), (0, 84, 11)]
def ML : List (Nat × Nat × Nat) := [(0, 112, 18), (1, 9, 1), (1, 12, 14), (1, 16, 15), (1, 20, 10), (1, 24, 17), (1, 28, 16), (1, 31, 4)]
def KI : List (Nat × Nat × Int) := [(0, 115, 100000)]
def KJ : List (Nat × Nat × Int) := [(0, 116, 100000)]
def ATL : List FieldType := [.int, .long]
def cn (j : Nat) : String := if j = 0 then "ChemBalancer" else "ChemBalancerL1"
def own (m : Nat) : Nat := if m < 100 then 0 else 1
def ini (m : Nat) : Bool := m == 1
def rowsOf (m : Nat) : List Jvm.JX.Row := if m < 100 then prows.getD m [] else lrows.getD (m - 100) []
theorem hFL : ∀ t ∈ FL, t.2.2 ∈ FS ∧ Jvm.Cond.fieldLink (cn t.1) t.2.1 "ChemBalancer" (fn t.2.2).1 (fn t.2.2).2 ∈ tables_1 := (faS ⟨by decide, (List.mem_of_getElem? (i := 10) rfl)⟩ (faS ⟨by decide, (List.mem_of_getElem? (i := 12) rfl)⟩ (faS ⟨by decide, (List.mem_of_getElem? (i := 14) rfl)⟩ (faS ⟨by decide, (List.mem_of_getElem? (i := 16) rfl)⟩ (faS ⟨by decide, (List.mem_of_getElem? (i := 18) rfl)⟩ (faS ⟨by decide, (List.mem_of_getElem? (i := 20) rfl)⟩ (faS ⟨by decide, (List.mem_of_getElem? (i := 23) rfl)⟩ (faS ⟨by decide, (List.mem_of_getElem? (i := 25) rfl)⟩ (faS ⟨by decide, (List.mem_of_getElem? (i := 27) rfl)⟩ (faS ⟨by decide, (List.mem_of_getElem? (i := 29) rfl)⟩ (faS ⟨by decide, (List.mem_of_getElem? (i := 31) rfl)⟩ (faS ⟨by decide, (List.mem_of_getElem? (i := 33) rfl)⟩ (faS ⟨by decide, (List.mem_of_getElem? (i := 35) rfl)⟩ (faS ⟨by decide, (List.mem_of_getElem? (i := 37) rfl)⟩ (faS ⟨by decide, (List.mem_of_getElem? (i := 39) rfl)⟩ (faS ⟨by decide, (List.mem_of_getElem? (i := 41) rfl)⟩ (faS ⟨by decide, (List.mem_of_getElem? (i := 43) rfl)⟩ (faS ⟨by decide, (List.mem_of_getElem? (i := 45) rfl)⟩ (faS ⟨by decide, (List.mem_of_getElem? (i := 47) rfl)⟩ (faS ⟨by decide, (List.mem_of_getElem? (i := 89) rfl)⟩ (faS ⟨by decide, (List.mem_of_getElem? (i := 87) rfl)⟩ (faS ⟨by decide, (List.mem_of_getElem? (i := 84) rfl)⟩ fa0))))))))))))))))))))))
theorem hWF : ∀ k ∈ WF, Jvm.Cond.lays "ChemBalancer" "ChemBalancer" (fn k).1 (fn k).2 ∈ tables_1 := (faS (List.mem_of_getElem? (i := 42) rfl) (faS (List.mem_of_getElem? (i := 44) rfl) (faS (List.mem_of_getElem? (i := 46) rfl) (faS (List.mem_of_getElem? (i := 48) rfl) (faS (List.mem_of_getElem? (i := 85) rfl) (faS (List.mem_of_getElem? (i := 88) rfl) (faS (List.mem_of_getElem? (i := 90) rfl) fa0)))))))
theorem hML : ∀ t ∈ ML, t.2.2 ∈ RL ∧ Jvm.Cond.methodLink (cn t.1) t.2.1 (nm t.2.2) ∈ tables_1 := (faS ⟨by decide, (List.mem_of_getElem? (i := 54) rfl)⟩ (faS ⟨by decide, (List.mem_of_getElem? (i := 3) rfl)⟩ (faS ⟨by decide, (List.mem_of_getElem? (i := 49) rfl)⟩ (faS ⟨by decide, (List.mem_of_getElem? (i := 58) rfl)⟩ (faS ⟨by decide, (List.mem_of_getElem? (i := 63) rfl)⟩ (faS ⟨by decide, (List.mem_of_getElem? (i := 68) rfl)⟩ (faS ⟨by decide, (List.mem_of_getElem? (i := 73) rfl)⟩ (faS ⟨by decide, (List.mem_of_getElem? (i := 78) rfl)⟩ fa0))))))))
theorem hKI : ∀ t ∈ KI, Jvm.Cond.constant (cn t.1) t.2.1 (Int32.ofInt t.2.2) ∈ tables_1 := (faS (List.mem_of_getElem? (i := 83) rfl) fa0)
theorem hKJ : ∀ t ∈ KJ, Jvm.Cond.constantLong (cn t.1) t.2.1 (Int64.ofInt t.2.2) ∈ tables_1 := (faS (List.mem_of_getElem? (i := 86) rfl) fa0)
theorem hAT : ∀ t ∈ ATL, Jvm.Cond.arrayClass t ∈ tables_1 := (faS (List.mem_of_getElem? (i := 9) rfl) (faS (List.mem_of_getElem? (i := 22) rfl) fa0))
theorem hrows : RL.all (fun m => (rowsOf m).all (rowOne FL ML KI KJ ATL WF 28 7 bt own ini m)) = true := by decide +kernel
theorem cal1 : CalOk (pj lw) tables_1 "ChemBalancer" nm bt 1 := ⟨(List.mem_of_getElem? (i := 5) rfl), (List.mem_of_getElem? (i := 2) rfl), ⟨[.int, .int], none, by decide +kernel, rfl⟩, fun h => absurd h (by decide), fun _ => ⟨rfl, (List.mem_of_getElem? (i := 4) rfl)⟩, fun h => absurd h (by decide), fun h => absurd h (by decide), fun _ => ⟨rfl, rfl⟩⟩
theorem cal4 : CalOk (pj lw) tables_1 "ChemBalancer" nm bt 4 := ⟨(List.mem_of_getElem? (i := 82) rfl), (List.mem_of_getElem? (i := 2) rfl), ⟨[], some .int, by decide +kernel, rfl⟩, fun h => absurd h (by decide), fun _ => ⟨rfl, (List.mem_of_getElem? (i := 80) rfl)⟩, fun _ => ⟨(List.mem_of_getElem? (i := 79) rfl), (List.mem_of_getElem? (i := 81) rfl)⟩, fun h => absurd h (by decide), fun h => absurd h (by decide)⟩
theorem cal10 : CalOk (pj lw) tables_1 "ChemBalancer" nm bt 10 := ⟨(List.mem_of_getElem? (i := 67) rfl), (List.mem_of_getElem? (i := 2) rfl), ⟨[.int], some .int, by decide +kernel, rfl⟩, fun h => absurd h (by decide), fun _ => ⟨rfl, (List.mem_of_getElem? (i := 65) rfl)⟩, fun _ => ⟨(List.mem_of_getElem? (i := 64) rfl), (List.mem_of_getElem? (i := 66) rfl)⟩, fun h => absurd h (by decide), fun h => absurd h (by decide)⟩
theorem cal14 : CalOk (pj lw) tables_1 "ChemBalancer" nm bt 14 := ⟨(List.mem_of_getElem? (i := 53) rfl), (List.mem_of_getElem? (i := 2) rfl), ⟨[.int, .int], some .boolean, by decide +kernel, rfl⟩, fun h => absurd h (by decide), fun _ => ⟨rfl, (List.mem_of_getElem? (i := 51) rfl)⟩, fun _ => ⟨(List.mem_of_getElem? (i := 50) rfl), (List.mem_of_getElem? (i := 52) rfl)⟩, fun h => absurd h (by decide), fun h => absurd h (by decide)⟩
theorem cal15 : CalOk (pj lw) tables_1 "ChemBalancer" nm bt 15 := ⟨(List.mem_of_getElem? (i := 62) rfl), (List.mem_of_getElem? (i := 2) rfl), ⟨[.int], some .long, by decide +kernel, rfl⟩, fun h => absurd h (by decide), fun _ => ⟨rfl, (List.mem_of_getElem? (i := 60) rfl)⟩, fun _ => ⟨(List.mem_of_getElem? (i := 59) rfl), (List.mem_of_getElem? (i := 61) rfl)⟩, fun h => absurd h (by decide), fun h => absurd h (by decide)⟩
theorem cal16 : CalOk (pj lw) tables_1 "ChemBalancer" nm bt 16 := ⟨(List.mem_of_getElem? (i := 77) rfl), (List.mem_of_getElem? (i := 2) rfl), ⟨[.int], some .long, by decide +kernel, rfl⟩, fun h => absurd h (by decide), fun _ => ⟨rfl, (List.mem_of_getElem? (i := 75) rfl)⟩, fun _ => ⟨(List.mem_of_getElem? (i := 74) rfl), (List.mem_of_getElem? (i := 76) rfl)⟩, fun h => absurd h (by decide), fun h => absurd h (by decide)⟩
theorem cal17 : CalOk (pj lw) tables_1 "ChemBalancer" nm bt 17 := ⟨(List.mem_of_getElem? (i := 72) rfl), (List.mem_of_getElem? (i := 2) rfl), ⟨[], some .int, by decide +kernel, rfl⟩, fun h => absurd h (by decide), fun _ => ⟨rfl, (List.mem_of_getElem? (i := 70) rfl)⟩, fun _ => ⟨(List.mem_of_getElem? (i := 69) rfl), (List.mem_of_getElem? (i := 71) rfl)⟩, fun h => absurd h (by decide), fun h => absurd h (by decide)⟩
theorem cal18 : CalOk (pj lw) tables_1 "ChemBalancer" nm bt 18 := ⟨(List.mem_of_getElem? (i := 57) rfl), (List.mem_of_getElem? (i := 2) rfl), ⟨[.int], some .boolean, by decide +kernel, rfl⟩, fun h => absurd h (by decide), fun _ => ⟨rfl, (List.mem_of_getElem? (i := 55) rfl)⟩, fun h => absurd h (by decide), fun _ => (List.mem_of_getElem? (i := 56) rfl), fun h => absurd h (by decide)⟩
theorem hcal : ∀ m ∈ RL, m ≠ 100 → CalOk (pj lw) tables_1 "ChemBalancer" nm bt m := (faS (fun _ => cal1) (faS (fun _ => cal4) (faS (fun _ => cal10) (faS (fun _ => cal14) (faS (fun _ => cal15) (faS (fun _ => cal16) (faS (fun _ => cal17) (faS (fun _ => cal18) (faS (fun h => absurd rfl h) fa0)))))))))
theorem hfld : ∀ k ∈ FS, parseFieldDescriptor (fn k).2 = some ((pj lw).2.2.1 k) ∧ (Jvm.Cond.lays "ChemBalancer" "ChemBalancer" (fn k).1 (fn k).2 ∈ tables_1 ∨ Jvm.Cond.laysFinal "ChemBalancer" "ChemBalancer" (fn k).1 (fn k).2 ∈ tables_1) := (faS ⟨by decide +kernel, Or.inl (List.mem_of_getElem? (i := 42) rfl)⟩ (faS ⟨by decide +kernel, Or.inl (List.mem_of_getElem? (i := 44) rfl)⟩ (faS ⟨by decide +kernel, Or.inr (List.mem_of_getElem? (i := 11) rfl)⟩ (faS ⟨by decide +kernel, Or.inl (List.mem_of_getElem? (i := 46) rfl)⟩ (faS ⟨by decide +kernel, Or.inr (List.mem_of_getElem? (i := 13) rfl)⟩ (faS ⟨by decide +kernel, Or.inr (List.mem_of_getElem? (i := 15) rfl)⟩ (faS ⟨by decide +kernel, Or.inl (List.mem_of_getElem? (i := 48) rfl)⟩ (faS ⟨by decide +kernel, Or.inl (List.mem_of_getElem? (i := 85) rfl)⟩ (faS ⟨by decide +kernel, Or.inl (List.mem_of_getElem? (i := 88) rfl)⟩ (faS ⟨by decide +kernel, Or.inl (List.mem_of_getElem? (i := 90) rfl)⟩ (faS ⟨by decide +kernel, Or.inr (List.mem_of_getElem? (i := 17) rfl)⟩ (faS ⟨by decide +kernel, Or.inr (List.mem_of_getElem? (i := 19) rfl)⟩ (faS ⟨by decide +kernel, Or.inr (List.mem_of_getElem? (i := 21) rfl)⟩ (faS ⟨by decide +kernel, Or.inr (List.mem_of_getElem? (i := 24) rfl)⟩ (faS ⟨by decide +kernel, Or.inr (List.mem_of_getElem? (i := 26) rfl)⟩ (faS ⟨by decide +kernel, Or.inr (List.mem_of_getElem? (i := 28) rfl)⟩ (faS ⟨by decide +kernel, Or.inr (List.mem_of_getElem? (i := 30) rfl)⟩ (faS ⟨by decide +kernel, Or.inr (List.mem_of_getElem? (i := 32) rfl)⟩ (faS ⟨by decide +kernel, Or.inr (List.mem_of_getElem? (i := 34) rfl)⟩ (faS ⟨by decide +kernel, Or.inr (List.mem_of_getElem? (i := 36) rfl)⟩ (faS ⟨by decide +kernel, Or.inr (List.mem_of_getElem? (i := 38) rfl)⟩ (faS ⟨by decide +kernel, Or.inr (List.mem_of_getElem? (i := 40) rfl)⟩ fa0))))))))))))))))))))))
theorem good : Good (pj lw) tables_1 "ChemBalancer" fn FS 28 nm bt RL 100 := by
  refine ⟨(List.mem_of_getElem? (i := 1) rfl), (List.mem_of_getElem? (i := 2) rfl), hfld, by decide +kernel, fun m hm => ?_, hcal, fun m _ pc ins len aux _ _ => by cases ins <;> rfl⟩
  have hpl : plainName "ChemBalancer" = true ∧ plainName "ChemBalancerL1" = true := ⟨by first | (simp [plainName, overriddenIn]; done) | decide +kernel, by first | (simp [plainName, overriddenIn]; done) | decide +kernel⟩
  have hcn : ∀ m ∈ RL, (nm m).cls = cn (own m) := by decide +kernel
  have hin : ∀ m ∈ RL, ini m = true → (nm m).cls = "ChemBalancer" ∧ (nm m).name = "<init>" := by decide +kernel
  have hor : (nm m).cls = "ChemBalancer" ∨ (nm m).cls = "ChemBalancerL1" := by rw [hcn m hm]; unfold cn; split <;> simp
  refine ⟨by rcases hor with h | h <;> rw [h] <;> simp [hpl], by rcases hor with h | h <;> rw [h] <;> decide, fun pc ins len aux h => ?_⟩
  have hmem : (pc, ins, len, aux) ∈ rowsOf m := by
    unfold rowsOf
    by_cases g : m < 100
    · rw [if_pos g]; exact lookup_mem (by simpa [pj, g] using h)
    · rw [if_neg g]; exact lookup_mem (by simpa [pj, lw, g] using h)
  have hrow := List.all_eq_true.mp (List.all_eq_true.mp hrows m hm) _ hmem
  simp only [rowOne, Bool.and_eq_true, decide_eq_true_eq] at hrow
  exact ⟨hrow.1.1, hrow.1.2, row_ok (hcn m hm) (hin m hm) hFL hWF hML hKI hKJ hAT (List.mem_of_getElem? (i := 0) rfl) ⟨(List.mem_of_getElem? (i := 6) rfl), (List.mem_of_getElem? (i := 7) rfl), (List.mem_of_getElem? (i := 8) rfl)⟩ hrow.2⟩
set_option maxRecDepth 65536 in
set_option maxHeartbeats 40000000 in
theorem comes_1 {Post : Tables → Env → Array Value → State → Outcome → State → Prop} (hpost : ∀ tb e args s v u, (limb_1_1.after args s (.returned v) u = true ∧ limb_1_2.after args s (.returned v) u = true ∧ True) → FrameEnd s (.returned v) u (Jvm.fieldLocs frame_1_writes args s ++ Jvm.arrayLocs frame_1_arrays args s ++ Jvm.staticLocs frame_1_statics s) 40 1152 → Post tb e args s (.returned v) u) :
    ArmFor flags0 classFile x code maxLocals ret World_1 tables_1 room_1 Calls_1 rest_1 Pre_1 Post := by
  intro l hfl _ _ p e ha hc hk s m args below hf hA hF happ hP
  obtain ⟨hcalls, hrest, hpre⟩ := hP
  obtain ⟨-, -, -, hnamed, -, -, -, hat⟩ := (Spec.applies_iff hf).mp happ
  obtain ⟨hg, hn⟩ := and_e (Cond.before_iff.mp (show (Jvm.Cond.and given_1 narrow_1).before args s = true from hpre))
  have hw := fun d (hd : d ∈ tables_1) => atoms_spec (ws := Jvm.Cond.code x code maxLocals ret :: tables_1) hat d (List.mem_cons_of_mem _ hd)
  obtain ⟨g0, r0⟩ := and_e hg
  obtain ⟨w0, w1, w2, w3, w4, w5, rfl⟩ : ∃ w0 w1 w2 w3 w4 w5 : Value, args = #[w0, w1, w2, w3, w4, w5] := by
    have hs : args.size = 6 := by simpa [Cond.value, given_1] using g0
    obtain ⟨L⟩ := args
    match L, hs with
    | [w0, w1, w2, w3, w4, w5], _ => exact ⟨w0, w1, w2, w3, w4, w5, rfl⟩
  obtain ⟨g1, r1⟩ := and_e r0
  obtain ⟨g2, r2⟩ := and_e r1
  obtain ⟨g3, r3⟩ := and_e r2
  obtain ⟨g4, r4⟩ := and_e r3
  obtain ⟨g5, r5⟩ := and_e r4
  have g6 := r5
  obtain ⟨i0, e0⟩ := is_v g1
  obtain rfl : w0 = (.int i0) := Option.some.inj e0
  obtain ⟨i1, e1⟩ := is_v g2
  obtain rfl : w1 = (.int i1) := Option.some.inj e1
  obtain ⟨i2, e2⟩ := is_v g3
  obtain rfl : w2 = (.int i2) := Option.some.inj e2
  obtain ⟨i3, e3⟩ := is_v g4
  obtain rfl : w3 = (.int i3) := Option.some.inj e3
  obtain ⟨i4, e4⟩ := is_v g5
  obtain rfl : w4 = (.int i4) := Option.some.inj e4
  obtain ⟨i5, e5⟩ := is_v g6
  obtain rfl : w5 = (.int i5) := Option.some.inj e5
  obtain ⟨n, o, h1, h2, h3, _, L, rfl, ⟨N, H2, rfl⟩, hq⟩ := law_met (l := l) (Z := s) (a0 := _) (n0 := s.heap.size) good hw (as := [.int i0, .int i1, .int i2, .int i3, .int i4, .int i5]) (h := s.heap) tables_1 (by decide) (by simp [Sym.laidSlots, Value.category]; decide) (rel_H0 s.heap) (law_ok i0 i1 i2 i3 i4 i5 s.heap.size) p e ha hc hk s m _ below hf ((Spec.applies_iff_loose hf).mp happ).1 ⟨rfl, State.Warmed39.refl s, rfl⟩ trivial
  exact ⟨n, _, h1, h2, h3, hpost _ _ _ _ _ _ ⟨Cond.after_iff.mpr rfl, Cond.after_iff.mpr (eq_i res_at (Term.int_eval (1)) rfl), trivial⟩ ⟨hq.1, hq.2.1, (hq.2.2.sift fun y hy => Or.inr (N y hy)).mono (by decide) (by decide)⟩⟩
theorem main_1_1 : Claimed_1_1 := comes_1 fun _ _ _ _ _ _ h hF => ⟨h.1, hF⟩
theorem main_1_2 : Claimed_1_2 := comes_1 fun _ _ _ _ _ _ h hF => ⟨h.2.1, hF⟩
end Jvm.Pilot.@@N@@
namespace Jvm.Pilot.@@N@@
open Jvm Jvm.ClassFile Sem Op Lib Jvm.Free Jvm.Stand Jvm.Pilot.@@N@@.Jvm.D
/-! MADE BY PROGRAM (witnessworld.py) out of the Statement's table words and the real class files: 11 classes; the members and pool entries that the words name. The judged class is class 1, her method 1. -/
namespace start1
open Jvm.ClassFile
def u (s : String) : CpInfo := .utf8 (stringToUtf16 s)
/-- a pool by its gaps: so many unusable entries, then the entry; so many at the end -/
def gap : Nat → List CpInfo → List CpInfo
  | 0, r => r
  | n + 1, r => .unusable :: gap n r
def poolList (es : List (Nat × CpInfo)) (last : Nat) : List CpInfo := es.foldr (fun e r => gap e.1 (e.2 :: r)) (gap last [])
def pool (es : List (Nat × CpInfo)) (last : Nat) : Array CpInfo := ⟨poolList es last⟩
def fileOf (pool : Array CpInfo) (this : Nat) (attrs : Array Attribute := #[]) (ms : Array MethodInfo := #[]) (fl : Nat := 33) (sup : Nat := 0) (ifs : Array Nat := #[]) (fds : Array FieldInfo := #[]) : ClassFile where
  minorVersion := 0
  majorVersion := 65
  constantPool := pool
  accessFlags := fl
  thisClass := this
  superClass := sup
  interfaces := ifs
  fields := fds
  methods := ms
  attributes := attrs
def plain (name : String) (sup : Option ClassId) : Class where
  name := name
  kind := .ordinary
  loader := none
  accessFlags := 33
  super := sup
  interfaces := #[]
  cf := none
  fields := #[]
  methods := #[]
  instanceTypes := #[]
  staticTypes := #[]
  resolved := #[]
  callSites := []
  init := .initialized
  statics := none
  mirror := none

def pool0 : Array CpInfo := pool [(5, u "<init>"), (0, u "()V"), (1, .class_ 10), (1, u "java/lang/Object")] 113

def k0c0 : Code := { maxStack := 0, maxLocals := 1, code := object_method_1_code, exceptionTable := #[], attributes := #[] }
def k0m0 : Method := { name := "<init>", desc := "()V", sig := { parameters := [], returnType := none }, accessFlags := 1, code := some k0c0 }
/-- java/lang/Object -/
def k0 : Class := { plain "java/lang/Object" none with
  accessFlags := 33
  interfaces := #[]
  cf := some (fileOf pool0 8 #[] #[{ accessFlags := 1, nameIndex := 5, descriptorIndex := 6, attributes := #[] }] 33 0 #[] #[])
  fields := #[]
  methods := #[k0m0]
  instanceTypes := #[]
  staticTypes := #[]
  resolved := Array.replicate 124 none
  statics := none }

def pool1 : Array CpInfo := pool [(2, .class_ 4), (1, u "java/lang/Object"), (0, u "<init>"), (0, u "()V"), (0, .class_ 8), (0, u "ChemBalancer"), (0, .methodref 7 10), (0, .nameAndType 5 11), (0, u "(II)V"), (0, .methodref 7 13), (0, .nameAndType 14 15), (0, u "setAmount"), (0, u "(II)Z"), (0, .methodref 7 17), (0, .nameAndType 18 19), (0, u "run"), (0, u "(I)J"), (0, .methodref 7 21), (0, .nameAndType 22 23), (0, u "getElementCode"), (0, u "(I)I"), (0, .methodref 7 25), (0, .nameAndType 26 27), (0, u "getLimiting"), (0, u "()I"), (0, .methodref 7 29), (0, .nameAndType 30 19), (0, u "getAmount"), (0, .methodref 7 32), (0, .nameAndType 33 27), (0, u "getLength"), (0, .class_ 35), (0, u "ChemBalancerL1"), (2, u "law"), (0, u "(IIIIII)Z")] 3

def k1m0 : Method := { name := "<init>", desc := "()V", sig := { parameters := [], returnType := none }, accessFlags := 1, code := none }
def k1c1 : Code := { maxStack := 4, maxLocals := 15, code := code, exceptionTable := #[], attributes := #[] }
def k1m1 : Method := { name := "law", desc := "(IIIIII)Z", sig := { parameters := [.int, .int, .int, .int, .int, .int], returnType := some .boolean }, accessFlags := 9, code := some k1c1 }
/-- ChemBalancerL1 -/
def k1 : Class := { plain "ChemBalancerL1" (some 0) with
  accessFlags := 49
  interfaces := #[]
  cf := some (fileOf pool1 34 #[] #[{ accessFlags := 1, nameIndex := 5, descriptorIndex := 6, attributes := #[] }, { accessFlags := 9, nameIndex := 38, descriptorIndex := 39, attributes := #[] }] 49 2 #[] #[])
  fields := #[]
  methods := #[k1m0, k1m1]
  instanceTypes := #[]
  staticTypes := #[]
  resolved := Array.replicate 43 none
  statics := none }

def pool2 : Array CpInfo := pool [(1, .methodref 2 3), (0, .class_ 4), (0, .nameAndType 5 6), (0, u "java/lang/Object"), (0, u "<init>"), (0, u "()V"), (0, .fieldref 8 9), (0, .class_ 10), (0, .nameAndType 11 12), (0, u "ChemBalancer"), (0, u "buf"), (0, u "[I"), (0, .fieldref 8 14), (0, .nameAndType 15 12), (0, u "openStack"), (0, .fieldref 8 17), (0, .nameAndType 18 12), (0, u "seenCodes"), (0, .fieldref 8 20), (0, .nameAndType 21 12), (0, u "elemCode"), (0, .fieldref 8 23), (0, .nameAndType 24 12), (0, u "count"), (0, .fieldref 8 26), (0, .nameAndType 27 12), (0, u "charge"), (0, .fieldref 8 29), (0, .nameAndType 30 31), (0, u "coef"), (0, u "[J"), (0, .fieldref 8 33), (0, .nameAndType 34 31), (0, u "amount"), (0, .fieldref 8 36), (0, .nameAndType 37 31), (0, u "cnt"), (0, .fieldref 8 39), (0, .nameAndType 40 31), (0, u "acc"), (0, .fieldref 8 42), (0, .nameAndType 43 31), (0, u "mat"), (0, .fieldref 8 45), (0, .nameAndType 46 31), (0, u "work"), (0, .fieldref 8 48), (0, .nameAndType 49 12), (0, u "perm"), (0, .fieldref 8 51), (0, .nameAndType 52 12), (0, u "sel"), (0, .fieldref 8 54), (0, .nameAndType 55 31), (0, u "vec"), (0, .fieldref 8 57), (0, .nameAndType 58 59), (0, u "maxSpecies"), (0, u "I"), (0, .fieldref 8 61), (0, .nameAndType 62 59), (0, u "maxElements"), (0, .fieldref 8 64), (0, .nameAndType 65 59), (0, u "len"), (0, .fieldref 8 67), (0, .nameAndType 68 69), (0, u "present"), (0, u "Z"), (3, u "(I)Z"), (6, u "parsedSpecies"), (2, u "seenCount"), (0, .fieldref 8 85), (0, .nameAndType 86 59), (0, u "n"), (2, u "parsedLeft"), (0, .fieldref 8 91), (0, .nameAndType 92 59), (0, u "left"), (0, .fieldref 8 94), (0, .nameAndType 95 59), (0, u "elems"), (16, .methodref 8 113), (0, .nameAndType 114 73), (0, u "validSpecies"), (0, .integer 100000), (0, .long 100000), (4, u "(I)J"), (12, u "(I)I"), (25, u "numEnd"), (10, u "swapSign"), (2, u "lastPivot"), (0, u "J"), (7, u "(II)V"), (20, u "OK"), (2, u "SYNTAX"), (1, u "TOO_MANY_SPECIES"), (1, u "TOO_MANY_ELEMENTS"), (1, u "COUNT_TOO_BIG"), (1, u "MANY_SOLUTIONS"), (1, u "NO_SOLUTION"), (1, u "BUFFER_CAPACITY"), (1, u "MAX_COUNT"), (1, u "MAX_AMOUNT"), (0, u "MAX_EVENTS"), (5, u "getLength"), (0, u "()I"), (6, u "getElementCode"), (3, u "setAmount"), (0, u "(II)Z"), (0, u "run"), (0, u "getAmount"), (0, u "getLimiting")] 2

def k2c0 : Code := { maxStack := 2, maxLocals := 5, code := prog_1_method_1_code, exceptionTable := #[], attributes := #[] }
def k2m0 : Method := { name := "<init>", desc := "(II)V", sig := { parameters := [.int, .int], returnType := none }, accessFlags := 1, code := some k2c0 }
def k2c1 : Code := { maxStack := 1, maxLocals := 1, code := prog_1_method_4_code, exceptionTable := #[], attributes := #[] }
def k2m1 : Method := { name := "getLength", desc := "()I", sig := { parameters := [], returnType := some .int }, accessFlags := 1, code := some k2c1 }
def k2c2 : Code := { maxStack := 2, maxLocals := 2, code := prog_1_method_10_code, exceptionTable := #[], attributes := #[] }
def k2m2 : Method := { name := "getElementCode", desc := "(I)I", sig := { parameters := [.int], returnType := some .int }, accessFlags := 1, code := some k2c2 }
def k2c3 : Code := { maxStack := 4, maxLocals := 3, code := prog_1_method_14_code, exceptionTable := #[], attributes := #[] }
def k2m3 : Method := { name := "setAmount", desc := "(II)Z", sig := { parameters := [.int, .int], returnType := some .boolean }, accessFlags := 1, code := some k2c3 }
def k2c4 : Code := { maxStack := 6, maxLocals := 7, code := prog_1_method_15_code, exceptionTable := #[], attributes := #[] }
def k2m4 : Method := { name := "run", desc := "(I)J", sig := { parameters := [.int], returnType := some .long }, accessFlags := 1, code := some k2c4 }
def k2c5 : Code := { maxStack := 2, maxLocals := 2, code := prog_1_method_16_code, exceptionTable := #[], attributes := #[] }
def k2m5 : Method := { name := "getAmount", desc := "(I)J", sig := { parameters := [.int], returnType := some .long }, accessFlags := 1, code := some k2c5 }
def k2c6 : Code := { maxStack := 4, maxLocals := 7, code := prog_1_method_17_code, exceptionTable := #[], attributes := #[] }
def k2m6 : Method := { name := "getLimiting", desc := "()I", sig := { parameters := [], returnType := some .int }, accessFlags := 1, code := some k2c6 }
def k2c7 : Code := { maxStack := 2, maxLocals := 2, code := prog_1_method_18_code, exceptionTable := #[], attributes := #[] }
def k2m7 : Method := { name := "validSpecies", desc := "(I)Z", sig := { parameters := [.int], returnType := some .boolean }, accessFlags := 2, code := some k2c7 }
/-- ChemBalancer -/
def k2 : Class := { plain "ChemBalancer" (some 0) with
  accessFlags := 49
  interfaces := #[]
  cf := some (fileOf pool2 8 #[] #[{ accessFlags := 1, nameIndex := 5, descriptorIndex := 183, attributes := #[] }, { accessFlags := 1, nameIndex := 230, descriptorIndex := 231, attributes := #[] }, { accessFlags := 1, nameIndex := 238, descriptorIndex := 134, attributes := #[] }, { accessFlags := 1, nameIndex := 242, descriptorIndex := 243, attributes := #[] }, { accessFlags := 1, nameIndex := 244, descriptorIndex := 121, attributes := #[] }, { accessFlags := 1, nameIndex := 245, descriptorIndex := 121, attributes := #[] }, { accessFlags := 1, nameIndex := 246, descriptorIndex := 231, attributes := #[] }, { accessFlags := 2, nameIndex := 114, descriptorIndex := 73, attributes := #[] }] 49 2 #[] #[{ accessFlags := 25, nameIndex := 204, descriptorIndex := 59, attributes := #[] }, { accessFlags := 25, nameIndex := 207, descriptorIndex := 59, attributes := #[] }, { accessFlags := 25, nameIndex := 209, descriptorIndex := 59, attributes := #[] }, { accessFlags := 25, nameIndex := 211, descriptorIndex := 59, attributes := #[] }, { accessFlags := 25, nameIndex := 213, descriptorIndex := 59, attributes := #[] }, { accessFlags := 25, nameIndex := 215, descriptorIndex := 59, attributes := #[] }, { accessFlags := 25, nameIndex := 217, descriptorIndex := 59, attributes := #[] }, { accessFlags := 25, nameIndex := 219, descriptorIndex := 59, attributes := #[] }, { accessFlags := 25, nameIndex := 221, descriptorIndex := 59, attributes := #[] }, { accessFlags := 25, nameIndex := 223, descriptorIndex := 59, attributes := #[] }, { accessFlags := 25, nameIndex := 224, descriptorIndex := 59, attributes := #[] }, { accessFlags := 2, nameIndex := 58, descriptorIndex := 59, attributes := #[] }, { accessFlags := 2, nameIndex := 62, descriptorIndex := 59, attributes := #[] }, { accessFlags := 18, nameIndex := 11, descriptorIndex := 12, attributes := #[] }, { accessFlags := 2, nameIndex := 65, descriptorIndex := 59, attributes := #[] }, { accessFlags := 18, nameIndex := 15, descriptorIndex := 12, attributes := #[] }, { accessFlags := 18, nameIndex := 18, descriptorIndex := 12, attributes := #[] }, { accessFlags := 2, nameIndex := 83, descriptorIndex := 59, attributes := #[] }, { accessFlags := 2, nameIndex := 80, descriptorIndex := 59, attributes := #[] }, { accessFlags := 2, nameIndex := 89, descriptorIndex := 59, attributes := #[] }, { accessFlags := 2, nameIndex := 160, descriptorIndex := 59, attributes := #[] }, { accessFlags := 2, nameIndex := 68, descriptorIndex := 69, attributes := #[] }, { accessFlags := 2, nameIndex := 86, descriptorIndex := 59, attributes := #[] }, { accessFlags := 2, nameIndex := 92, descriptorIndex := 59, attributes := #[] }, { accessFlags := 2, nameIndex := 95, descriptorIndex := 59, attributes := #[] }, { accessFlags := 18, nameIndex := 21, descriptorIndex := 12, attributes := #[] }, { accessFlags := 18, nameIndex := 24, descriptorIndex := 12, attributes := #[] }, { accessFlags := 18, nameIndex := 27, descriptorIndex := 12, attributes := #[] }, { accessFlags := 18, nameIndex := 30, descriptorIndex := 31, attributes := #[] }, { accessFlags := 18, nameIndex := 34, descriptorIndex := 31, attributes := #[] }, { accessFlags := 18, nameIndex := 37, descriptorIndex := 31, attributes := #[] }, { accessFlags := 18, nameIndex := 40, descriptorIndex := 31, attributes := #[] }, { accessFlags := 18, nameIndex := 43, descriptorIndex := 31, attributes := #[] }, { accessFlags := 18, nameIndex := 46, descriptorIndex := 31, attributes := #[] }, { accessFlags := 18, nameIndex := 49, descriptorIndex := 12, attributes := #[] }, { accessFlags := 18, nameIndex := 52, descriptorIndex := 12, attributes := #[] }, { accessFlags := 18, nameIndex := 55, descriptorIndex := 31, attributes := #[] }, { accessFlags := 2, nameIndex := 171, descriptorIndex := 59, attributes := #[] }, { accessFlags := 2, nameIndex := 174, descriptorIndex := 175, attributes := #[] }])
  fields := #[{ name := "OK", type := .int, accessFlags := 25, slot := 0, constantValue := 0 }, { name := "SYNTAX", type := .int, accessFlags := 25, slot := 1, constantValue := 0 }, { name := "TOO_MANY_SPECIES", type := .int, accessFlags := 25, slot := 2, constantValue := 0 }, { name := "TOO_MANY_ELEMENTS", type := .int, accessFlags := 25, slot := 3, constantValue := 0 }, { name := "COUNT_TOO_BIG", type := .int, accessFlags := 25, slot := 4, constantValue := 0 }, { name := "MANY_SOLUTIONS", type := .int, accessFlags := 25, slot := 5, constantValue := 0 }, { name := "NO_SOLUTION", type := .int, accessFlags := 25, slot := 6, constantValue := 0 }, { name := "BUFFER_CAPACITY", type := .int, accessFlags := 25, slot := 7, constantValue := 0 }, { name := "MAX_COUNT", type := .int, accessFlags := 25, slot := 8, constantValue := 0 }, { name := "MAX_AMOUNT", type := .int, accessFlags := 25, slot := 9, constantValue := 0 }, { name := "MAX_EVENTS", type := .int, accessFlags := 25, slot := 10, constantValue := 0 }, { name := "maxSpecies", type := .int, accessFlags := 2, slot := 0, constantValue := 0 }, { name := "maxElements", type := .int, accessFlags := 2, slot := 1, constantValue := 0 }, { name := "buf", type := (.array .int), accessFlags := 18, slot := 2, constantValue := 0 }, { name := "len", type := .int, accessFlags := 2, slot := 3, constantValue := 0 }, { name := "openStack", type := (.array .int), accessFlags := 18, slot := 4, constantValue := 0 }, { name := "seenCodes", type := (.array .int), accessFlags := 18, slot := 5, constantValue := 0 }, { name := "seenCount", type := .int, accessFlags := 2, slot := 6, constantValue := 0 }, { name := "parsedSpecies", type := .int, accessFlags := 2, slot := 7, constantValue := 0 }, { name := "parsedLeft", type := .int, accessFlags := 2, slot := 8, constantValue := 0 }, { name := "numEnd", type := .int, accessFlags := 2, slot := 9, constantValue := 0 }, { name := "present", type := .boolean, accessFlags := 2, slot := 10, constantValue := 0 }, { name := "n", type := .int, accessFlags := 2, slot := 11, constantValue := 0 }, { name := "left", type := .int, accessFlags := 2, slot := 12, constantValue := 0 }, { name := "elems", type := .int, accessFlags := 2, slot := 13, constantValue := 0 }, { name := "elemCode", type := (.array .int), accessFlags := 18, slot := 14, constantValue := 0 }, { name := "count", type := (.array .int), accessFlags := 18, slot := 15, constantValue := 0 }, { name := "charge", type := (.array .int), accessFlags := 18, slot := 16, constantValue := 0 }, { name := "coef", type := (.array .long), accessFlags := 18, slot := 17, constantValue := 0 }, { name := "amount", type := (.array .long), accessFlags := 18, slot := 18, constantValue := 0 }, { name := "cnt", type := (.array .long), accessFlags := 18, slot := 19, constantValue := 0 }, { name := "acc", type := (.array .long), accessFlags := 18, slot := 20, constantValue := 0 }, { name := "mat", type := (.array .long), accessFlags := 18, slot := 21, constantValue := 0 }, { name := "work", type := (.array .long), accessFlags := 18, slot := 22, constantValue := 0 }, { name := "perm", type := (.array .int), accessFlags := 18, slot := 23, constantValue := 0 }, { name := "sel", type := (.array .int), accessFlags := 18, slot := 24, constantValue := 0 }, { name := "vec", type := (.array .long), accessFlags := 18, slot := 25, constantValue := 0 }, { name := "swapSign", type := .int, accessFlags := 2, slot := 26, constantValue := 0 }, { name := "lastPivot", type := .long, accessFlags := 2, slot := 27, constantValue := 0 }]
  methods := #[k2m0, k2m1, k2m2, k2m3, k2m4, k2m5, k2m6, k2m7]
  instanceTypes := #[.int, .int, (.array .int), .int, (.array .int), (.array .int), .int, .int, .int, .int, .boolean, .int, .int, .int, (.array .int), (.array .int), (.array .int), (.array .long), (.array .long), (.array .long), (.array .long), (.array .long), (.array .long), (.array .int), (.array .int), (.array .long), .int, .long]
  staticTypes := #[.int, .int, .int, .int, .int, .int, .int, .int, .int, .int, .int]
  resolved := Array.replicate 249 none
  statics := none }

def pool3 : Array CpInfo := pool [(1, u "java/lang/Cloneable"), (0, .class_ 1), (0, u "java/lang/Object"), (0, .class_ 3)] 3

/-- java/lang/Cloneable -/
def k3 : Class := { plain "java/lang/Cloneable" (some 0) with
  accessFlags := 1537
  interfaces := #[]
  cf := some (fileOf pool3 2 #[] #[] 1537 4 #[] #[])
  fields := #[]
  methods := #[]
  instanceTypes := #[]
  staticTypes := #[]
  resolved := Array.replicate 8 none
  statics := none }

def pool4 : Array CpInfo := pool [(1, u "java/io/Serializable"), (0, .class_ 1), (0, u "java/lang/Object"), (0, .class_ 3)] 3

/-- java/io/Serializable -/
def k4 : Class := { plain "java/io/Serializable" (some 0) with
  accessFlags := 1537
  interfaces := #[]
  cf := some (fileOf pool4 2 #[] #[] 1537 4 #[] #[])
  fields := #[]
  methods := #[]
  instanceTypes := #[]
  staticTypes := #[]
  resolved := Array.replicate 8 none
  statics := none }

/-- the primitive byte -/
def k5 : Class := { plain "byte" none with kind := .primitive 'B', accessFlags := 0x411 }
/-- [B -/
def k6 : Class := { plain "[B" (some 0) with kind := .array 5 .byte, interfaces := #[3, 4], accessFlags := 1041 }

/-- the primitive int -/
def k7 : Class := { plain "int" none with kind := .primitive 'I', accessFlags := 0x411 }
/-- [I -/
def k8 : Class := { plain "[I" (some 0) with kind := .array 7 .int, interfaces := #[3, 4], accessFlags := 1041 }

/-- the primitive long -/
def k9 : Class := { plain "long" none with kind := .primitive 'J', accessFlags := 0x411 }
/-- [J -/
def k10 : Class := { plain "[J" (some 0) with kind := .array 9 .long, interfaces := #[3, 4], accessFlags := 1041 }

def heap : Heap := #[]
def classes : Array Class := #[k0, k1, k2, k3, k4, k5, k6, k7, k8, k9, k10]
def interned : List (Array UInt16 × Addr) := []
def slotsUsed : Nat := 0
def theMethod : MethodId := ⟨1, 1⟩
def args0 : Array Value := #[.int 5, .int 3, .int 1, .int 1, .int 1, .int 1]
def aboutOver (below : List Frame) : State where
  vm := { classes := classes, interned := interned.toArray }
  heap := heap
  slotsUsed := slotsUsed
  threads := #[{ frames := .invoking theMethod args0 :: below }]
def below0 : List Frame := [.native { method := ⟨0, 0⟩, args := #[] }]
def about1 : State := aboutOver below0
def p0 : Program := .bare "" "" ""
def e0 : Env := launch0.env 0 0 0
theorem w_frames : about1.frames = Frame.invoking theMethod args0 :: below0 := rfl
set_option maxRecDepth 65536 in
theorem w_args : argsFit about1.vm theMethod args0 = true := by decide +kernel
set_option maxRecDepth 65536 in
theorem w_heap : heapFits about1 = true := by decide +kernel
set_option maxRecDepth 65536 in
theorem w_runnable : about1.curStatus? = some .runnable := by decide +kernel
set_option maxRecDepth 65536 in
theorem w_alone : about1.alone = true := by decide +kernel
set_option maxRecDepth 65536 in
theorem w_named : about1.methodNamed? x = some theMethod := by decide +kernel
set_option maxRecDepth 65536 in
theorem w_hears : about1.hears theMethod below0 = true := by decide +kernel
set_option maxRecDepth 65536 in
theorem w_ripe : about1.ripe theMethod args0 below0 = true := by decide +kernel
theorem w_running : about1.status = .running := rfl
set_option maxRecDepth 65536 in
theorem w_room : about1.hasRoom e0.platform room_1 = true :=
  launch0.hasRoom_least _ room_1 (by decide +kernel) (by decide +kernel) (by decide +kernel) (by decide +kernel) (by decide +kernel) (by decide +kernel)
theorem allAtoms_all (ts : List Jvm.Cond) (a : Array Jvm.Value) (st : Jvm.State) : (allAtoms ts).before a st = ts.all (fun c => c.before a st) := by
  induction ts with
  | nil => rfl
  | cons c t ih =>
    show (Jvm.Cond.and c (allAtoms t)).before a st = _
    rw [Jvm.Cond.before_and, ih, List.all_cons]
def words1 : List Jvm.Cond := Jvm.Cond.code x code maxLocals ret :: tables_1
/-- a 'code' word, met by the world's own term for the bytes: nothing is compared byte by byte -/
theorem code_word {y : MethodName} {bytes : ByteArray} {mx : Nat} {rt : Option FieldType} {a : Array Value} {s : State} {m : MethodId} {meth : Method} {c : Code} (h1 : s.methodNamed? y = some m) (h2 : s.vm.method? m = some meth) (h3 : meth.code = some c) (h4 : c.code = bytes)
    (h5 : (c.maxLocals == mx && c.exceptionTable.isEmpty && decide (c.maxStack ≤ mostOperands) && decide (meth.sig.returnType = rt) && !meth.locks && decide (parseMethodDescriptor y.desc = some meth.sig)) = true) : (Jvm.Cond.code y bytes mx rt).before a s = true := by
  simp only [Bool.and_eq_true, beq_iff_eq, Bool.not_eq_true', decide_eq_true_eq] at h5
  obtain ⟨⟨⟨⟨⟨g1, g2⟩, g3⟩, g4⟩, g5⟩, g6⟩ := h5
  simp [Cond.before, Cond.holds, Cond.value, h1, h2, h3, h4, g1, g2, g3, g4, g5, g6]
def isCode : Jvm.Cond → Bool
  | .code _ _ _ _ => true
  | _ => false
theorem all_split {L : List Jvm.Cond} {P : Jvm.Cond → Bool} (h1 : L.all (fun c => isCode c || P c) = true) (h2 : ∀ c ∈ L.filter isCode, P c = true) : L.all P = true := by
  refine List.all_eq_true.mpr fun c hc => ?_
  have h := List.all_eq_true.mp h1 c hc
  rcases Bool.eq_false_or_eq_true (isCode c) with hi | hi
  · exact h2 c (List.mem_filter.mpr ⟨hc, hi⟩)
  · simpa [hi] using h
set_option maxRecDepth 65536 in
theorem w_c0 : (Jvm.Cond.code x code maxLocals ret).before args0 about1 = true := code_word (m := ⟨1, 1⟩) (meth := k1m1) (c := k1c1) (by decide +kernel) rfl rfl rfl (by decide +kernel)
set_option maxRecDepth 65536 in
theorem w_c1 : (Jvm.Cond.code ({ cls := "ChemBalancer", name := "<init>", desc := "(II)V" } : Jvm.MethodName) prog_1_method_1_code (5 : Nat) (Option.none : Option Jvm.ClassFile.FieldType)).before args0 about1 = true := code_word (m := ⟨2, 0⟩) (meth := k2m0) (c := k2c0) (by decide +kernel) rfl rfl rfl (by decide +kernel)
set_option maxRecDepth 65536 in
theorem w_c2 : (Jvm.Cond.code ({ cls := "java/lang/Object", name := "<init>", desc := "()V" } : Jvm.MethodName) object_method_1_code (1 : Nat) (Option.none : Option Jvm.ClassFile.FieldType)).before args0 about1 = true := code_word (m := ⟨0, 0⟩) (meth := k0m0) (c := k0c0) (by decide +kernel) rfl rfl rfl (by decide +kernel)
set_option maxRecDepth 65536 in
theorem w_c3 : (Jvm.Cond.code ({ cls := "ChemBalancer", name := "setAmount", desc := "(II)Z" } : Jvm.MethodName) prog_1_method_14_code (3 : Nat) (Option.some Jvm.ClassFile.FieldType.boolean)).before args0 about1 = true := code_word (m := ⟨2, 3⟩) (meth := k2m3) (c := k2c3) (by decide +kernel) rfl rfl rfl (by decide +kernel)
set_option maxRecDepth 65536 in
theorem w_c4 : (Jvm.Cond.code ({ cls := "ChemBalancer", name := "validSpecies", desc := "(I)Z" } : Jvm.MethodName) prog_1_method_18_code (2 : Nat) (Option.some Jvm.ClassFile.FieldType.boolean)).before args0 about1 = true := code_word (m := ⟨2, 7⟩) (meth := k2m7) (c := k2c7) (by decide +kernel) rfl rfl rfl (by decide +kernel)
set_option maxRecDepth 65536 in
theorem w_c5 : (Jvm.Cond.code ({ cls := "ChemBalancer", name := "run", desc := "(I)J" } : Jvm.MethodName) prog_1_method_15_code (7 : Nat) (Option.some Jvm.ClassFile.FieldType.long)).before args0 about1 = true := code_word (m := ⟨2, 4⟩) (meth := k2m4) (c := k2c4) (by decide +kernel) rfl rfl rfl (by decide +kernel)
set_option maxRecDepth 65536 in
theorem w_c6 : (Jvm.Cond.code ({ cls := "ChemBalancer", name := "getElementCode", desc := "(I)I" } : Jvm.MethodName) prog_1_method_10_code (2 : Nat) (Option.some Jvm.ClassFile.FieldType.int)).before args0 about1 = true := code_word (m := ⟨2, 2⟩) (meth := k2m2) (c := k2c2) (by decide +kernel) rfl rfl rfl (by decide +kernel)
set_option maxRecDepth 65536 in
theorem w_c7 : (Jvm.Cond.code ({ cls := "ChemBalancer", name := "getLimiting", desc := "()I" } : Jvm.MethodName) prog_1_method_17_code (7 : Nat) (Option.some Jvm.ClassFile.FieldType.int)).before args0 about1 = true := code_word (m := ⟨2, 6⟩) (meth := k2m6) (c := k2c6) (by decide +kernel) rfl rfl rfl (by decide +kernel)
set_option maxRecDepth 65536 in
theorem w_c8 : (Jvm.Cond.code ({ cls := "ChemBalancer", name := "getAmount", desc := "(I)J" } : Jvm.MethodName) prog_1_method_16_code (2 : Nat) (Option.some Jvm.ClassFile.FieldType.long)).before args0 about1 = true := code_word (m := ⟨2, 5⟩) (meth := k2m5) (c := k2c5) (by decide +kernel) rfl rfl rfl (by decide +kernel)
set_option maxRecDepth 65536 in
theorem w_c9 : (Jvm.Cond.code ({ cls := "ChemBalancer", name := "getLength", desc := "()I" } : Jvm.MethodName) prog_1_method_4_code (1 : Nat) (Option.some Jvm.ClassFile.FieldType.int)).before args0 about1 = true := code_word (m := ⟨2, 1⟩) (meth := k2m1) (c := k2c1) (by decide +kernel) rfl rfl rfl (by decide +kernel)
def codes1 : List Jvm.Cond := [Jvm.Cond.code x code maxLocals ret, Jvm.Cond.code ({ cls := "ChemBalancer", name := "<init>", desc := "(II)V" } : Jvm.MethodName) prog_1_method_1_code (5 : Nat) (Option.none : Option Jvm.ClassFile.FieldType), Jvm.Cond.code ({ cls := "java/lang/Object", name := "<init>", desc := "()V" } : Jvm.MethodName) object_method_1_code (1 : Nat) (Option.none : Option Jvm.ClassFile.FieldType), Jvm.Cond.code ({ cls := "ChemBalancer", name := "setAmount", desc := "(II)Z" } : Jvm.MethodName) prog_1_method_14_code (3 : Nat) (Option.some Jvm.ClassFile.FieldType.boolean), Jvm.Cond.code ({ cls := "ChemBalancer", name := "validSpecies", desc := "(I)Z" } : Jvm.MethodName) prog_1_method_18_code (2 : Nat) (Option.some Jvm.ClassFile.FieldType.boolean), Jvm.Cond.code ({ cls := "ChemBalancer", name := "run", desc := "(I)J" } : Jvm.MethodName) prog_1_method_15_code (7 : Nat) (Option.some Jvm.ClassFile.FieldType.long), Jvm.Cond.code ({ cls := "ChemBalancer", name := "getElementCode", desc := "(I)I" } : Jvm.MethodName) prog_1_method_10_code (2 : Nat) (Option.some Jvm.ClassFile.FieldType.int), Jvm.Cond.code ({ cls := "ChemBalancer", name := "getLimiting", desc := "()I" } : Jvm.MethodName) prog_1_method_17_code (7 : Nat) (Option.some Jvm.ClassFile.FieldType.int), Jvm.Cond.code ({ cls := "ChemBalancer", name := "getAmount", desc := "(I)J" } : Jvm.MethodName) prog_1_method_16_code (2 : Nat) (Option.some Jvm.ClassFile.FieldType.long), Jvm.Cond.code ({ cls := "ChemBalancer", name := "getLength", desc := "()I" } : Jvm.MethodName) prog_1_method_4_code (1 : Nat) (Option.some Jvm.ClassFile.FieldType.int)]
set_option maxRecDepth 65536 in
theorem codes_eq : words1.filter isCode = codes1 := rfl
theorem w_codes : ∀ c ∈ words1.filter isCode, c.before args0 about1 = true := by
  rw [codes_eq]
  intro c hc
  simp only [codes1, List.mem_cons, List.not_mem_nil, or_false] at hc
  rcases hc with rfl | rfl | rfl | rfl | rfl | rfl | rfl | rfl | rfl | rfl
  · exact w_c0
  · exact w_c1
  · exact w_c2
  · exact w_c3
  · exact w_c4
  · exact w_c5
  · exact w_c6
  · exact w_c7
  · exact w_c8
  · exact w_c9
set_option maxRecDepth 65536 in
theorem w_t1 : (words1.take 24).all (fun c => isCode c || c.before args0 about1) = true := by decide +kernel
set_option maxRecDepth 65536 in
theorem w_t2 : ((words1.drop 24).take 24).all (fun c => isCode c || c.before args0 about1) = true := by decide +kernel
set_option maxRecDepth 65536 in
theorem w_t3 : (((words1.drop 24).drop 24).take 24).all (fun c => isCode c || c.before args0 about1) = true := by decide +kernel
set_option maxRecDepth 65536 in
theorem w_t4 : (((words1.drop 24).drop 24).drop 24).all (fun c => isCode c || c.before args0 about1) = true := by decide +kernel
theorem w_tables : (allAtoms (Jvm.Cond.code x code maxLocals ret :: tables_1)).before args0 about1 = true := by
  rw [allAtoms_all]
  show words1.all (fun c => c.before args0 about1) = true
  refine all_split ?_ w_codes
  rw [← List.take_append_drop 24 words1, List.all_append, w_t1, ← List.take_append_drop 24 (words1.drop 24), List.all_append, w_t2, ← List.take_append_drop 24 ((words1.drop 24).drop 24), List.all_append, w_t3, w_t4]
  rfl
set_option maxRecDepth 65536 in
theorem w_case : (Jvm.Cond.and given_1 narrow_1).before args0 about1 = true := by decide +kernel
theorem w_applies : (headSpec (Jvm.Cond.code x code maxLocals ret :: tables_1) room_1).applies x e0.platform about1 = true :=
  (Spec.applies_iff w_frames).mpr ⟨w_running, w_runnable, w_alone, w_named, w_hears, w_ripe, w_room, w_tables⟩
theorem atStart : AtStart classFile x code maxLocals ret World_1 tables_1 room_1 Calls_1 rest_1 Pre_1 launch0 p0 e0 about1 theMethod args0 below0 :=
  ⟨lists_1, trivial, launch0.admits_env _ _ _, launch0.least_env, fairChoices_fair.cas, fairChoices_fair.clock, w_frames, w_args, w_heap, w_applies, trivial, trivial, w_case⟩
end start1
theorem witness_1 : WitnessClaimed_1 := ⟨start1.p0, start1.e0, start1.about1, start1.theMethod, start1.args0, start1.below0, start1.atStart⟩
end Jvm.Pilot.@@N@@
