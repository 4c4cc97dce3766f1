import JvmDerived
import JvmDerived.Pilot.@@N@@Statement
import JvmDerived.Pilot.@@N@@Code
set_option linter.unusedVariables false
set_option linter.unusedSimpArgs false
namespace Jvm.JX
open Sem ClassFile Op Lib
abbrev Cel : Type := FieldType × Nat × Bool × (Nat → Value)
abbrev AH : Type := Nat × (Nat → Cel)
abbrev MInfo : Type := Nat × Nat × Nat × Option FieldType × Jvm.Room
abbrev Prog : Type := (Nat → Nat → Option (Instr × Nat × Int)) × (Nat → MInfo) × (Nat → FieldType) × Nat
abbrev Fm : Type := Nat × List Slot × List Value × Nat × Nat × AH
def na (P : Prog) (m : Nat) : Nat := (P.2.1 m).1
def ml (P : Prog) (m : Nat) : Nat := (P.2.1 m).2.1
def kd (P : Prog) (m : Nat) : Nat := (P.2.1 m).2.2.1
def rt (P : Prog) (m : Nat) : Option FieldType := (P.2.1 m).2.2.2.1
def rm (P : Prog) (m : Nat) : Jvm.Room := (P.2.1 m).2.2.2.2
def isO (H : AH) (a : Nat) : Bool := match (H.2 a).1 with | .object _ => true | _ => false
def isOw (H : AH) (a : Nat) : Bool := isO H a && (H.2 a).2.2.1
def inA (H : AH) (a : Nat) (t : FieldType) (i : Int32) : Bool := decide ((H.2 a).1 = .array t) && !decide (i < 0) && decide (i.toNatClampNeg < (H.2 a).2.1)
def inAw (H : AH) (a : Nat) (t : FieldType) (i : Int32) : Bool := inA H a t i && (H.2 a).2.2.1
def isA (H : AH) (a : Nat) : Bool := match (H.2 a).1 with | .array _ => true | _ => false
def elt (H : AH) (a : Nat) (i : Int32) : Value := (H.2 a).2.2.2 i.toNatClampNeg
def fld (H : AH) (a k : Nat) : Value := (H.2 a).2.2.2 k
def alen (H : AH) (a : Nat) : Nat := (H.2 a).2.1
def wr (H : AH) (a j : Nat) (v : Value) : AH := (H.1, fun b => if b = a then ((H.2 a).1, (H.2 a).2.1, (H.2 a).2.2.1, fun i => if i = j then v else (H.2 a).2.2.2 i) else H.2 b)
def okv : FieldType → Value → Bool
  | .int, .int _ => true
  | .boolean, .int z => z == 0 || z == 1
  | .byte, .int z => z.toInt8.toInt32 == z
  | .long, .long _ => true
  | .array _, .ref _ => true
  | _, _ => false
def mkO (P : Prog) (H : AH) : AH := (H.1 + 1, fun b => if b = H.1 then (.object "", P.2.2.2, true, fun k => defaultValue (P.2.2.1 k)) else H.2 b)
def mkA (t : FieldType) (n : Nat) (H : AH) : AH := (H.1 + 1, fun b => if b = H.1 then (.array t, n, true, fun _ => defaultValue t) else H.2 b)
def cat1 : Slot → Bool | .unset => true | .val v => v.category == 1 | .second => false
def cs (S : List Value) : Nat := (S.map fun v => v.category).sum
def stl (L : List Slot) (i : Nat) (v : Value) : Option (List Slot) :=
  match L[i]? with
  | some .unset => some (L.set i (.val v))
  | some (.val w) => if w.category = 1 then some (L.set i (.val v)) else if i + 1 < L.length then some ((L.set (i + 1) .unset).set i (.val v)) else none
  | some .second => if 1 ≤ i then some ((L.set (i - 1) .unset).set i (.val v)) else none
  | none => none
def stL (L : List Slot) (i : Nat) (v : Value) : Option (List Slot) :=
  match L[i]?, L[i + 1]? with
  | some (.val w), some o2 => if w.category = 2 then some ((L.set i (.val v)).set (i + 1) .second) else if cat1 o2 = true then some ((L.set i (.val v)).set (i + 1) .second) else none
  | some .unset, some o2 => if cat1 o2 = true then some ((L.set i (.val v)).set (i + 1) .second) else none
  | _, _ => none
def ent (P : Prog) (m : Nat) (a : List Value) : List Slot := Sym.laidSlots a ++ List.replicate (ml P m - (Sym.laidSlots a).length) .unset
def ilen : Instr → Nat
  | .bipush _ | .iload _ | .istore _ | .aload _ | .astore _ | .lload _ | .lstore _ | .newarray _ | .ldc _ => 2
  | .sipush _ | .getfield _ | .putfield _ | .new _ | .invokevirtual _ | .invokestatic _ | .invokespecial _ | .ldc2_w _ | .goto _ | .ifCond _ _ | .if_icmp _ _ | .iinc _ _ => 3
  | _ => 1
def ldI (L : List Slot) (i : Nat) : Option Value := match L[i]? with | some (.val (.int x)) => some (.int x) | _ => none
def ldJ (L : List Slot) (i : Nat) : Option Value := match L[i]? with | some (.val (.long x)) => some (.long x) | _ => none
def ldR (L : List Slot) (i : Nat) : Option Value := match L[i]? with | some (.val (.ref x)) => some (.ref x) | _ => none
def jmp (pc : Nat) (o : Int) : Option Nat := if 0 ≤ (pc : Int) + o then some ((pc : Int) + o).toNat else none
def ret (P : Prog) (m : Nat) (ins : Instr) (S : List Value) : Option (Option Value) :=
  match ins with
  | .return_ => if rt P m = none ∧ S = [] then some none else none
  | .ireturn => match S, rt P m with
    | .int z :: _, some .int => some (some (.int z))
    | .int z :: _, some .boolean => if z = 0 ∨ z = 1 then some (some (.int z)) else none
    | _, _ => none
  | .lreturn => match S, rt P m with
    | .long z :: _, some .long => some (some (.long z))
    | _, _ => none
  | _ => none
def rcv (H : AH) : List Value → Bool | .ref a :: _ => isO H a | _ => false
def may (P : Prog) (m m' : Nat) (a r : List Value) (k n : Nat) (H : AH) : Bool :=
  decide ((Sym.laidSlots a).length ≤ ml P m') && decide (a.length = na P m') && decide ((rm P m').frames + 1 ≤ (rm P m).frames) && decide (cs r + (ml P m' + 11) + (rm P m').locals ≤ (rm P m).locals)
    && (decide ((rm P m').cells = 0 ∧ (rm P m').slots = 0) || decide (k + (rm P m').cells ≤ (rm P m).cells ∧ n + (rm P m').slots ≤ (rm P m).slots))
    && (decide (kd P m' = 0) || rcv H a)
def kindOk : Instr → Nat → Bool
  | .invokevirtual _, k => k == 1 || k == 2
  | .invokestatic _, k => k == 0
  | .invokespecial _, k => k == 3
  | _, _ => false
def cal1 (P : Prog) (m : Nat) (ins : Instr) (aux : Int) (S : List Value) (k n : Nat) (H : AH) : Option (Nat × List Value × List Value) :=
  if 0 ≤ aux ∧ kindOk ins (kd P aux.toNat) = true ∧ may P m aux.toNat (S.take (na P aux.toNat)).reverse (S.drop (na P aux.toNat)) k n H = true
  then some (aux.toNat, (S.take (na P aux.toNat)).reverse, S.drop (na P aux.toNat)) else none
def cal (P : Prog) (m : Nat) (ins : Instr) (aux : Int) (S : List Value) (k n : Nat) (H : AH) : Option (Nat × List Value × List Value) :=
  match ins with
  | .invokevirtual _ | .invokestatic _ | .invokespecial _ => cal1 P m ins aux S k n H
  | _ => none
def opI : Instr → Option (Int32 → Int32 → Int32)
  | .iadd => some fun x y => x + y
  | .isub => some fun x y => x - y
  | .imul => some fun x y => x * y
  | .iand => some fun x y => x &&& y
  | .ior => some fun x y => x ||| y
  | .ixor => some fun x y => x ^^^ y
  | .ishl => some fun x y => x <<< (y &&& 31)
  | .ishr => some fun x y => x >>> (y &&& 31)
  | .iushr => some Jvm.Free.XT.ushr
  | _ => none
def opJ : Instr → Option (Int64 → Int64 → Int64)
  | .ladd => some fun x y => x + y
  | .lsub => some fun x y => x - y
  | .lmul => some fun x y => x * y
  | .land => some fun x y => x &&& y
  | .lor => some fun x y => x ||| y
  | .lxor => some fun x y => x ^^^ y
  | _ => none
def opS : Instr → Option (Int64 → Int32 → Int64)
  | .lshl => some fun x y => x <<< (y.toInt64 &&& 63)
  | .lshr => some fun x y => x >>> (y.toInt64 &&& 63)
  | .lushr => some Jvm.Free.XT.ushrL
  | _ => none
def stp (P : Prog) (m : Nat) (ins : Instr) (len : Nat) (aux : Int) (pc : Nat) (L : List Slot) (S : List Value) (k n : Nat) (H : AH) : Option Fm :=
  match ins with
  | .iconst i => some (pc + len, L, .int (Int32.ofInt i) :: S, k, n, H)
  | .bipush i => some (pc + len, L, .int (Int8.ofInt i).toInt32 :: S, k, n, H)
  | .sipush i => some (pc + len, L, .int (Int16.ofInt i).toInt32 :: S, k, n, H)
  | .lconst i => some (pc + len, L, .long (Int64.ofNat i) :: S, k, n, H)
  | .ldc _ => some (pc + len, L, .int (Int32.ofInt aux) :: S, k, n, H)
  | .ldc2_w _ => some (pc + len, L, .long (Int64.ofInt aux) :: S, k, n, H)
  | .iload i => (ldI L i).map fun v => (pc + len, L, v :: S, k, n, H)
  | .iload_n i => (ldI L i.val).map fun v => (pc + len, L, v :: S, k, n, H)
  | .lload i => (ldJ L i).map fun v => (pc + len, L, v :: S, k, n, H)
  | .lload_n i => (ldJ L i.val).map fun v => (pc + len, L, v :: S, k, n, H)
  | .aload i => (ldR L i).map fun v => (pc + len, L, v :: S, k, n, H)
  | .aload_n i => (ldR L i.val).map fun v => (pc + len, L, v :: S, k, n, H)
  | .istore i => match S with | .int x :: S => (stl L i (.int x)).map fun L => (pc + len, L, S, k, n, H) | _ => none
  | .istore_n i => match S with | .int x :: S => (stl L i.val (.int x)).map fun L => (pc + len, L, S, k, n, H) | _ => none
  | .astore i => match S with | .ref x :: S => (stl L i (.ref x)).map fun L => (pc + len, L, S, k, n, H) | _ => none
  | .astore_n i => match S with | .ref x :: S => (stl L i.val (.ref x)).map fun L => (pc + len, L, S, k, n, H) | _ => none
  | .lstore i => match S with | .long x :: S => (stL L i (.long x)).map fun L => (pc + len, L, S, k, n, H) | _ => none
  | .lstore_n i => match S with | .long x :: S => (stL L i.val (.long x)).map fun L => (pc + len, L, S, k, n, H) | _ => none
  | .iinc i c => match L[i]? with | some (.val (.int x)) => some (pc + len, L.set i (.val (.int (x + Int32.ofInt c))), S, k, n, H) | _ => none
  | .iadd | .isub | .imul | .iand | .ior | .ixor | .ishl | .ishr | .iushr => match S with | .int y :: .int x :: S => (opI ins).map fun f => (pc + len, L, .int (f x y) :: S, k, n, H) | _ => none
  | .ladd | .lsub | .lmul | .land | .lor | .lxor => match S with | .long y :: .long x :: S => (opJ ins).map fun f => (pc + len, L, .long (f x y) :: S, k, n, H) | _ => none
  | .lshl | .lshr | .lushr => match S with | .int y :: .long x :: S => (opS ins).map fun f => (pc + len, L, .long (f x y) :: S, k, n, H) | _ => none
  | .idiv => match S with | .int y :: .int x :: S => if y = 0 then none else some (pc + len, L, .int (x / y) :: S, k, n, H) | _ => none
  | .irem => match S with | .int y :: .int x :: S => if y = 0 then none else some (pc + len, L, .int (x % y) :: S, k, n, H) | _ => none
  | .ldiv => match S with | .long y :: .long x :: S => if y = 0 then none else some (pc + len, L, .long (x / y) :: S, k, n, H) | _ => none
  | .lrem => match S with | .long y :: .long x :: S => if y = 0 then none else some (pc + len, L, .long (x % y) :: S, k, n, H) | _ => none
  | .ineg => match S with | .int x :: S => some (pc + len, L, .int (-x) :: S, k, n, H) | _ => none
  | .lneg => match S with | .long x :: S => some (pc + len, L, .long (-x) :: S, k, n, H) | _ => none
  | .i2l => match S with | .int x :: S => some (pc + len, L, .long x.toInt64 :: S, k, n, H) | _ => none
  | .l2i => match S with | .long x :: S => some (pc + len, L, .int x.toInt32 :: S, k, n, H) | _ => none
  | .i2b => match S with | .int x :: S => some (pc + len, L, .int x.toInt8.toInt32 :: S, k, n, H) | _ => none
  | .lcmp => match S with | .long y :: .long x :: S => some (pc + len, L, .int (Jvm.Free.XT.cmpL x y) :: S, k, n, H) | _ => none
  | .dup => match S with | v :: S => if v.category = 1 then some (pc + len, L, v :: v :: S, k, n, H) else none | _ => none
  | .dup2 => match S with
    | .long x :: S => some (pc + len, L, .long x :: .long x :: S, k, n, H)
    | v :: w :: S => if v.category = 1 ∧ w.category = 1 then some (pc + len, L, v :: w :: v :: w :: S, k, n, H) else none
    | _ => none
  | .pop => match S with | v :: S => if v.category = 1 then some (pc + len, L, S, k, n, H) else none | _ => none
  | .goto o => (jmp pc o).map fun q => (q, L, S, k, n, H)
  | .ifCond c o => match S with | .int x :: S => if ifCond.holds c x = true then (jmp pc o).map fun q => (q, L, S, k, n, H) else some (pc + len, L, S, k, n, H) | _ => none
  | .if_icmp c o => match S with | .int y :: .int x :: S => if if_icmp.holds c x y = true then (jmp pc o).map fun q => (q, L, S, k, n, H) else some (pc + len, L, S, k, n, H) | _ => none
  | .tableswitch d lo hi os => match S with
    | .int x :: S => if x.toInt < lo ∨ x.toInt > hi then (jmp pc d).map fun q => (q, L, S, k, n, H) else (os[(x.toInt - lo).toNat]?).bind fun o => (jmp pc o).map fun q => (q, L, S, k, n, H)
    | _ => none
  | .getfield _ => match S with | .ref a :: S => if isO H a = true then some (pc + len, L, fld H a aux.toNat :: S, k, n, H) else none | _ => none
  | .putfield _ => match S with | v :: .ref a :: S => if isOw H a = true ∧ okv (P.2.2.1 aux.toNat) v = true then some (pc + len, L, S, k, n, wr H a aux.toNat v) else none | _ => none
  | .iaload => match S with | .int i :: .ref a :: S => if inA H a .int i = true then some (pc + len, L, elt H a i :: S, k, n, H) else none | _ => none
  | .laload => match S with | .int i :: .ref a :: S => if inA H a .long i = true then some (pc + len, L, elt H a i :: S, k, n, H) else none | _ => none
  | .baload => match S with | .int i :: .ref a :: S => if inA H a .byte i = true ∨ inA H a .boolean i = true then some (pc + len, L, elt H a i :: S, k, n, H) else none | _ => none
  | .iastore => match S with | .int x :: .int i :: .ref a :: S => if inAw H a .int i = true then some (pc + len, L, S, k, n, wr H a i.toNatClampNeg (.int x)) else none | _ => none
  | .lastore => match S with | .long x :: .int i :: .ref a :: S => if inAw H a .long i = true then some (pc + len, L, S, k, n, wr H a i.toNatClampNeg (.long x)) else none | _ => none
  | .bastore => match S with
    | .int x :: .int i :: .ref a :: S => if (inAw H a .byte i = true ∧ okv .byte (.int x) = true) ∨ (inAw H a .boolean i = true ∧ okv .boolean (.int x) = true) then some (pc + len, L, S, k, n, wr H a i.toNatClampNeg (.int x)) else none
    | _ => none
  | .arraylength => match S with | .ref a :: S => if isA H a = true then some (pc + len, L, .int (alen H a).toInt32 :: S, k, n, H) else none | _ => none
  | .newarray t => match S with | .int c :: S => if ¬ c < 0 ∧ c.toNatClampNeg * 8 ≤ 536870912 ∧ k + 1 ≤ (rm P m).cells ∧ n + c.toNatClampNeg ≤ (rm P m).slots then some (pc + len, L, .ref H.1 :: S, k + 1, n + c.toNatClampNeg, mkA (newarray.typeOf t) c.toNatClampNeg H) else none | _ => none
  | .new _ => if 0 ≤ aux ∧ k + 1 ≤ (rm P m).cells ∧ n + aux.toNat ≤ (rm P m).slots then some (pc + len, L, .ref H.1 :: S, k + 1, n + aux.toNat, mkO P H) else none
  | .invokespecial _ => match S with | .ref a :: S => if aux = -1 ∧ 1 ≤ (rm P m).frames ∧ cs S + 12 ≤ (rm P m).locals then some (pc + len, L, S, k, n, H) else none | _ => none
  | _ => none
def run (P : Prog) : Nat → Nat → Nat → List Slot → List Value → Nat → Nat → AH → Option (Option Value × AH)
  | 0, _, _, _, _, _, _, _ => none
  | f + 1, m, pc, L, S, k, n, H =>
    match P.1 m pc with
    | none => none
    | some d =>
      match ret P m d.1 S with
      | some v => some (v, H)
      | none => match cal P m d.1 d.2.2 S k n H with
        | some c => match run P f c.1 0 (ent P c.1 c.2.1) [] 0 0 H with
          | none => none
          | some r => run P f m (pc + d.2.1) L (r.1.toList ++ c.2.2) (k + (rm P c.1).cells) (n + (rm P c.1).slots) r.2
        | none => match stp P m d.1 d.2.1 d.2.2 pc L S k n H with
          | none => none
          | some q => run P f m q.1 q.2.1 q.2.2.1 q.2.2.2.1 q.2.2.2.2.1 q.2.2.2.2.2
end Jvm.JX

namespace Jvm.JX
open Sem ClassFile Op Lib
section
variable {P : Prog}
theorem run_succ (f m pc : Nat) (L : List Slot) (S : List Value) (k n : Nat) (H : AH) : run P (f + 1) m pc L S k n H =
    match P.1 m pc with
    | none => none
    | some d =>
      match ret P m d.1 S with
      | some v => some (v, H)
      | none => match cal P m d.1 d.2.2 S k n H with
        | some c => match run P f c.1 0 (ent P c.1 c.2.1) [] 0 0 H with
          | none => none
          | some r => run P f m (pc + d.2.1) L (r.1.toList ++ c.2.2) (k + (rm P c.1).cells) (n + (rm P c.1).slots) r.2
        | none => match stp P m d.1 d.2.1 d.2.2 pc L S k n H with
          | none => none
          | some q => run P f m q.1 q.2.1 q.2.2.1 q.2.2.2.1 q.2.2.2.2.1 q.2.2.2.2.2 := rfl
theorem run_mono : ∀ (f m pc : Nat) (L : List Slot) (S : List Value) (k n : Nat) (H : AH) (r : Option Value × AH), run P f m pc L S k n H = some r → run P (f + 1) m pc L S k n H = some r := by
  intro f
  induction f with
  | zero => intro m pc L S k n H r h; cases h
  | succ f ih =>
    intro m pc L S k n H r h
    rw [run_succ] at h ⊢
    cases hd : P.1 m pc with
    | none => rw [hd] at h; cases h
    | some d =>
      rw [hd] at h
      simp only at h ⊢
      cases hr : ret P m d.1 S with
      | some v => rw [hr] at h; exact h
      | none =>
        rw [hr] at h
        simp only at h ⊢
        cases hc : cal P m d.1 d.2.2 S k n H with
        | some c =>
          rw [hc] at h
          simp only at h ⊢
          cases hq : run P f c.1 0 (ent P c.1 c.2.1) [] 0 0 H with
          | none => rw [hq] at h; cases h
          | some q =>
            rw [hq] at h
            rw [ih _ _ _ _ _ _ _ _ hq]
            exact ih _ _ _ _ _ _ _ _ h
        | none =>
          rw [hc] at h
          simp only at h ⊢
          cases hs : stp P m d.1 d.2.1 d.2.2 pc L S k n H with
          | none => rw [hs] at h; cases h
          | some q => rw [hs] at h; exact ih _ _ _ _ _ _ _ _ h
theorem run_le {f g : Nat} (hfg : f ≤ g) {m pc : Nat} {L : List Slot} {S : List Value} {k n : Nat} {H : AH} {r : Option Value × AH} (h : run P f m pc L S k n H = some r) : run P g m pc L S k n H = some r := by
  induction hfg with
  | refl => exact h
  | step _ ih => exact run_mono _ _ _ _ _ _ _ _ _ ih
end
def W (P : Prog) (m pc : Nat) (L : List Slot) (S : List Value) (k n : Nat) (H : AH) (Q : Option Value → AH → Prop) : Prop := ∃ f v H', run P f m pc L S k n H = some (v, H') ∧ Q v H'
def Cl (P : Prog) (m : Nat) (a : List Value) (H : AH) (Q : Option Value → AH → Prop) : Prop := W P m 0 (ent P m a) [] 0 0 H Q
section Rules
variable {P : Prog} {m pc : Nat} {L : List Slot} {S : List Value} {k n : Nat} {H : AH} {Q : Option Value → AH → Prop} {ins : Instr} {len : Nat} {aux : Int}
theorem W_mono {Q' : Option Value → AH → Prop} (h : W P m pc L S k n H Q) (hq : ∀ v H', Q v H' → Q' v H') : W P m pc L S k n H Q' := by
  obtain ⟨f, v, H', h1, h2⟩ := h
  exact ⟨f, v, H', h1, hq _ _ h2⟩
theorem W_r {v : Option Value} (hd : P.1 m pc = some (ins, len, aux)) (hr : ret P m ins S = some v) : W P m pc L S k n H Q ↔ Q v H := by
  constructor
  · rintro ⟨f, v', H', h1, h2⟩
    cases f with
    | zero => cases h1
    | succ f => rw [run_succ, hd] at h1; simp only [hr] at h1; cases h1; exact h2
  · intro h
    refine ⟨1, v, H, ?_, h⟩
    rw [run_succ, hd]; simp only [hr]
theorem W_c {m' : Nat} {a r : List Value} (hd : P.1 m pc = some (ins, len, aux)) (hr : ret P m ins S = none) (hc : cal P m ins aux S k n H = some (m', a, r)) :
    W P m pc L S k n H Q ↔ Cl P m' a H (fun v H' => W P m (pc + len) L (v.toList ++ r) (k + (rm P m').cells) (n + (rm P m').slots) H' Q) := by
  constructor
  · rintro ⟨f, v', H', h1, h2⟩
    cases f with
    | zero => cases h1
    | succ f =>
      rw [run_succ, hd] at h1; simp only [hr, hc] at h1
      cases hq : run P f m' 0 (ent P m' a) [] 0 0 H with
      | none => rw [hq] at h1; cases h1
      | some q => rw [hq] at h1; exact ⟨f, q.1, q.2, hq, f, v', H', h1, h2⟩
  · rintro ⟨f, v, H', h1, g, v', H'', h2, h3⟩
    refine ⟨max f g + 1, v', H'', ?_, h3⟩
    rw [run_succ, hd]; simp only [hr, hc]
    rw [run_le (Nat.le_max_left f g) h1]
    exact run_le (Nat.le_max_right f g) h2
theorem W_q (hd : P.1 m pc = some (ins, len, aux)) (hr : ret P m ins S = none) (hc : cal P m ins aux S k n H = none) :
    W P m pc L S k n H Q ↔ ∃ q, stp P m ins len aux pc L S k n H = some q ∧ W P m q.1 q.2.1 q.2.2.1 q.2.2.2.1 q.2.2.2.2.1 q.2.2.2.2.2 Q := by
  constructor
  · rintro ⟨f, v', H', h1, h2⟩
    cases f with
    | zero => cases h1
    | succ f =>
      rw [run_succ, hd] at h1; simp only [hr, hc] at h1
      cases hq : stp P m ins len aux pc L S k n H with
      | none => rw [hq] at h1; cases h1
      | some q => rw [hq] at h1; exact ⟨q, rfl, f, v', H', h1, h2⟩
  · rintro ⟨q, hq, f, v', H', h1, h2⟩
    refine ⟨f + 1, v', H', ?_, h2⟩
    rw [run_succ, hd]; simp only [hr, hc, hq]; exact h1
theorem W_s {pc' : Nat} {L' : List Slot} {S' : List Value} {k' n' : Nat} {H' : AH} (hd : P.1 m pc = some (ins, len, aux)) (hr : ret P m ins S = none) (hc : cal P m ins aux S k n H = none)
    (hs : stp P m ins len aux pc L S k n H = some (pc', L', S', k', n', H')) : W P m pc L S k n H Q ↔ W P m pc' L' S' k' n' H' Q := by
  rw [W_q hd hr hc, hs]
  exact ⟨fun ⟨q, e, h⟩ => by cases e; exact h, fun h => ⟨_, rfl, h⟩⟩
theorem W_g {G : Prop} [Decidable G] {pc' : Nat} {L' : List Slot} {S' : List Value} {k' n' : Nat} {H' : AH} (hd : P.1 m pc = some (ins, len, aux)) (hr : ret P m ins S = none) (hc : cal P m ins aux S k n H = none)
    (hs : stp P m ins len aux pc L S k n H = if G then some (pc', L', S', k', n', H') else none) : W P m pc L S k n H Q ↔ (G ∧ W P m pc' L' S' k' n' H' Q) := by
  rw [W_q hd hr hc, hs]
  by_cases g : G
  · rw [if_pos g]; exact ⟨fun ⟨q, e, h⟩ => by cases e; exact ⟨g, h⟩, fun h => ⟨_, rfl, h.2⟩⟩
  · rw [if_neg g]; exact ⟨fun ⟨q, e, h⟩ => (by cases e), fun h => absurd h.1 g⟩
theorem W_n {G : Prop} [Decidable G] {pc' : Nat} {L' : List Slot} {S' : List Value} {k' n' : Nat} {H' : AH} (hd : P.1 m pc = some (ins, len, aux)) (hr : ret P m ins S = none) (hc : cal P m ins aux S k n H = none)
    (hs : stp P m ins len aux pc L S k n H = if G then none else some (pc', L', S', k', n', H')) : W P m pc L S k n H Q ↔ (¬ G ∧ W P m pc' L' S' k' n' H' Q) := by
  rw [W_q hd hr hc, hs]
  by_cases g : G
  · rw [if_pos g]; exact ⟨fun ⟨q, e, h⟩ => (by cases e), fun h => absurd g h.1⟩
  · rw [if_neg g]; exact ⟨fun ⟨q, e, h⟩ => by cases e; exact ⟨g, h⟩, fun h => ⟨_, rfl, h.2⟩⟩
theorem W_f {G : Prop} [Decidable G] {q1 q2 : Fm} (hd : P.1 m pc = some (ins, len, aux)) (hr : ret P m ins S = none) (hc : cal P m ins aux S k n H = none)
    (hs : stp P m ins len aux pc L S k n H = if G then some q1 else some q2) : W P m pc L S k n H Q ↔ (if G then W P m q1.1 q1.2.1 q1.2.2.1 q1.2.2.2.1 q1.2.2.2.2.1 q1.2.2.2.2.2 Q else W P m q2.1 q2.2.1 q2.2.2.1 q2.2.2.2.1 q2.2.2.2.2.1 q2.2.2.2.2.2 Q) := by
  rw [W_q hd hr hc, hs]
  by_cases g : G
  · rw [if_pos g, if_pos g]; exact ⟨fun ⟨q, e, h⟩ => by cases e; exact h, fun h => ⟨_, rfl, h⟩⟩
  · rw [if_neg g, if_neg g]; exact ⟨fun ⟨q, e, h⟩ => by cases e; exact h, fun h => ⟨_, rfl, h⟩⟩
section Cmp
variable {x y : Int32} {o : Int} {q : Nat}
theorem W_icmp_eq (hd : P.1 m pc = some (.if_icmp .eq o, len, aux)) (hj : jmp pc o = some q) : W P m pc L (.int y :: .int x :: S) k n H Q ↔ (if x = y then W P m q L S k n H Q else W P m (pc + len) L S k n H Q) :=
  W_f (G := x = y) (q1 := (q, L, S, k, n, H)) (q2 := (pc + len, L, S, k, n, H)) hd rfl rfl (by simp only [stp, hj, if_icmp.holds]; by_cases h : x = y <;> simp [h])
theorem W_icmp_ne (hd : P.1 m pc = some (.if_icmp .ne o, len, aux)) (hj : jmp pc o = some q) : W P m pc L (.int y :: .int x :: S) k n H Q ↔ (if x = y then W P m (pc + len) L S k n H Q else W P m q L S k n H Q) :=
  W_f (G := x = y) (q1 := (pc + len, L, S, k, n, H)) (q2 := (q, L, S, k, n, H)) hd rfl rfl (by simp only [stp, hj, if_icmp.holds]; by_cases h : x = y <;> simp [h])
theorem W_icmp_lt (hd : P.1 m pc = some (.if_icmp .lt o, len, aux)) (hj : jmp pc o = some q) : W P m pc L (.int y :: .int x :: S) k n H Q ↔ (if x < y then W P m q L S k n H Q else W P m (pc + len) L S k n H Q) :=
  W_f (G := x < y) (q1 := (q, L, S, k, n, H)) (q2 := (pc + len, L, S, k, n, H)) hd rfl rfl (by
    by_cases h : x < y
    · simp [stp, hj, Jvm.Free.XT.ii_lt_t h, h]
    · simp [stp, hj, Jvm.Free.XT.ii_lt_f h, h])
theorem W_icmp_ge (hd : P.1 m pc = some (.if_icmp .ge o, len, aux)) (hj : jmp pc o = some q) : W P m pc L (.int y :: .int x :: S) k n H Q ↔ (if x < y then W P m (pc + len) L S k n H Q else W P m q L S k n H Q) :=
  W_f (G := x < y) (q1 := (pc + len, L, S, k, n, H)) (q2 := (q, L, S, k, n, H)) hd rfl rfl (by
    by_cases h : x < y
    · simp [stp, hj, Jvm.Free.XT.ii_ge_f h, h]
    · simp [stp, hj, Jvm.Free.XT.ii_ge_t h, h])
theorem W_icmp_gt (hd : P.1 m pc = some (.if_icmp .gt o, len, aux)) (hj : jmp pc o = some q) : W P m pc L (.int y :: .int x :: S) k n H Q ↔ (if y < x then W P m q L S k n H Q else W P m (pc + len) L S k n H Q) :=
  W_f (G := y < x) (q1 := (q, L, S, k, n, H)) (q2 := (pc + len, L, S, k, n, H)) hd rfl rfl (by
    by_cases h : y < x
    · simp [stp, hj, Jvm.Free.XT.ii_gt_t h, h]
    · simp [stp, hj, Jvm.Free.XT.ii_gt_f h, h])
theorem W_icmp_le (hd : P.1 m pc = some (.if_icmp .le o, len, aux)) (hj : jmp pc o = some q) : W P m pc L (.int y :: .int x :: S) k n H Q ↔ (if y < x then W P m (pc + len) L S k n H Q else W P m q L S k n H Q) :=
  W_f (G := y < x) (q1 := (pc + len, L, S, k, n, H)) (q2 := (q, L, S, k, n, H)) hd rfl rfl (by
    by_cases h : y < x
    · simp [stp, hj, Jvm.Free.XT.ii_le_f h, h]
    · simp [stp, hj, Jvm.Free.XT.ii_le_t h, h])
theorem W_if_eq (hd : P.1 m pc = some (.ifCond .eq o, len, aux)) (hj : jmp pc o = some q) : W P m pc L (.int x :: S) k n H Q ↔ (if x = 0 then W P m q L S k n H Q else W P m (pc + len) L S k n H Q) :=
  W_f (G := x = 0) (q1 := (q, L, S, k, n, H)) (q2 := (pc + len, L, S, k, n, H)) hd rfl rfl (by
    by_cases h : x = 0
    · have e := Jvm.Free.XT.i0_eq_t h; simp only [stp, hj, e, if_pos h, if_true, Option.map_some]
    · simp [stp, hj, Jvm.Free.XT.i0_eq_f h, h])
theorem W_if_ne (hd : P.1 m pc = some (.ifCond .ne o, len, aux)) (hj : jmp pc o = some q) : W P m pc L (.int x :: S) k n H Q ↔ (if x = 0 then W P m (pc + len) L S k n H Q else W P m q L S k n H Q) :=
  W_f (G := x = 0) (q1 := (pc + len, L, S, k, n, H)) (q2 := (q, L, S, k, n, H)) hd rfl rfl (by
    by_cases h : x = 0
    · have e := Jvm.Free.XT.i0_ne_f h; simp only [stp, hj, e, if_pos h, Bool.false_eq_true, if_false]
    · simp [stp, hj, Jvm.Free.XT.i0_ne_t h, h])
theorem W_if_lt (hd : P.1 m pc = some (.ifCond .lt o, len, aux)) (hj : jmp pc o = some q) : W P m pc L (.int x :: S) k n H Q ↔ (if x < 0 then W P m q L S k n H Q else W P m (pc + len) L S k n H Q) :=
  W_f (G := x < 0) (q1 := (q, L, S, k, n, H)) (q2 := (pc + len, L, S, k, n, H)) hd rfl rfl (by
    by_cases h : x < 0
    · simp [stp, hj, Jvm.Free.XT.i0_lt_t h, h]
    · simp [stp, hj, Jvm.Free.XT.i0_lt_f h, h])
theorem W_if_ge (hd : P.1 m pc = some (.ifCond .ge o, len, aux)) (hj : jmp pc o = some q) : W P m pc L (.int x :: S) k n H Q ↔ (if x < 0 then W P m (pc + len) L S k n H Q else W P m q L S k n H Q) :=
  W_f (G := x < 0) (q1 := (pc + len, L, S, k, n, H)) (q2 := (q, L, S, k, n, H)) hd rfl rfl (by
    by_cases h : x < 0
    · simp [stp, hj, Jvm.Free.XT.i0_ge_f h, h]
    · simp [stp, hj, Jvm.Free.XT.i0_ge_t h, h])
theorem W_if_gt (hd : P.1 m pc = some (.ifCond .gt o, len, aux)) (hj : jmp pc o = some q) : W P m pc L (.int x :: S) k n H Q ↔ (if 0 < x then W P m q L S k n H Q else W P m (pc + len) L S k n H Q) :=
  W_f (G := 0 < x) (q1 := (q, L, S, k, n, H)) (q2 := (pc + len, L, S, k, n, H)) hd rfl rfl (by
    by_cases h : 0 < x
    · simp [stp, hj, Jvm.Free.XT.i0_gt_t h, h]
    · simp [stp, hj, Jvm.Free.XT.i0_gt_f h, h])
theorem W_if_le (hd : P.1 m pc = some (.ifCond .le o, len, aux)) (hj : jmp pc o = some q) : W P m pc L (.int x :: S) k n H Q ↔ (if 0 < x then W P m (pc + len) L S k n H Q else W P m q L S k n H Q) :=
  W_f (G := 0 < x) (q1 := (pc + len, L, S, k, n, H)) (q2 := (q, L, S, k, n, H)) hd rfl rfl (by
    by_cases h : 0 < x
    · simp [stp, hj, Jvm.Free.XT.i0_le_f h, h]
    · simp [stp, hj, Jvm.Free.XT.i0_le_t h, h])
theorem W_goto (hd : P.1 m pc = some (.goto o, len, aux)) (hj : jmp pc o = some q) : W P m pc L S k n H Q ↔ W P m q L S k n H Q := W_s hd rfl rfl (by simp [stp, hj])
end Cmp
section Sto
variable {i : Nat} {o o2 : Slot} {x y : Int32} {v : Value} {l : Int64} {a : Nat}
theorem stl_plain (h : L[i]? = some o) (ho : cat1 o = true) : stl L i v = some (L.set i (.val v)) := by
  unfold stl
  rw [h]
  cases o with
  | unset => rfl
  | second => cases ho
  | val w => simp only [cat1, beq_iff_eq] at ho; simp [ho]
theorem stL_plain (h : L[i]? = some o) (h2 : L[i + 1]? = some o2) (ho : cat1 o = true) (ho2 : cat1 o2 = true) : stL L i v = some ((L.set i (.val v)).set (i + 1) .second) := by
  unfold stL
  rw [h, h2]
  cases o with
  | unset => simp [ho2]
  | second => cases ho
  | val w => simp only [cat1, beq_iff_eq] at ho; simp [ho, ho2]
theorem stL_again (h : L[i]? = some (.val (.long l))) (h2 : L[i + 1]? = some o2) : stL L i v = some ((L.set i (.val v)).set (i + 1) .second) := by
  unfold stL
  rw [h, h2]; simp [Value.category]
theorem W_ist (hd : P.1 m pc = some (.istore i, len, aux)) (h : L[i]? = some o) (ho : cat1 o = true) : W P m pc L (.int x :: S) k n H Q ↔ W P m (pc + len) (L.set i (.val (.int x))) S k n H Q := W_s hd rfl rfl (by simp [stp, stl_plain h ho])
theorem W_istn {i : Fin 4} (hd : P.1 m pc = some (.istore_n i, len, aux)) (h : L[i.val]? = some o) (ho : cat1 o = true) : W P m pc L (.int x :: S) k n H Q ↔ W P m (pc + len) (L.set i.val (.val (.int x))) S k n H Q := W_s hd rfl rfl (by simp [stp, stl_plain h ho])
theorem W_ast (hd : P.1 m pc = some (.astore i, len, aux)) (h : L[i]? = some o) (ho : cat1 o = true) : W P m pc L (.ref a :: S) k n H Q ↔ W P m (pc + len) (L.set i (.val (.ref a))) S k n H Q := W_s hd rfl rfl (by simp [stp, stl_plain h ho])
theorem W_astn {i : Fin 4} (hd : P.1 m pc = some (.astore_n i, len, aux)) (h : L[i.val]? = some o) (ho : cat1 o = true) : W P m pc L (.ref a :: S) k n H Q ↔ W P m (pc + len) (L.set i.val (.val (.ref a))) S k n H Q := W_s hd rfl rfl (by simp [stp, stl_plain h ho])
theorem W_lst (hd : P.1 m pc = some (.lstore i, len, aux)) (h : L[i]? = some o) (h2 : L[i + 1]? = some o2) (ho : cat1 o = true) (ho2 : cat1 o2 = true) : W P m pc L (.long l :: S) k n H Q ↔ W P m (pc + len) ((L.set i (.val (.long l))).set (i + 1) .second) S k n H Q := W_s hd rfl rfl (by simp [stp, stL_plain h h2 ho ho2])
theorem W_lstn {i : Fin 4} (hd : P.1 m pc = some (.lstore_n i, len, aux)) (h : L[i.val]? = some o) (h2 : L[i.val + 1]? = some o2) (ho : cat1 o = true) (ho2 : cat1 o2 = true) : W P m pc L (.long l :: S) k n H Q ↔ W P m (pc + len) ((L.set i.val (.val (.long l))).set (i.val + 1) .second) S k n H Q := W_s hd rfl rfl (by simp [stp, stL_plain h h2 ho ho2])
theorem W_lst' {l' : Int64} (hd : P.1 m pc = some (.lstore i, len, aux)) (h : L[i]? = some (.val (.long l'))) (h2 : L[i + 1]? = some o2) : W P m pc L (.long l :: S) k n H Q ↔ W P m (pc + len) ((L.set i (.val (.long l))).set (i + 1) .second) S k n H Q := W_s hd rfl rfl (by simp [stp, stL_again h h2])
theorem W_lstn' {l' : Int64} {i : Fin 4} (hd : P.1 m pc = some (.lstore_n i, len, aux)) (h : L[i.val]? = some (.val (.long l'))) (h2 : L[i.val + 1]? = some o2) : W P m pc L (.long l :: S) k n H Q ↔ W P m (pc + len) ((L.set i.val (.val (.long l))).set (i.val + 1) .second) S k n H Q := W_s hd rfl rfl (by simp [stp, stL_again h h2])
theorem st_long {S' : List Value} (h : L[i]? = some (.val (.long l))) (h2 : L[i + 1]? = some .second) : ((stl L i v).map fun L => (pc, L, S', k, n, H)) = some (pc, (L.set (i + 1) .unset).set i (.val v), S', k, n, H) := by
  have := (List.getElem?_eq_some_iff.mp h2).1
  simp [stl, h, Value.category, this]
theorem cat1_unset : cat1 .unset = true := rfl
theorem cat1_int : cat1 (.val (.int x)) = true := rfl
theorem cat1_ref : cat1 (.val (.ref a)) = true := rfl
theorem cs_nil : cs [] = 0 := by simp [cs]
theorem cs_int : cs (.int x :: S) = 1 + cs S := by simp [cs, Value.category]
theorem cs_ref : cs (.ref a :: S) = 1 + cs S := by simp [cs, Value.category]
theorem cs_long : cs (.long l :: S) = 2 + cs S := by simp [cs, Value.category]
end Sto
section Heap
variable {a j : Nat} {i x c : Int32} {v : Value} {l : Int64}
theorem W_getf {ix : Nat} (hd : P.1 m pc = some (.getfield ix, len, aux)) : W P m pc L (.ref a :: S) k n H Q ↔ (isO H a = true ∧ W P m (pc + len) L (fld H a aux.toNat :: S) k n H Q) := W_g hd rfl rfl rfl
theorem W_putf {ix : Nat} (hd : P.1 m pc = some (.putfield ix, len, aux)) : W P m pc L (v :: .ref a :: S) k n H Q ↔ ((isOw H a = true ∧ okv (P.2.2.1 aux.toNat) v = true) ∧ W P m (pc + len) L S k n (wr H a aux.toNat v) Q) := W_g hd rfl rfl rfl
theorem W_iaload (hd : P.1 m pc = some (.iaload, len, aux)) : W P m pc L (.int i :: .ref a :: S) k n H Q ↔ (inA H a .int i = true ∧ W P m (pc + len) L (elt H a i :: S) k n H Q) := W_g hd rfl rfl rfl
theorem W_laload (hd : P.1 m pc = some (.laload, len, aux)) : W P m pc L (.int i :: .ref a :: S) k n H Q ↔ (inA H a .long i = true ∧ W P m (pc + len) L (elt H a i :: S) k n H Q) := W_g hd rfl rfl rfl
theorem W_baload (hd : P.1 m pc = some (.baload, len, aux)) : W P m pc L (.int i :: .ref a :: S) k n H Q ↔ ((inA H a .byte i = true ∨ inA H a .boolean i = true) ∧ W P m (pc + len) L (elt H a i :: S) k n H Q) := W_g hd rfl rfl rfl
theorem W_iastore (hd : P.1 m pc = some (.iastore, len, aux)) : W P m pc L (.int x :: .int i :: .ref a :: S) k n H Q ↔ (inAw H a .int i = true ∧ W P m (pc + len) L S k n (wr H a i.toNatClampNeg (.int x)) Q) := W_g hd rfl rfl rfl
theorem W_lastore (hd : P.1 m pc = some (.lastore, len, aux)) : W P m pc L (.long l :: .int i :: .ref a :: S) k n H Q ↔ (inAw H a .long i = true ∧ W P m (pc + len) L S k n (wr H a i.toNatClampNeg (.long l)) Q) := W_g hd rfl rfl rfl
theorem W_bastore (hd : P.1 m pc = some (.bastore, len, aux)) : W P m pc L (.int x :: .int i :: .ref a :: S) k n H Q ↔ (((inAw H a .byte i = true ∧ okv .byte (.int x) = true) ∨ (inAw H a .boolean i = true ∧ okv .boolean (.int x) = true)) ∧ W P m (pc + len) L S k n (wr H a i.toNatClampNeg (.int x)) Q) := W_g hd rfl rfl rfl
theorem W_alen (hd : P.1 m pc = some (.arraylength, len, aux)) : W P m pc L (.ref a :: S) k n H Q ↔ (isA H a = true ∧ W P m (pc + len) L (.int (alen H a).toInt32 :: S) k n H Q) := W_g hd rfl rfl rfl
theorem W_newarr {t : ArrayType} (hd : P.1 m pc = some (.newarray t, len, aux)) : W P m pc L (.int c :: S) k n H Q ↔ ((¬ c < 0 ∧ c.toNatClampNeg * 8 ≤ 536870912 ∧ k + 1 ≤ (rm P m).cells ∧ n + c.toNatClampNeg ≤ (rm P m).slots) ∧ W P m (pc + len) L (.ref H.1 :: S) (k + 1) (n + c.toNatClampNeg) (mkA (newarray.typeOf t) c.toNatClampNeg H) Q) := W_g hd rfl rfl rfl
theorem W_new {ix : Nat} (hd : P.1 m pc = some (.new ix, len, aux)) : W P m pc L S k n H Q ↔ ((0 ≤ aux ∧ k + 1 ≤ (rm P m).cells ∧ n + aux.toNat ≤ (rm P m).slots) ∧ W P m (pc + len) L (.ref H.1 :: S) (k + 1) (n + aux.toNat) (mkO P H) Q) := W_g hd rfl rfl rfl
theorem W_oinit {ix : Nat} (hd : P.1 m pc = some (.invokespecial ix, len, -1)) : W P m pc L (.ref a :: S) k n H Q ↔ ((1 ≤ (rm P m).frames ∧ cs S + 12 ≤ (rm P m).locals) ∧ W P m (pc + len) L S k n H Q) :=
  W_g (G := 1 ≤ (rm P m).frames ∧ cs S + 12 ≤ (rm P m).locals) hd rfl (by simp [cal, cal1]) (by simp [stp])
theorem W_idiv {y : Int32} (hd : P.1 m pc = some (.idiv, len, aux)) : W P m pc L (.int y :: .int x :: S) k n H Q ↔ (¬ y = 0 ∧ W P m (pc + len) L (.int (x / y) :: S) k n H Q) := W_n hd rfl rfl rfl
theorem W_irem {y : Int32} (hd : P.1 m pc = some (.irem, len, aux)) : W P m pc L (.int y :: .int x :: S) k n H Q ↔ (¬ y = 0 ∧ W P m (pc + len) L (.int (x % y) :: S) k n H Q) := W_n hd rfl rfl rfl
theorem W_ldiv {l' : Int64} (hd : P.1 m pc = some (.ldiv, len, aux)) : W P m pc L (.long l' :: .long l :: S) k n H Q ↔ (¬ l' = 0 ∧ W P m (pc + len) L (.long (l / l') :: S) k n H Q) := W_n hd rfl rfl rfl
theorem W_lrem {l' : Int64} (hd : P.1 m pc = some (.lrem, len, aux)) : W P m pc L (.long l' :: .long l :: S) k n H Q ↔ (¬ l' = 0 ∧ W P m (pc + len) L (.long (l % l') :: S) k n H Q) := W_n hd rfl rfl rfl
end Heap
section Call
variable {m' : Nat} {a r : List Value} {b : Nat}
theorem cal_eq (hk : kindOk ins (kd P m') = true) (hl : a.length = na P m') : cal P m ins (m' : Int) (a.reverse ++ r) k n H = if may P m m' a r k n H = true then some (m', a, r) else none := by
  have e1 : (a.reverse ++ r).take (na P m') = a.reverse := by rw [← hl, ← List.length_reverse (as := a)]; exact List.take_left ..
  have e2 : (a.reverse ++ r).drop (na P m') = r := by rw [← hl, ← List.length_reverse (as := a)]; exact List.drop_left ..
  have key : cal1 P m ins (m' : Int) (a.reverse ++ r) k n H = if may P m m' a r k n H = true then some (m', a, r) else none := by
    unfold cal1
    rw [Int.toNat_natCast, e1, e2, List.reverse_reverse]
    simp [hk]
  cases ins <;> first | exact key | (cases hk)
theorem W_call (hd : P.1 m pc = some (ins, len, (m' : Int))) (hr : ret P m ins S = none) (hk : kindOk ins (kd P m') = true) (hl : a.length = na P m') (hS : S = a.reverse ++ r) (hns : stp P m ins len (m' : Int) pc L S k n H = none) :
    W P m pc L S k n H Q ↔ (may P m m' a r k n H = true ∧ Cl P m' a H (fun v H' => W P m (pc + len) L (v.toList ++ r) (k + (rm P m').cells) (n + (rm P m').slots) H' Q)) := by
  have hc : cal P m ins (m' : Int) S k n H = if may P m m' a r k n H = true then some (m', a, r) else none := by rw [hS]; exact cal_eq hk hl
  by_cases g : may P m m' a r k n H = true
  · rw [if_pos g] at hc
    rw [W_c hd hr hc]; simp [g]
  · rw [if_neg g] at hc
    rw [W_q hd hr hc, hns]
    exact ⟨fun ⟨q, e, h⟩ => (by cases e), fun h => absurd h.1 g⟩
theorem W_inst {ix : Nat} {as : List Value} (hd : P.1 m pc = some (.invokevirtual ix, len, (m' : Int))) (hk : kindOk (.invokevirtual ix) (kd P m') = true) (hl : as.length + 1 = na P m') (hS : S = as.reverse ++ .ref b :: r)
    (h1 : (Sym.laidSlots (.ref b :: as)).length ≤ ml P m') (h2 : (rm P m').frames + 1 ≤ (rm P m).frames) (h3 : (rm P m').cells = 0 ∧ (rm P m').slots = 0) :
    W P m pc L S k n H Q ↔ ((isO H b = true ∧ cs r + (ml P m' + 11) + (rm P m').locals ≤ (rm P m).locals) ∧ Cl P m' (.ref b :: as) H (fun v H' => W P m (pc + len) L (v.toList ++ r) k n H' Q)) := by
  rw [W_call (a := .ref b :: as) (r := r) hd rfl hk hl (by rw [hS]; simp) rfl]
  have e : may P m m' (.ref b :: as) r k n H = true ↔ (isO H b = true ∧ cs r + (ml P m' + 11) + (rm P m').locals ≤ (rm P m).locals) := by
    have hk0 : kd P m' ≠ 0 := by intro h; rw [h] at hk; cases hk
    simp [may, rcv, h1, h2, h3, ← hl, hk0]; exact And.comm
  rw [e, h3.1, h3.2]; rfl
theorem W_stat {ix : Nat} (hd : P.1 m pc = some (.invokestatic ix, len, (m' : Int))) (hk : kindOk (.invokestatic ix) (kd P m') = true) (hl : a.length = na P m') (hS : S = a.reverse ++ r)
    (h1 : (Sym.laidSlots a).length ≤ ml P m') (h2 : (rm P m').frames + 1 ≤ (rm P m).frames) (h3 : (rm P m').cells = 0 ∧ (rm P m').slots = 0) :
    W P m pc L S k n H Q ↔ ((cs r + (ml P m' + 11) + (rm P m').locals ≤ (rm P m).locals) ∧ Cl P m' a H (fun v H' => W P m (pc + len) L (v.toList ++ r) k n H' Q)) := by
  rw [W_call (a := a) (r := r) hd rfl hk hl hS rfl]
  have e : may P m m' a r k n H = true ↔ (cs r + (ml P m' + 11) + (rm P m').locals ≤ (rm P m).locals) := by
    have hk0 : kd P m' = 0 := by simpa [kindOk] using hk
    simp [may, h1, h2, h3, hl, hk0]
  rw [e, h3.1, h3.2]; rfl
theorem W_init {ix : Nat} {as : List Value} (hd : P.1 m pc = some (.invokespecial ix, len, (m' : Int))) (hk : kindOk (.invokespecial ix) (kd P m') = true) (hl : as.length + 1 = na P m') (hS : S = as.reverse ++ .ref b :: r)
    (h1 : (Sym.laidSlots (.ref b :: as)).length ≤ ml P m') (h2 : (rm P m').frames + 1 ≤ (rm P m).frames) (h3 : ¬ ((rm P m').cells = 0 ∧ (rm P m').slots = 0)) :
    W P m pc L S k n H Q ↔ ((isO H b = true ∧ cs r + (ml P m' + 11) + (rm P m').locals ≤ (rm P m).locals ∧ k + (rm P m').cells ≤ (rm P m).cells ∧ n + (rm P m').slots ≤ (rm P m).slots) ∧ Cl P m' (.ref b :: as) H (fun v H' => W P m (pc + len) L (v.toList ++ r) (k + (rm P m').cells) (n + (rm P m').slots) H' Q)) := by
  have hns : stp P m (.invokespecial ix) len (m' : Int) pc L S k n H = none := by
    dsimp only [stp]
    split
    · rw [if_neg]; omega
    · rfl
  rw [W_call (a := .ref b :: as) (r := r) hd rfl hk hl (by rw [hS]; simp) hns]
  have e : may P m m' (.ref b :: as) r k n H = true ↔ (isO H b = true ∧ cs r + (ml P m' + 11) + (rm P m').locals ≤ (rm P m).locals ∧ k + (rm P m').cells ≤ (rm P m).cells ∧ n + (rm P m').slots ≤ (rm P m).slots) := by
    have hk0 : kd P m' ≠ 0 := by intro h; rw [h] at hk; cases hk
    simp only [may, rcv, h1, h2, h3, ← hl, hk0, List.length_cons, decide_true, decide_false, Bool.true_and, Bool.false_or, Bool.and_eq_true, decide_eq_true_eq]
    constructor
    · rintro ⟨⟨q1, q2⟩, q3⟩; exact ⟨q3, q1, q2⟩
    · rintro ⟨q3, q1, q2⟩; exact ⟨⟨q1, q2⟩, q3⟩
  rw [e]
end Call
section Last
theorem W_rz {x : Int32} (hd : P.1 m pc = some (.ireturn, len, aux)) (hr : rt P m = some .boolean) : W P m pc L (.int x :: S) k n H Q ↔ ((x = 0 ∨ x = 1) ∧ Q (some (.int x)) H) := by
  by_cases g : x = 0 ∨ x = 1
  · rw [W_r hd (by simp only [ret, hr]; rw [if_pos g])]; simp [g]
  · rw [W_q hd (by simp only [ret, hr]; rw [if_neg g]) rfl]
    constructor
    · rintro ⟨q, e, -⟩; cases e
    · intro h; exact absurd h.1 g
theorem W_newarr' {t : ArrayType} {c : Int32} {N : Nat} (hd : P.1 m pc = some (.newarray t, len, aux)) (hN : c.toNatClampNeg = N) (h1 : ¬ c < 0) (h2 : N * 8 ≤ 536870912) :
    W P m pc L (.int c :: S) k n H Q ↔ ((k + 1 ≤ (rm P m).cells ∧ n + N ≤ (rm P m).slots) ∧ W P m (pc + len) L (.ref H.1 :: S) (k + 1) (n + N) (mkA (newarray.typeOf t) N H) Q) := by
  rw [W_newarr hd, hN]; simp [h1, h2]
theorem W_new' {ix : Nat} (hd : P.1 m pc = some (.new ix, len, aux)) (h0 : 0 ≤ aux) : W P m pc L S k n H Q ↔ ((k + 1 ≤ (rm P m).cells ∧ n + aux.toNat ≤ (rm P m).slots) ∧ W P m (pc + len) L (.ref H.1 :: S) (k + 1) (n + aux.toNat) (mkO P H) Q) := by
  rw [W_new hd]; simp [h0]
def tswW (f : Nat → Prop) (x : Int32) (d : Nat) : Int → List Nat → Prop
  | _, [] => f d
  | lo, q :: qs => if x = Int32.ofInt lo then f q else tswW f x d (lo + 1) qs
theorem tswW_eq (f : Nat → Prop) (x : Int32) (d : Nat) : ∀ (qs : List Nat) (lo : Int), -2147483648 ≤ lo → lo + qs.length ≤ 2147483648 → (tswW f x d lo qs ↔ f (if x.toInt < lo ∨ lo + qs.length ≤ x.toInt then d else qs.getD (x.toInt - lo).toNat d)) := by
  intro qs
  induction qs with
  | nil => intro lo h1 h2; simp only [tswW, List.length_nil]; rw [if_pos (by omega)]
  | cons q qs ih =>
    intro lo h1 h2
    simp only [List.length_cons] at h2 ⊢
    have hx : x = Int32.ofInt lo ↔ x.toInt = lo := by
      rw [← Int32.toInt_inj, Int32.toInt_ofInt_of_le (by omega) (by omega)]
    simp only [tswW]
    by_cases e : x.toInt = lo
    · rw [if_pos (hx.mpr e), if_neg (by omega)]
      have : (x.toInt - lo).toNat = 0 := by omega
      rw [this]; rfl
    · rw [if_neg (fun h => e (hx.mp h)), ih (lo + 1) (by omega) (by omega)]
      by_cases g : x.toInt < lo ∨ lo + ((qs.length : Int) + 1) ≤ x.toInt
      · rw [if_pos (by omega), if_pos (by omega)]
      · rw [if_neg (by omega), if_neg (by omega)]
        have : (x.toInt - lo).toNat = (x.toInt - (lo + 1)).toNat + 1 := by omega
        rw [this]; rfl
theorem W_tsw {x : Int32} {d lo hi : Int} {os : Array Int} {qs : List Nat} {dq : Nat} (hd : P.1 m pc = some (.tableswitch d lo hi os, len, aux)) (h0 : jmp pc d = some dq) (h1 : os.toList.map (jmp pc) = qs.map some) (h2 : -2147483648 ≤ lo ∧ lo + qs.length ≤ 2147483648 ∧ hi = lo + qs.length - 1) :
    W P m pc L (.int x :: S) k n H Q ↔ tswW (fun q => W P m q L S k n H Q) x dq lo qs := by
  rw [tswW_eq _ _ _ _ _ h2.1 h2.2.1]
  have hlen : os.size = qs.length := by have := congrArg List.length h1; simpa using this
  refine W_s hd rfl rfl ?_
  show (if x.toInt < lo ∨ x.toInt > hi then (jmp pc d).map fun q => (q, L, S, k, n, H) else (os[(x.toInt - lo).toNat]?).bind fun o => (jmp pc o).map fun q => (q, L, S, k, n, H)) = _
  by_cases g : x.toInt < lo ∨ x.toInt > hi
  · rw [if_pos g, if_pos (by omega), h0]; rfl
  · rw [if_neg g, if_neg (by omega)]
    have hi2 : (x.toInt - lo).toNat < qs.length := by omega
    have e1 : (os.toList.map (jmp pc))[(x.toInt - lo).toNat]? = some (some (qs.getD (x.toInt - lo).toNat dq)) := by
      rw [h1]; simp [hi2]
    rw [List.getElem?_map, Array.getElem?_toList] at e1
    obtain ⟨o, ho, hj⟩ := Option.map_eq_some_iff.mp e1
    rw [ho]; simp [hj]
theorem cmpL_lt {x y : Int64} : Jvm.Free.XT.cmpL x y < 0 ↔ x < y := by
  unfold Jvm.Free.XT.cmpL
  by_cases h1 : y < x
  · rw [if_pos h1]; exact ⟨fun h => absurd h (by decide), fun h => by rw [Int64.lt_iff_toInt_lt] at *; omega⟩
  · rw [if_neg h1]
    by_cases h2 : x = y
    · rw [if_pos h2]; exact ⟨fun h => absurd h (by decide), fun h => by subst h2; rw [Int64.lt_iff_toInt_lt] at *; omega⟩
    · rw [if_neg h2]; refine ⟨fun _ => ?_, fun _ => by decide⟩
      rw [Int64.lt_iff_toInt_lt] at *; rw [← Int64.toInt_inj] at h2; omega
theorem cmpL_gt {x y : Int64} : 0 < Jvm.Free.XT.cmpL x y ↔ y < x := by
  unfold Jvm.Free.XT.cmpL
  by_cases h1 : y < x
  · rw [if_pos h1]; exact ⟨fun _ => h1, fun _ => by decide⟩
  · rw [if_neg h1]
    by_cases h2 : x = y
    · rw [if_pos h2]; exact ⟨fun h => absurd h (by decide), fun h => absurd h h1⟩
    · rw [if_neg h2]; exact ⟨fun h => absurd h (by decide), fun h => absurd h h1⟩
theorem cmpL_eq {x y : Int64} : Jvm.Free.XT.cmpL x y = 0 ↔ x = y := by
  unfold Jvm.Free.XT.cmpL
  by_cases h1 : y < x
  · rw [if_pos h1]; exact ⟨fun h => absurd h (by decide), fun h => by subst h; rw [Int64.lt_iff_toInt_lt] at h1; omega⟩
  · rw [if_neg h1]
    by_cases h2 : x = y
    · rw [if_pos h2]; exact ⟨fun _ => h2, fun _ => rfl⟩
    · rw [if_neg h2]; exact ⟨fun h => absurd h (by decide), fun h => absurd h h2⟩
end Last
end Rules
abbrev LW : Type := (Nat → Nat → Option (Instr × Nat × Int)) × (Nat → MInfo)
abbrev Row : Type := Nat × Instr × Nat × Int
end Jvm.JX

namespace Jvm.JX
open Sem ClassFile Op Lib
abbrev St : Type := (Nat → Int32) × (Nat → Int64) × (Nat → Nat → Int32) × (Nat → Nat → Int64)
abbrev Lay : Type := List (FieldType × Nat) × List (FieldType × Nat)
def sI (s : St) (k : Nat) : Int32 := s.1 k
def sJ (s : St) (k : Nat) : Int64 := s.2.1 k
def sA (s : St) (t i : Nat) : Int32 := s.2.2.1 t i
def sB (s : St) (t i : Nat) : Int64 := s.2.2.2 t i
def uI (s : St) (k : Nat) (v : Int32) : St := (fun j => if j = k then v else s.1 j, s.2.1, s.2.2.1, s.2.2.2)
def uJ (s : St) (k : Nat) (v : Int64) : St := (s.1, fun j => if j = k then v else s.2.1 j, s.2.2.1, s.2.2.2)
def uA (s : St) (t i : Nat) (v : Int32) : St := (s.1, s.2.1, fun t' i' => if t' = t ∧ i' = i then v else s.2.2.1 t' i', s.2.2.2)
def uB (s : St) (t i : Nat) (v : Int64) : St := (s.1, s.2.1, s.2.2.1, fun t' i' => if t' = t ∧ i' = i then v else s.2.2.2 t' i')
def z0 : St := (fun _ => 0, fun _ => 0, fun _ _ => 0, fun _ _ => 0)
section St
variable {s : St} {k j t i t' i' : Nat} {v : Int32} {w : Int64}
theorem sI_uI : sI (uI s k v) j = if j = k then v else sI s j := by simp [sI, sJ, sA, sB, uI, uJ, uA, uB, z0]
theorem sI_uJ : sI (uJ s k w) j = sI s j := by simp [sI, sJ, sA, sB, uI, uJ, uA, uB, z0]
theorem sI_uA : sI (uA s t i v) j = sI s j := by simp [sI, sJ, sA, sB, uI, uJ, uA, uB, z0]
theorem sI_uB : sI (uB s t i w) j = sI s j := by simp [sI, sJ, sA, sB, uI, uJ, uA, uB, z0]
theorem sJ_uI : sJ (uI s k v) j = sJ s j := by simp [sI, sJ, sA, sB, uI, uJ, uA, uB, z0]
theorem sJ_uJ : sJ (uJ s k w) j = if j = k then w else sJ s j := by simp [sI, sJ, sA, sB, uI, uJ, uA, uB, z0]
theorem sJ_uA : sJ (uA s t i v) j = sJ s j := by simp [sI, sJ, sA, sB, uI, uJ, uA, uB, z0]
theorem sJ_uB : sJ (uB s t i w) j = sJ s j := by simp [sI, sJ, sA, sB, uI, uJ, uA, uB, z0]
theorem sA_uI : sA (uI s k v) t' i' = sA s t' i' := by simp [sI, sJ, sA, sB, uI, uJ, uA, uB, z0]
theorem sA_uJ : sA (uJ s k w) t' i' = sA s t' i' := by simp [sI, sJ, sA, sB, uI, uJ, uA, uB, z0]
theorem sA_uA : sA (uA s t i v) t' i' = if t' = t ∧ i' = i then v else sA s t' i' := by simp [sI, sJ, sA, sB, uI, uJ, uA, uB, z0]
theorem sA_uB : sA (uB s t i w) t' i' = sA s t' i' := by simp [sI, sJ, sA, sB, uI, uJ, uA, uB, z0]
theorem sB_uI : sB (uI s k v) t' i' = sB s t' i' := by simp [sI, sJ, sA, sB, uI, uJ, uA, uB, z0]
theorem sB_uJ : sB (uJ s k w) t' i' = sB s t' i' := by simp [sI, sJ, sA, sB, uI, uJ, uA, uB, z0]
theorem sB_uA : sB (uA s t i v) t' i' = sB s t' i' := by simp [sI, sJ, sA, sB, uI, uJ, uA, uB, z0]
theorem sB_uB : sB (uB s t i w) t' i' = if t' = t ∧ i' = i then w else sB s t' i' := by simp [sI, sJ, sA, sB, uI, uJ, uA, uB, z0]
theorem sI_z0 : sI z0 k = 0 := by simp [sI, sJ, sA, sB, uI, uJ, uA, uB, z0]
theorem sJ_z0 : sJ z0 k = 0 := by simp [sI, sJ, sA, sB, uI, uJ, uA, uB, z0]
theorem sA_z0 : sA z0 t i = 0 := by simp [sI, sJ, sA, sB, uI, uJ, uA, uB, z0]
theorem sB_z0 : sB z0 t i = 0 := by simp [sI, sJ, sA, sB, uI, uJ, uA, uB, z0]
theorem St_ext {s s' : St} (h1 : ∀ k, sI s k = sI s' k) (h2 : ∀ k, sJ s k = sJ s' k) (h3 : ∀ t i, sA s t i = sA s' t i) (h4 : ∀ t i, sB s t i = sB s' t i) : s = s' :=
  Prod.ext (funext h1) (Prod.ext (funext h2) (Prod.ext (funext fun t => funext (h3 t)) (funext fun t => funext (h4 t))))
end St
def zr (s : St) (t : Nat) : Prop := (∀ i, sA s t i = 0) ∧ ∀ i, sB s t i = 0
theorem zr_z0 {t : Nat} : zr z0 t = True := by simp [zr, sA_z0, sB_z0]
theorem zr_uI {s : St} {t k : Nat} {v : Int32} : zr (uI s k v) t = zr s t := by simp [zr, sA_uI, sB_uI]
theorem zr_uJ {s : St} {t k : Nat} {v : Int64} : zr (uJ s k v) t = zr s t := by simp [zr, sA_uJ, sB_uJ]
def fvl (y : Lay) (j p : Nat) (s : St) (k : Nat) : Value := match y.1[k]? with
  | some (.long, _) => .long (sJ s k)
  | some (.array _, t) => if t ≤ j then .ref (p + t) else .null
  | _ => .int (sI s k)
def blk (y : Lay) (j p : Nat) (s : St) : Nat → Cel
  | 0 => (.object "", y.1.length, true, fvl y j p s)
  | t + 1 => match y.2[t]? with
    | some (.long, n) => (.array .long, n, true, fun i => .long (sB s (t + 1) i))
    | some (ty, n) => (.array ty, n, true, fun i => .int (sA s (t + 1) i))
    | none => (.char, 0, false, fun _ => .null)
def put (y : Lay) (j : Nat) (H : AH) (p : Nat) (s : St) : AH := (H.1, fun a => if p ≤ a ∧ a ≤ p + j then blk y j p s (a - p) else H.2 a)
section Put
variable {y : Lay} {j : Nat} {H : AH} {p : Nat} {s : St} {k t n : Nat} {ty : FieldType} {i : Int32}
theorem put_0 : (put y j H p s).2 p = (.object "", y.1.length, true, fvl y j p s) := by simp [put, blk]
theorem put_t (ht : t ≤ j) : (put y j H p s).2 (p + t) = blk y j p s t := by simp [put, ht]
theorem put_ot {a : Nat} (h : a < p ∨ p + j < a) : (put y j H p s).2 a = H.2 a := by
  have : ¬ (p ≤ a ∧ a ≤ p + j) := by omega
  simp [put, this]
theorem isO_put : isO (put y j H p s) p = true := by simp [isO, put_0]
theorem isOw_put : isOw (put y j H p s) p = true := by simp [isOw, isO_put, put_0]
theorem fld_I (h : y.1[k]? = some (ty, t)) (hl : ty ≠ .long) (ha : ∀ e, ty ≠ .array e) : fld (put y j H p s) p k = .int (sI s k) := by
  simp only [fld, put_0, fvl, h]; cases ty <;> first | rfl | exact absurd rfl hl | exact absurd rfl (ha _)
theorem fld_J (h : y.1[k]? = some (.long, t)) : fld (put y j H p s) p k = .long (sJ s k) := by simp only [fld, put_0, fvl, h]
theorem fld_R (h : y.1[k]? = some (.array ty, t)) (ht : t ≤ j) : fld (put y j H p s) p k = .ref (p + t) := by simp only [fld, put_0, fvl, h, ht, if_true]
theorem blk_I (h : y.2[t]? = some (ty, n)) (hl : ty ≠ .long) : blk y j p s (t + 1) = (.array ty, n, true, fun i => .int (sA s (t + 1) i)) := by
  simp only [blk, h]
theorem blk_J (h : y.2[t]? = some (.long, n)) : blk y j p s (t + 1) = (.array .long, n, true, fun i => .long (sB s (t + 1) i)) := by simp only [blk, h]
theorem clamp_lt {i : Int32} {n : Nat} : (¬ i < 0 ∧ i.toNatClampNeg < n) ↔ (0 ≤ i.toInt ∧ i.toInt < n) := by
  simp only [Int32.lt_iff_toInt_lt, Int32.toNatClampNeg, Int32.reduceToInt]; omega
theorem inA_I (h : y.2[t]? = some (ty, n)) (hl : ty ≠ .long) (ht : t + 1 ≤ j) : inA (put y j H p s) (p + (t + 1)) ty i = true ↔ (0 ≤ i.toInt ∧ i.toInt < n) := by
  rw [← clamp_lt]; simp [inA, put_t ht, blk_I h hl]
theorem inA_J (h : y.2[t]? = some (.long, n)) (ht : t + 1 ≤ j) : inA (put y j H p s) (p + (t + 1)) .long i = true ↔ (0 ≤ i.toInt ∧ i.toInt < n) := by
  rw [← clamp_lt]; simp [inA, put_t ht, blk_J h]
theorem inA_no {ty' : FieldType} (h : y.2[t]? = some (ty, n)) (hl : ty ≠ .long) (ht : t + 1 ≤ j) (hne : ty ≠ ty') : inA (put y j H p s) (p + (t + 1)) ty' i = true ↔ False := by
  simp [inA, put_t ht, blk_I h hl, hne]
theorem inAw_I (h : y.2[t]? = some (ty, n)) (hl : ty ≠ .long) (ht : t + 1 ≤ j) : inAw (put y j H p s) (p + (t + 1)) ty i = true ↔ (0 ≤ i.toInt ∧ i.toInt < n) := by
  rw [← inA_I (H := H) (p := p) (s := s) h hl ht]; simp [inAw, put_t ht, blk_I h hl]
theorem inAw_J (h : y.2[t]? = some (.long, n)) (ht : t + 1 ≤ j) : inAw (put y j H p s) (p + (t + 1)) .long i = true ↔ (0 ≤ i.toInt ∧ i.toInt < n) := by
  rw [← inA_J (H := H) (p := p) (s := s) h ht]; simp [inAw, put_t ht, blk_J h]
theorem inAw_no {ty' : FieldType} (h : y.2[t]? = some (ty, n)) (hl : ty ≠ .long) (ht : t + 1 ≤ j) (hne : ty ≠ ty') : inAw (put y j H p s) (p + (t + 1)) ty' i = true ↔ False := by
  simp [inAw, inA, put_t ht, blk_I h hl, hne]
theorem elt_I (h : y.2[t]? = some (ty, n)) (hl : ty ≠ .long) (ht : t + 1 ≤ j) : elt (put y j H p s) (p + (t + 1)) i = .int (sA s (t + 1) i.toNatClampNeg) := by
  simp only [elt, put_t ht, blk_I h hl]
theorem elt_J (h : y.2[t]? = some (.long, n)) (ht : t + 1 ≤ j) : elt (put y j H p s) (p + (t + 1)) i = .long (sB s (t + 1) i.toNatClampNeg) := by
  simp only [elt, put_t ht, blk_J h]
theorem alen_t (h : y.2[t]? = some (ty, n)) (ht : t + 1 ≤ j) : alen (put y j H p s) (p + (t + 1)) = n := by
  by_cases hl : ty = .long
  · subst hl; simp only [alen, put_t ht, blk_J h]
  · simp only [alen, put_t ht, blk_I h hl]
theorem put_wr {s' : St} {t q : Nat} {v : Value} (ht : t ≤ j) (hb : ∀ t', blk y j p s' t' = if t' = t then ((blk y j p s t).1, (blk y j p s t).2.1, (blk y j p s t).2.2.1, fun i => if i = q then v else (blk y j p s t).2.2.2 i) else blk y j p s t') :
    wr (put y j H p s) (p + t) q v = put y j H p s' := by
  refine Prod.ext rfl (funext fun a => ?_)
  simp only [wr, put_t ht]
  by_cases e : a = p + t
  · subst e; simp [put, ht, hb]
  · simp only [e, if_false, put]
    by_cases g : p ≤ a ∧ a ≤ p + j
    · have : a - p ≠ t := by omega
      simp [g, hb, this]
    · simp [g]
theorem fvl_uI {v : Int32} (h : y.1[k]? = some (ty, t)) (hl : ty ≠ .long) (ha : ∀ e, ty ≠ .array e) (i : Nat) : fvl y j p (uI s k v) i = if i = k then .int v else fvl y j p s i := by
  by_cases e : i = k
  · subst e; simp only [fvl, h, if_true]; cases ty <;> first | (simp [sI_uI]; done) | exact absurd rfl hl | exact absurd rfl (ha _)
  · simp only [fvl, e, if_false, sI_uI, sJ_uI]
theorem fvl_uJ {v : Int64} (h : y.1[k]? = some (.long, t)) (i : Nat) : fvl y j p (uJ s k v) i = if i = k then .long v else fvl y j p s i := by
  by_cases e : i = k
  · subst e; simp only [fvl, h, if_true, sJ_uJ]
  · simp only [fvl, e, if_false, sI_uJ, sJ_uJ]
theorem wr_I {v : Int32} (h : y.1[k]? = some (ty, t)) (hl : ty ≠ .long) (ha : ∀ e, ty ≠ .array e) : wr (put y j H p s) p k (.int v) = put y j H p (uI s k v) := by
  refine put_wr (t := 0) (Nat.zero_le _) fun t' => ?_
  cases t' with
  | zero => simp only [blk, if_true]; exact congrArg (fun f => (_, _, _, f)) (funext fun i => fvl_uI h hl ha i)
  | succ t' => simp [blk, sA_uI, sB_uI]
theorem wr_J {v : Int64} (h : y.1[k]? = some (.long, t)) : wr (put y j H p s) p k (.long v) = put y j H p (uJ s k v) := by
  refine put_wr (t := 0) (Nat.zero_le _) fun t' => ?_
  cases t' with
  | zero => simp only [blk, if_true]; exact congrArg (fun f => (_, _, _, f)) (funext fun i => fvl_uJ h i)
  | succ t' => simp [blk, sA_uJ, sB_uJ]
theorem wr_A {v : Int32} {q : Nat} (h : y.2[t]? = some (ty, n)) (hl : ty ≠ .long) (ht : t + 1 ≤ j) : wr (put y j H p s) (p + (t + 1)) q (.int v) = put y j H p (uA s (t + 1) q v) := by
  refine put_wr ht fun t' => ?_
  by_cases e : t' = t + 1
  · subst e
    simp only [blk_I h hl, if_true, sA_uA, true_and]
    exact congrArg (fun f => (_, _, _, f)) (funext fun i => by split <;> rfl)
  · simp only [e, if_false]
    cases t' with
    | zero => rfl
    | succ t' => have : ¬ t' = t := fun q => e (by rw [q]); simp [blk, sA_uA, sB_uA, this]
theorem wr_B {v : Int64} {q : Nat} (h : y.2[t]? = some (.long, n)) (ht : t + 1 ≤ j) : wr (put y j H p s) (p + (t + 1)) q (.long v) = put y j H p (uB s (t + 1) q v) := by
  refine put_wr ht fun t' => ?_
  by_cases e : t' = t + 1
  · subst e
    simp only [blk_J h, if_true, sB_uB, true_and]
    exact congrArg (fun f => (_, _, _, f)) (funext fun i => by split <;> rfl)
  · simp only [e, if_false]
    cases t' with
    | zero => rfl
    | succ t' => have : ¬ t' = t := fun q => e (by rw [q]); simp [blk, sA_uB, sB_uB, this]
theorem mkO_put {P : Prog} (hn : P.2.2.2 = y.1.length) (hf : ∀ k, defaultValue (P.2.2.1 k) = fvl y 0 H.1 z0 k) : mkO P H = put y 0 (H.1 + 1, H.2) H.1 z0 := by
  refine Prod.ext rfl (funext fun a => ?_)
  by_cases e : a = H.1
  · subst e; simp only [mkO, if_true, put_0, hn]; exact congrArg (fun f => (_, _, _, f)) (funext fun k => hf k)
  · have : ¬ (H.1 ≤ a ∧ a ≤ H.1 + 0) := by omega
    simp only [mkO, put, e, if_false, if_neg this]
theorem mkA_put {h : Nat → Cel} (h1 : y.1[k]? = some (.array ty, j + 1)) (h2 : y.2[j]? = some (ty, n)) (hu : (List.range y.1.length).all (fun k' => decide (k' = k) || ((y.1.getD k' (.int, 0)).2 != j + 1)) = true) (hz : ∀ i, sA s (j + 1) i = 0) (hz' : ∀ i, sB s (j + 1) i = 0) (hty : ty = .int ∨ ty = .long ∨ ty = .byte ∨ ty = .boolean) :
    wr (mkA ty n (put y j (p + (j + 1), h) p s)) p k (.ref (p + (j + 1))) = put y (j + 1) (p + (j + 1) + 1, h) p s := by
  refine Prod.ext rfl (funext fun a => ?_)
  have hp : ¬ p = p + (j + 1) := by omega
  have hN : (put y j (p + (j + 1), h) p s).1 = p + (j + 1) := rfl
  by_cases e : a = p
  · subst e
    simp only [wr, mkA, hN, if_true, hp, if_false, put_0]
    refine congrArg (fun f => (_, _, _, f)) (funext fun i => ?_)
    by_cases e2 : i = k
    · subst e2; simp [fvl, h1]
    · simp only [e2, if_false, fvl]
      cases hq : y.1[i]? with
      | none => rfl
      | some x =>
        obtain ⟨x1, x2⟩ := x
        cases x1 <;> try rfl
        rename_i el
        have : x2 ≠ j + 1 := fun q => by
          have hlt : i < y.1.length := (List.getElem?_eq_some_iff.mp hq).1
          have u := List.all_eq_true.mp hu i (List.mem_range.mpr hlt)
          simp [e2, hq, q] at u
        have : (x2 ≤ j + 1) = (x2 ≤ j) := propext ⟨fun _ => by omega, fun _ => by omega⟩
        simp [this]
  · simp only [wr, mkA, hN, e, if_false]
    by_cases e2 : a = p + (j + 1)
    · subst e2
      simp only [if_true, put_t (Nat.le_refl (j + 1))]
      rcases hty with rfl | rfl | rfl | rfl
      · simp only [blk, h2, hz]; rfl
      · simp only [blk, h2, hz']; rfl
      · simp only [blk, h2, hz]; rfl
      · simp only [blk, h2, hz]; rfl
    · simp only [e2, if_false, put]
      by_cases g : p ≤ a ∧ a ≤ p + j
      · have g2 : p ≤ a ∧ a ≤ p + (j + 1) := by omega
        simp only [g, g2, and_self, if_true]
        obtain ⟨t, ht⟩ : ∃ t, a - p = t + 1 := ⟨a - p - 1, by omega⟩
        rw [ht]; rfl
      · have g2 : ¬ (p ≤ a ∧ a ≤ p + (j + 1)) := by omega
        simp only [g, g2, if_false]
theorem isOw_mk {h : Nat → Cel} {c : Nat} : isOw (mkA ty n (put y j (p + (c + 1), h) p s)) p = true := by
  have : ¬ p = p + (c + 1) := by omega
  have hN : (put y j (p + (c + 1), h) p s).1 = p + (c + 1) := rfl
  simp [isOw, isO, mkA, hN, this, put_0]
theorem put_fst : (put y j H p s).1 = H.1 := by simp [put]
theorem cl_unf {P : Prog} {m : Nat} {a : List Value} {L : List Slot} {Q : Option Value → AH → Prop} (h : ent P m a = L) : Cl P m a H Q ↔ W P m 0 L [] 0 0 H Q := by unfold Cl; rw [h]
theorem put_comm {y' : Lay} {j' p' : Nat} {s' : St} (h : p + j < p' ∨ p' + j' < p) : put y j (put y' j' H p' s') p s = put y' j' (put y j H p s) p' s' := by
  refine Prod.ext rfl (funext fun a => ?_)
  simp only [put]
  by_cases g : p ≤ a ∧ a ≤ p + j
  · have g2 : ¬ (p' ≤ a ∧ a ≤ p' + j') := by omega
    simp [g, g2]
  · simp only [g, if_false]
theorem isO_ot {a : Nat} (h : a < p ∨ p + j < a) : isO (put y j H p s) a = isO H a := by simp only [isO, put_ot h]
theorem inA_ot {a : Nat} (h : a < p ∨ p + j < a) : inA (put y j H p s) a ty i = inA H a ty i := by simp only [inA, put_ot h]
theorem isA_ot {a : Nat} (h : a < p ∨ p + j < a) : isA (put y j H p s) a = isA H a := by simp only [isA, put_ot h]
theorem elt_ot {a : Nat} (h : a < p ∨ p + j < a) : elt (put y j H p s) a i = elt H a i := by simp only [elt, put_ot h]
theorem alen_ot {a : Nat} (h : a < p ∨ p + j < a) : alen (put y j H p s) a = alen H a := by simp only [alen, put_ot h]
end Put
def noc : Cel := (.char, 0, false, fun _ => .null)
def H0 (n : Nat) : AH := (n, fun _ => noc)
def H1 (n a len : Nat) (f : Nat → Int32) : AH := (n, fun b => if b = a then (.array .int, len, false, fun i => .int (f i)) else noc)
theorem isA_H1 {n a len : Nat} {f : Nat → Int32} : isA (H1 n a len f) a = true := by simp [isA, H1]
theorem alen_H1 {n a len : Nat} {f : Nat → Int32} : alen (H1 n a len f) a = len := by simp [alen, H1]
theorem inA_H1 {n a len : Nat} {f : Nat → Int32} {i : Int32} : inA (H1 n a len f) a .int i = true ↔ (0 ≤ i.toInt ∧ i.toInt < len) := by rw [← clamp_lt]; simp [inA, H1]
theorem elt_H1 {n a len : Nat} {f : Nat → Int32} {i : Int32} : elt (H1 n a len f) a i = .int (f i.toNatClampNeg) := by simp [elt, H1]
def cl (lo hi v : Int32) : Int32 := if v < lo then lo else if hi < v then hi else v
theorem cl3 {lo hi : Int32} (v : Int32) (h : ¬ hi < lo) : (v < lo ∧ ¬ hi < v) ∨ (¬ v < lo ∧ hi < v) ∨ (¬ v < lo ∧ ¬ hi < v) := by
  by_cases h1 : v < lo
  · exact Or.inl ⟨h1, fun h2 => h (by rw [Int32.lt_iff_toInt_lt] at *; omega)⟩
  · by_cases h2 : hi < v
    · exact Or.inr (Or.inl ⟨h1, h2⟩)
    · exact Or.inr (Or.inr ⟨h1, h2⟩)
section Okv
variable {x : Int32} {l : Int64} {a : Nat} {t : FieldType}
theorem okv_int : (okv .int (.int x) = true) = True := by simp [okv]
theorem okv_long : (okv .long (.long l) = true) = True := by simp [okv]
theorem okv_ref : (okv (.array t) (.ref a) = true) = True := by simp [okv]
theorem okv_bool : (okv .boolean (.int x) = true) = (x = 0 ∨ x = 1) := by simp [okv]
theorem okv_byte : (okv .byte (.int x) = true) = (x.toInt8.toInt32 = x) := by simp [okv]
end Okv
end Jvm.JX

namespace Jvm.JX
open Sem ClassFile Op Lib
section Num
theorem ia {x y : Int32} (h1 : -2147483648 ≤ x.toInt + y.toInt) (h2 : x.toInt + y.toInt ≤ 2147483647) : (x + y).toInt = x.toInt + y.toInt := by
  rw [Int32.toInt_add]; exact Int.bmod_eq_of_le (by omega) (by omega)
theorem isb {x y : Int32} (h1 : -2147483648 ≤ x.toInt - y.toInt) (h2 : x.toInt - y.toInt ≤ 2147483647) : (x - y).toInt = x.toInt - y.toInt := by
  rw [Int32.toInt_sub]; exact Int.bmod_eq_of_le (by omega) (by omega)
theorem im {x y : Int32} (h1 : -2147483648 ≤ x.toInt * y.toInt) (h2 : x.toInt * y.toInt ≤ 2147483647) : (x * y).toInt = x.toInt * y.toInt := by
  rw [Int32.toInt_mul]; exact Int.bmod_eq_of_le (by omega) (by omega)
theorem ja {x y : Int64} (h1 : -9223372036854775808 ≤ x.toInt + y.toInt) (h2 : x.toInt + y.toInt ≤ 9223372036854775807) : (x + y).toInt = x.toInt + y.toInt := by
  rw [Int64.toInt_add]; exact Int.bmod_eq_of_le (by omega) (by omega)
theorem jsb {x y : Int64} (h1 : -9223372036854775808 ≤ x.toInt - y.toInt) (h2 : x.toInt - y.toInt ≤ 9223372036854775807) : (x - y).toInt = x.toInt - y.toInt := by
  rw [Int64.toInt_sub]; exact Int.bmod_eq_of_le (by omega) (by omega)
theorem jm {x y : Int64} (h1 : -9223372036854775808 ≤ x.toInt * y.toInt) (h2 : x.toInt * y.toInt ≤ 9223372036854775807) : (x * y).toInt = x.toInt * y.toInt := by
  rw [Int64.toInt_mul]; exact Int.bmod_eq_of_le (by omega) (by omega)
theorem lt32 {x y : Int32} : x < y ↔ x.toInt < y.toInt := Int32.lt_iff_toInt_lt
theorem le32 {x y : Int32} : x ≤ y ↔ x.toInt ≤ y.toInt := Int32.le_iff_toInt_le
theorem eq32 {x y : Int32} : x = y ↔ x.toInt = y.toInt := Int32.toInt_inj.symm
theorem lt64 {x y : Int64} : x < y ↔ x.toInt < y.toInt := Int64.lt_iff_toInt_lt
theorem eq64 {x y : Int64} : x = y ↔ x.toInt = y.toInt := Int64.toInt_inj.symm
theorem rg32 (x : Int32) : -2147483648 ≤ x.toInt ∧ x.toInt ≤ 2147483647 := ⟨Int32.le_toInt x, by have := Int32.toInt_lt x; omega⟩
theorem rg64 (x : Int64) : -9223372036854775808 ≤ x.toInt ∧ x.toInt ≤ 9223372036854775807 := ⟨Int64.le_toInt x, by have := Int64.toInt_lt x; omega⟩
theorem cln {i : Int32} : i.toNatClampNeg = i.toInt.toNat := rfl
theorem idx2 {u v : Int32} {a b : Int} (c : Int32) (hc : 0 ≤ c.toInt ∧ c.toInt ≤ 1000) (hu : 0 ≤ u.toInt ∧ u.toInt < a) (hv : 0 ≤ v.toInt ∧ v.toInt < b) (ha : a ≤ 1000) (hb : b ≤ 1000) : (u * c + v).toInt = u.toInt * c.toInt + v.toInt := by
  have h1 : u.toInt * c.toInt ≤ 1000 * 1000 := Int.mul_le_mul (by omega) (by omega) (by omega) (by omega)
  have h0 : 0 ≤ u.toInt * c.toInt := Int.mul_nonneg (by omega) (by omega)
  have e : (u * c).toInt = u.toInt * c.toInt := im (by omega) (by omega)
  rw [ia (by rw [e]; omega) (by rw [e]; omega), e]
theorem cl_rg {lo hi : Int32} (v : Int32) (h : lo.toInt ≤ hi.toInt) : lo.toInt ≤ (cl lo hi v).toInt ∧ (cl lo hi v).toInt ≤ hi.toInt := by
  unfold cl
  by_cases h1 : v < lo
  · rw [if_pos h1]; omega
  · rw [if_neg h1]
    by_cases h2 : hi < v
    · rw [if_pos h2]; omega
    · rw [if_neg h2]; rw [lt32] at h1 h2; omega
end Num
section Fill
def fA (s : St) (t lo hi : Nat) (v : Int32) : St := (s.1, s.2.1, fun t' i => if t' = t ∧ lo ≤ i ∧ i < hi then v else s.2.2.1 t' i, s.2.2.2)
variable {s : St} {t lo hi k i t' : Nat} {v : Int32}
theorem sI_fA : sI (fA s t lo hi v) k = sI s k := by simp [sI, fA]
theorem sJ_fA : sJ (fA s t lo hi v) k = sJ s k := by simp [sJ, fA]
theorem sA_fA : sA (fA s t lo hi v) t' i = if t' = t ∧ lo ≤ i ∧ i < hi then v else sA s t' i := by simp [sA, fA]
theorem sB_fA : sB (fA s t lo hi v) t' i = sB s t' i := by simp [sB, fA]
theorem fA_nil (h : hi ≤ lo) : fA s t lo hi v = s := by
  refine St_ext (fun k => sI_fA) (fun k => sJ_fA) (fun t' i => ?_) (fun t' i => sB_fA)
  rw [sA_fA, if_neg (by omega)]
theorem fA_step (h : lo < hi) : fA (uA s t lo v) t (lo + 1) hi v = fA s t lo hi v := by
  refine St_ext (fun k => by simp only [sI_fA, sI_uA]) (fun k => by simp only [sJ_fA, sJ_uA]) (fun t' i => ?_) (fun t' i => by simp only [sB_fA, sB_uA])
  simp only [sA_fA, sA_uA]
  by_cases h1 : t' = t ∧ lo + 1 ≤ i ∧ i < hi
  · rw [if_pos h1, if_pos (by omega)]
  · rw [if_neg h1]
    by_cases h2 : t' = t ∧ i = lo
    · rw [if_pos h2, if_pos (by omega)]
    · rw [if_neg h2, if_neg (by omega)]
end Fill
section Cnt
def cnt (f : Nat → Bool) : Nat → Nat → Nat
  | _, 0 => 0
  | j, k + 1 => (if f j = true then 1 else 0) + cnt f (j + 1) k
theorem cnt_none {f : Nat → Bool} : ∀ (k j : Nat), (∀ i, j ≤ i → i < j + k → f i = false) → cnt f j k = 0
  | 0, _, _ => rfl
  | k + 1, j, h => by
    have h1 := h j (Nat.le_refl _) (by omega)
    simp only [cnt, h1]
    rw [cnt_none k (j + 1) fun i a b => h i (by omega) (by omega)]; rfl
theorem cnt_one {f : Nat → Bool} {x : Nat} : ∀ (k j : Nat), j ≤ x → x < j + k → f x = true → (∀ i, j ≤ i → i < j + k → i ≠ x → f i = false) → cnt f j k = 1
  | 0, j, h1, h2, _, _ => by omega
  | k + 1, j, h1, h2, hx, h => by
    simp only [cnt]
    by_cases e : j = x
    · subst e
      rw [hx, cnt_none k (j + 1) fun i a b => h i (by omega) (by omega) (by omega)]; rfl
    · rw [h j (Nat.le_refl _) (by omega) e, cnt_one k (j + 1) (by omega) (by omega) hx fun i a b c => h i (by omega) (by omega) c]; rfl
theorem cnt_le {f : Nat → Bool} : ∀ (k j : Nat), cnt f j k ≤ k
  | 0, _ => Nat.le_refl _
  | k + 1, j => by have := cnt_le (f := f) k (j + 1); simp only [cnt]; split <;> omega
theorem cnt_congr {f g : Nat → Bool} : ∀ (k j : Nat), (∀ i, j ≤ i → i < j + k → f i = g i) → cnt f j k = cnt g j k
  | 0, _, _ => rfl
  | k + 1, j, h => by simp only [cnt]; rw [h j (Nat.le_refl _) (by omega), cnt_congr k (j + 1) fun i a b => h i (by omega) (by omega)]
theorem ofNat_one_add (c : Int32) (x : Nat) : c + 1 + Int32.ofNat x = c + Int32.ofNat (1 + x) := by
  rw [Int32.ofNat_add, Int32.add_assoc]; rfl
theorem add_ofNat_zero (c : Int32) : c + Int32.ofNat 0 = c := Int32.add_zero c
end Cnt
section Ite
variable {P : Prog} {m pc : Nat} {L : List Slot} {S : List Value} {k n : Nat} {H : AH} {Q : Option Value → AH → Prop} {c : Prop} [Decidable c]
theorem W_ite {x y : Int32} : (if c then W P m pc L (.int x :: S) k n H Q else W P m pc L (.int y :: S) k n H Q) ↔ W P m pc L (.int (if c then x else y) :: S) k n H Q := by
  by_cases h : c <;> simp [h]
theorem W_iteJ {x y : Int64} : (if c then W P m pc L (.long x :: S) k n H Q else W P m pc L (.long y :: S) k n H Q) ↔ W P m pc L (.long (if c then x else y) :: S) k n H Q := by
  by_cases h : c <;> simp [h]
end Ite
end Jvm.JX

namespace Jvm.JX
open Sem ClassFile Op Lib Jvm.Stand Jvm.Free Jvm.LawKit Jvm.RoadKit
def CRel (C : String) (fn : Nat → String × String) (F : List Nat) (Z : State) (n0 : Nat) (h : Heap) (a : Nat) (c : Cel) : Prop :=
  (c.2.2.1 = true → n0 ≤ a) ∧
  match c.1 with
  | .object _ => Exa Z h a C ∧ ∀ k ∈ F, Fld Z h a C (fn k).1 (fn k).2 (c.2.2.2 k)
  | .array t => c.2.1 < 2 ^ 31 ∧ ∃ cl : Cell, Arr Z h a cl t ∧ cl.slots.size = c.2.1 ∧ ∀ i, i < c.2.1 → cl.slots[i]? = some (c.2.2.2 i)
  | _ => True
def RelH (C : String) (fn : Nat → String × String) (F : List Nat) (Z : State) (n0 : Nat) (h : Heap) (H : AH) : Prop := h.size = H.1 ∧ n0 ≤ H.1 ∧ ∀ a, CRel C fn F Z n0 h a (H.2 a)
def ilen2 : Instr → Nat → Nat
  | .tableswitch _ _ _ _, l => l
  | i, _ => ilen i
def RowOk (P : Prog) (tb : List Jvm.Cond) (C : String) (fn : Nat → String × String) (F : List Nat) (nsl : Nat) (nm : Nat → MethodName) (R : List Nat) (m : Nat) (ins : Instr) (aux : Int) : Prop :=
  match ins with
  | .getfield i => aux.toNat ∈ F ∧ Jvm.Cond.fieldLink (nm m).cls i C (fn aux.toNat).1 (fn aux.toNat).2 ∈ tb
  | .putfield i => aux.toNat ∈ F ∧ Jvm.Cond.fieldLink (nm m).cls i C (fn aux.toNat).1 (fn aux.toNat).2 ∈ tb ∧ (Jvm.Cond.lays C C (fn aux.toNat).1 (fn aux.toNat).2 ∈ tb ∨ (nm m).cls = C ∧ (nm m).name = "<init>")
  | .new i => aux.toNat = nsl ∧ Jvm.Cond.classLink (nm m).cls i C ∈ tb
  | .newarray t => Jvm.Cond.arrayClass (newarray.typeOf t) ∈ tb
  | .ldc i => Jvm.Cond.constant (nm m).cls i (Int32.ofInt aux) ∈ tb
  | .ldc2_w i => Jvm.Cond.constantLong (nm m).cls i (Int64.ofInt aux) ∈ tb
  | .invokevirtual i => aux.toNat ∈ R ∧ Jvm.Cond.methodLink (nm m).cls i (nm aux.toNat) ∈ tb
  | .invokestatic i => aux.toNat ∈ R ∧ Jvm.Cond.methodLink (nm m).cls i (nm aux.toNat) ∈ tb
  | .invokespecial i => (aux = -1 → Jvm.Cond.methodLink (nm m).cls i Lib.objectInit ∈ tb ∧ Jvm.Cond.instanceMethod Lib.objectInit ∈ tb ∧ Jvm.Cond.code Lib.objectInit ⟨#[0xb1]⟩ 1 none ∈ tb) ∧ (0 ≤ aux → aux.toNat ∈ R ∧ Jvm.Cond.methodLink (nm m).cls i (nm aux.toNat) ∈ tb)
  | _ => True
def CalOk (P : Prog) (tb : List Jvm.Cond) (C : String) (nm : Nat → MethodName) (bt : Nat → ByteArray) (m : Nat) : Prop :=
  Jvm.Cond.code (nm m) (bt m) (ml P m) (rt P m) ∈ tb ∧ Jvm.Cond.initialized (nm m).cls ∈ tb ∧ (∃ ps r, parseMethodDescriptor (nm m).desc = some ⟨ps, r⟩ ∧ ps.length + (if kd P m = 0 then 0 else 1) = na P m) ∧
  (kd P m = 0 → Jvm.Cond.static (nm m) ∈ tb) ∧
  (kd P m ≠ 0 → (nm m).cls = C ∧ Jvm.Cond.instanceMethod (nm m) ∈ tb) ∧
  (kd P m = 1 → Jvm.Cond.declares (nm m) ∈ tb ∧ Jvm.Cond.selects C (nm m) (nm m) ∈ tb) ∧
  (kd P m = 2 → Jvm.Cond.privateMethod (nm m) ∈ tb) ∧
  (kd P m = 3 → (nm m).name = "<init>" ∧ rt P m = none)
def Good (P : Prog) (tb : List Jvm.Cond) (C : String) (fn : Nat → String × String) (F : List Nat) (nsl : Nat) (nm : Nat → MethodName) (bt : Nat → ByteArray) (R : List Nat) (top : Nat) : Prop :=
  Jvm.Cond.instantiable C nsl ∈ tb ∧ Jvm.Cond.initialized C ∈ tb ∧
  (∀ k ∈ F, parseFieldDescriptor (fn k).2 = some (P.2.2.1 k) ∧ (Jvm.Cond.lays C C (fn k).1 (fn k).2 ∈ tb ∨ Jvm.Cond.laysFinal C C (fn k).1 (fn k).2 ∈ tb)) ∧
  (∀ j ∈ F, ∀ k ∈ F, (fn j).1 = (fn k).1 → j = k) ∧
  (∀ m ∈ R, plainName (nm m).cls = true ∧ ((nm m).cls ≠ "java/lang/invoke/MethodHandle" ∧ (nm m).cls ≠ "java/lang/invoke/VarHandle") ∧
    ∀ pc ins len aux, P.1 m pc = some (ins, len, aux) → decode (bt m) pc = .ok (ins, len) ∧ len = ilen2 ins len ∧ RowOk P tb C fn F nsl nm R m ins aux) ∧
  (∀ m ∈ R, m ≠ top → CalOk P tb C nm bt m) ∧
  (∀ m ∈ R, ∀ pc ins len aux, P.1 m pc = some (ins, len, aux) → aux = (top : Int) → kindOk ins (kd P top) = false)
section Rel
variable {C : String} {fn : Nat → String × String} {F : List Nat} {Z : State} {n0 : Nat} {h h' : Heap} {H : AH}
theorem RelH.obj (r : RelH C fn F Z n0 h H) {a : Nat} (ha : isO H a = true) : Exa Z h a C ∧ ∀ k ∈ F, Fld Z h a C (fn k).1 (fn k).2 (fld H a k) := by
  have q := (r.2.2 a).2
  unfold isO at ha
  cases hk : (H.2 a).1 <;> rw [hk] at ha <;> first | (cases ha; done) | (simp only [hk] at q; exact q)
theorem RelH.own (r : RelH C fn F Z n0 h H) {a : Nat} (ha : (H.2 a).2.2.1 = true) : n0 ≤ a := (r.2.2 a).1 ha
theorem RelH.arr (r : RelH C fn F Z n0 h H) {a : Nat} {t : FieldType} (ha : (H.2 a).1 = .array t) : (H.2 a).2.1 < 2 ^ 31 ∧ ∃ cl : Cell, Arr Z h a cl t ∧ cl.slots.size = (H.2 a).2.1 ∧ ∀ i, i < (H.2 a).2.1 → cl.slots[i]? = some ((H.2 a).2.2.2 i) := by
  have q := (r.2.2 a).2
  simp only [ha] at q; exact q
theorem RelH.ext (r : RelH C fn F Z n0 h H) (E : Ext h h') {c : Cel} (hs : h'.size = h.size + 1) (hc : CRel C fn F Z n0 h' h.size c) : RelH C fn F Z n0 h' (H.1 + 1, fun b => if b = H.1 then c else H.2 b) := by
  refine ⟨by rw [hs, r.1], Nat.le_succ_of_le r.2.1, fun a => ?_⟩
  by_cases e : a = H.1
  · subst e; simp only [if_true]; rw [← r.1]; exact hc
  · simp only [e, if_false]
    obtain ⟨q1, q2⟩ := r.2.2 a
    refine ⟨q1, ?_⟩
    cases hk : (H.2 a).1 <;> simp only [hk] at q2 ⊢
    · exact ⟨q2.1.ext E, fun k hk => (q2.2 k hk).ext E⟩
    · obtain ⟨q3, cl, q4, q5⟩ := q2; exact ⟨q3, cl, q4.ext E, q5⟩
end Rel
def Go (C : String) (fn : Nat → String × String) (F : List Nat) (Z : State) (n0 : Nat) (p : Program) (l : Launch) (e : Env) (R : Jvm.Room) (s : State) (mid : MethodId) (args : Array Value) (below : List Frame) (meth : Method) (c : Code) (start : State) (nl : Nat) (q : Fm) : Prop :=
  ∃ T' locs', Stand p l e R s mid args below meth c T' locs' q.2.2.2.1 q.2.2.2.2.1 ∧ RelH C fn F Z n0 T'.heap q.2.2.2.2.2 ∧ Fr n0 locs' ∧ q.2.2.2.1 ≤ R.cells ∧ q.2.2.2.2.1 ≤ R.slots ∧ q.2.1.length = nl ∧
    ∀ target, Steps p.tables e below (T'.setTop (mkF mid q.1 q.2.1.toArray q.2.2.1)) target → Steps p.tables e below start target
theorem lrem_mod (x y : Int64) : x - (x / y) * y = x % y := by
  apply Int64.toInt_inj.mp
  have h1 := Int64.le_toInt (x % y)
  have h2 := Int64.toInt_lt (x % y)
  rw [Int64.toInt_sub, Int64.toInt_mul, Int64.toInt_div, Int.bmod_mul_bmod, Int.sub_bmod_bmod, Int.mul_comm (x.toInt.tdiv y.toInt), ← Int.tmod_def, ← Int64.toInt_mod]
  exact Int.bmod_eq_of_le_mul_two (by omega) (by omega)
theorem arr_get {L : List Slot} {i : Nat} {o : Slot} (h : L[i]? = some o) : L.toArray[i]? = some o := by simpa using h
theorem arr_set (L : List Slot) (i : Nat) (o : Slot) : L.toArray.setIfInBounds i o = (L.set i o).toArray := by simp
theorem stl_ok {L L' : List Slot} {i : Nat} {v : Value} (hv : v.category = 1) (h : stl L i v = some L') : storeLocals L.toArray i v = some L'.toArray ∧ L'.length = L.length := by
  unfold stl at h
  unfold storeLocals
  cases hi : L[i]? with
  | none => rw [hi] at h; cases h
  | some o =>
    have hlt : i < L.length := (List.getElem?_eq_some_iff.mp hi).1
    rw [hi] at h
    rw [arr_get hi]
    cases o with
    | unset => cases h; simp [storeSelf, setAt, hlt, hv]
    | second =>
      simp only at h
      split at h
      · cases h; simp [storeSelf, setAt, hv, hlt, Nat.lt_of_le_of_lt (Nat.sub_le i 1) hlt]
      · cases h
    | val w =>
      simp only at h
      split at h
      · rename_i hw; cases h; simp [storeSelf, setAt, hv, hlt, hw]
      · rename_i hw
        split at h
        · rename_i h1
          have hw2 : w.category = 2 := by cases w <;> simp [Value.category] at hw ⊢
          cases h; simp [storeSelf, setAt, hv, hlt, hw2, h1]
        · cases h
theorem stL_ok {L L' : List Slot} {i : Nat} {v : Value} (hv : v.category = 2) (h : stL L i v = some L') : storeLocals L.toArray i v = some L'.toArray ∧ L'.length = L.length := by
  unfold stL at h
  unfold storeLocals
  cases hi : L[i]? with
  | none => rw [hi] at h; cases h
  | some o =>
    cases hi2 : L[i + 1]? with
    | none => rw [hi, hi2] at h; cases o <;> cases h
    | some o2 =>
      have hlt : i < L.length := (List.getElem?_eq_some_iff.mp hi).1
      have hlt2 : i + 1 < L.length := (List.getElem?_eq_some_iff.mp hi2).1
      rw [hi, hi2] at h
      rw [arr_get hi]
      have g2 : (L.set i (.val v))[i + 1]? = some o2 := by rw [List.getElem?_set_ne (by omega)]; exact hi2
      have g4 : L[i + 1] = o2 := (List.getElem?_eq_some_iff.mp hi2).2
      cases o with
      | second => cases h
      | unset =>
        simp only at h
        split at h
        · rename_i hc
          cases h
          cases o2 with
          | second => cases hc
          | unset => simp [storeSelf, setAt, hv, hlt, hlt2, g2, g4]
          | val w => simp only [cat1, beq_iff_eq] at hc; simp [storeSelf, setAt, hv, hlt, hlt2, g2, g4, hc]
        · cases h
      | val w =>
        simp only at h
        split at h
        · rename_i hw
          cases h
          have g3 : ((L.set (i + 1) .unset).set i (.val v))[i + 1]? = some .unset := by rw [List.getElem?_set_ne (by omega)]; simp [hlt2]
          simp [storeSelf, setAt, hv, hlt, hlt2, hw, g3]
          rw [List.set_comm _ _ (by omega), List.set_set, List.set_comm _ _ (by omega)]
        · rename_i hw
          have hw1 : ¬ w.category = 2 := hw
          split at h
          · rename_i hc
            cases h
            cases o2 with
            | second => cases hc
            | unset => simp [storeSelf, setAt, hv, hlt, hlt2, g2, g4, hw1]
            | val w => simp only [cat1, beq_iff_eq] at hc; simp [storeSelf, setAt, hv, hlt, hlt2, g2, g4, hw1, hc]
          · cases h
theorem jmp_ok {pc q : Nat} {o : Int} (h : jmp pc o = some q) : 0 ≤ (pc : Int) + o ∧ ((pc : Int) + o).toNat = q := by
  unfold jmp at h
  split at h
  · rename_i g; cases h; exact ⟨g, rfl⟩
  · cases h
theorem ldI_ok {L : List Slot} {i : Nat} {v : Value} (h : ldI L i = some v) : ∃ x, v = .int x ∧ L.toArray[i]? = some (.val (.int x)) := by
  unfold ldI at h
  split at h
  · rename_i x e; cases h; exact ⟨x, rfl, arr_get e⟩
  · cases h
theorem ldJ_ok {L : List Slot} {i : Nat} {v : Value} (h : ldJ L i = some v) : ∃ x, v = .long x ∧ L.toArray[i]? = some (.val (.long x)) := by
  unfold ldJ at h
  split at h
  · rename_i x e; cases h; exact ⟨x, rfl, arr_get e⟩
  · cases h
theorem ldR_ok {L : List Slot} {i : Nat} {v : Value} (h : ldR L i = some v) : ∃ x, v = .ref x ∧ L.toArray[i]? = some (.val (.ref x)) := by
  unfold ldR at h
  split at h
  · rename_i x e; cases h; exact ⟨x, rfl, arr_get e⟩
  · cases h
theorem okv_ok {t : FieldType} {v : Value} (h : okv t v = true) : narrow t v = v ∧ fits t v = true := by
  unfold okv at h
  split at h
  · exact ⟨rfl, rfl⟩
  · rename_i z
    simp only [Bool.or_eq_true, beq_iff_eq] at h
    rcases h with rfl | rfl <;> exact ⟨rfl, rfl⟩
  · rename_i z
    simp only [beq_iff_eq] at h
    have q := fits_nar_byte z
    rw [h] at q
    exact ⟨by show Value.int _ = _; rw [h], q⟩
  · exact ⟨rfl, rfl⟩
  · exact ⟨rfl, rfl⟩
  · cases h
end Jvm.JX

namespace Jvm.JX
open Sem ClassFile Op Lib Jvm.Stand Jvm.Free Jvm.LawKit Jvm.RoadKit
section Step
variable {P : Prog} {tb : List Jvm.Cond} {C : String} {fn : Nat → String × String} {F : List Nat} {nsl : Nat} {nm : Nat → MethodName} {bt : Nat → ByteArray} {R : List Nat} {top : Nat}
variable {l : Launch} {Z : State} {a0 : Array Value} {n0 : Nat} {m pc len k n : Nat} {aux : Int} {L : List Slot} {S : List Value} {H : AH} {ins : Instr} {q : Fm}
variable {p : Program} {e : Env} {s : State} {mid : MethodId} {args : Array Value} {below : List Frame} {meth : Method} {c : Code} {T : State} {locs : List Loc} {Rm : Jvm.Room}
theorem go_same {start : State} {nl pc' : Nat} {L' : List Slot} {S' : List Value} (X : Stand p l e Rm s mid args below meth c T locs k n) (r : RelH C fn F Z n0 T.heap H) (N : Fr n0 locs) (hk : k ≤ Rm.cells) (hn : n ≤ Rm.slots) (hL : L'.length = nl)
    (st : ∀ target, Steps p.tables e below (T.setTop (mkF mid pc' L'.toArray S')) target → Steps p.tables e below start target) : Go C fn F Z n0 p l e Rm s mid args below meth c start nl (pc', L', S', k, n, H) := ⟨T, locs, X, r, N, hk, hn, hL, st⟩
theorem go_heap {start : State} {nl pc' : Nat} {L' : List Slot} {S' : List Value} {T' : State} (X : Stand p l e Rm s mid args below meth c T' locs k n) (r : RelH C fn F Z n0 T.heap H) (hh : T'.heap = T.heap) (N : Fr n0 locs) (hk : k ≤ Rm.cells) (hn : n ≤ Rm.slots) (hL : L'.length = nl)
    (st : ∀ target, Steps p.tables e below (T'.setTop (mkF mid pc' L'.toArray S')) target → Steps p.tables e below start target) : Go C fn F Z n0 p l e Rm s mid args below meth c start nl (pc', L', S', k, n, H) := ⟨T', locs, X, by rw [hh]; exact r, N, hk, hn, hL, st⟩
theorem idx_not {i : Int32} {n : Nat} (h1 : ¬ i < 0) (h2 : i.toNatClampNeg < n) : ¬ (i < 0 ∨ n ≤ i.toNatClampNeg) := fun h => h.elim h1 (Nat.not_le.mpr h2)
theorem inA_ok {a : Nat} {t : FieldType} {i : Int32} (h : inA H a t i = true) : (H.2 a).1 = .array t ∧ ¬ i < 0 ∧ i.toNatClampNeg < (H.2 a).2.1 := by
  simpa [inA, and_assoc] using h
theorem inAw_ok {a : Nat} {t : FieldType} {i : Int32} (h : inAw H a t i = true) : inA H a t i = true ∧ (H.2 a).2.2.1 = true := by
  simpa [inAw] using h
theorem isOw_ok {a : Nat} (h : isOw H a = true) : isO H a = true ∧ (H.2 a).2.2.1 = true := by simpa [isOw] using h
theorem RelH.wrF {h h' : Heap} {a j : Nat} {v : Value} (hG : Good P tb C fn F nsl nm bt R top) (hw : ∀ d ∈ tb, d.before a0 Z = true) (r : RelH C fn F Z n0 h H) (ha : isO H a = true) (hj : j ∈ F) (Wt : Wr h h' a (Jvm.RoadKit.slotOf Z C (fn j).1 (fn j).2) v) : RelH C fn F Z n0 h' (wr H a j v) := by
  refine ⟨by rw [Wt.size]; exact r.1, r.2.1, fun b => ?_⟩
  by_cases e : b = a
  · subst e
    obtain ⟨q1, q2⟩ := r.2.2 b
    obtain ⟨E, Fs⟩ := r.obj ha
    simp only [wr, if_true]
    refine ⟨q1, ?_⟩
    unfold isO at ha
    cases hk : (H.2 b).1 <;> rw [hk] at ha <;> try (cases ha; done)
    simp only
    refine ⟨E.wr Wt, fun i hi => ?_⟩
    by_cases e2 : i = j
    · subst e2; simp only [if_true]; exact (Fs i hi).same Wt
    · simp only [e2, if_false]
      refine (Fs i hi).other Wt (Or.inr ?_)
      have lw : ∀ k ∈ F, Laid Z a0 C C (fn k).1 (fn k).2 := fun k hk => ((hG.2.2.1 k hk).2).imp (hw _) (hw _)
      exact slot_ne (lw i hi) (lw j hj) (fun q => e2 (hG.2.2.2.1 i hi j hj q)) (hG.2.2.1 i hi).1 (hG.2.2.1 j hj).1
  · simp only [wr, e, if_false]
    obtain ⟨q1, q2⟩ := r.2.2 b
    refine ⟨q1, ?_⟩
    cases hk : (H.2 b).1 <;> simp only [hk] at q2 ⊢
    · exact ⟨q2.1.wr Wt, fun k hk => (q2.2 k hk).other Wt (Or.inl e)⟩
    · obtain ⟨q3, cl, q4, q5⟩ := q2; exact ⟨q3, cl, q4.other Wt e, q5⟩
theorem RelH.wrA {h h' : Heap} {a j : Nat} {t : FieldType} {v : Value} (r : RelH C fn F Z n0 h H) (ha : (H.2 a).1 = .array t) (hj : j < (H.2 a).2.1) (Wt : Wr h h' a j v) : RelH C fn F Z n0 h' (wr H a j v) := by
  refine ⟨by rw [Wt.size]; exact r.1, r.2.1, fun b => ?_⟩
  by_cases e : b = a
  · subst e
    obtain ⟨q1, q2⟩ := r.2.2 b
    obtain ⟨g1, cl, g2, g3, g4⟩ := r.arr ha
    simp only [wr, if_true]
    refine ⟨q1, ?_⟩
    simp only [ha]
    refine ⟨g1, cl.setSlot j v, g2.same Wt, by rw [sz_set]; exact g3, fun i hi => ?_⟩
    by_cases e2 : i = j
    · subst e2; simp [Cell.setSlot, g3, hj]
    · simp only [e2, if_false]; rw [← g4 i hi]; exact Array.getElem?_setIfInBounds_ne (Ne.symm e2)
  · simp only [wr, e, if_false]
    obtain ⟨q1, q2⟩ := r.2.2 b
    refine ⟨q1, ?_⟩
    cases hk : (H.2 b).1 <;> simp only [hk] at q2 ⊢
    · exact ⟨q2.1.wr Wt, fun k hk => (q2.2 k hk).other Wt (Or.inl e)⟩
    · obtain ⟨q3, cl, q4, q5⟩ := q2; exact ⟨q3, cl, q4.other Wt e, q5⟩
theorem ext_push (h : Heap) (x : Cell) : Ext h (h.push x) := ⟨by simp, fun a c q => by rw [Array.getElem?_push_lt (Array.getElem?_eq_some_iff.mp q).1]; exact (Array.getElem?_eq_getElem _).symm.trans q⟩
theorem made_obj {h : Heap} {cC : ClassId} {kC : Class} (hZ : Z.Warmed39 s.vm) (h1 : s.vm.findClass C = some cC) (h2 : s.vm.classes[cC]? = some kC) :
    Exa Z (h.push { cls := cC, slots := kC.instanceTypes.map defaultValue, vm := .none }) h.size C ∧ ∀ {nm d : String} {ty : FieldType}, Laid Z a0 C C nm d → parseFieldDescriptor d = some ty → Fld Z (h.push { cls := cC, slots := kC.instanceTypes.map defaultValue, vm := .none }) h.size C nm d (defaultValue ty) := by
  rw [hZ.alike.findClass] at h1
  obtain ⟨kZ, z1, -⟩ := Vm.findClass_spec h1
  obtain ⟨k', z2, z3⟩ := hZ.alike.2.2 _ _ z1
  cases h2.symm.trans z2
  have ei : kC.instanceTypes = kZ.instanceTypes := by rw [z3]
  have hN : ∀ x : Cell, (h.push x)[h.size]? = some x := fun x => by simp
  refine ⟨⟨_, kZ, hN _, h1, z1, rfl, fun _ => by simp [ei]⟩, fun {nm d ty} lw ht => ?_⟩
  obtain ⟨c1, k1, cf, kf, i, f, a1, a2, a3, a4, a5, a6, -⟩ := lw.spec
  cases h1.symm.trans a1
  cases z1.symm.trans a2
  exact ⟨_, cf, kf, i, f, hN _, a3, a4, by simp, rfl, a5, by simp [ei, a6, (State.fieldFound?_type a3 ht).2]⟩
theorem made_arr {h : Heap} {t : FieldType} {cA comp : ClassId} {kA : Class} {xs : Array Value} (hZ : Z.Warmed39 s.vm) (h1 : s.vm.findClass ("[" ++ t.toString) = some cA) (h2 : s.vm.classes[cA]? = some kA) (h3 : kA.kind = .array comp t) : Arr Z (h.push { cls := cA, slots := xs, vm := .none }) h.size { cls := cA, slots := xs, vm := .none } t := by
  rw [hZ.alike.findClass] at h1
  obtain ⟨kZ, z1, -⟩ := Vm.findClass_spec h1
  obtain ⟨k', z2, z3⟩ := hZ.alike.2.2 _ _ z1
  cases h2.symm.trans z2
  exact ⟨by simp, ⟨by simp, kZ, z1, comp, by rw [← h3, z3]⟩, by simp⟩
set_option maxHeartbeats 4000000 in
theorem stp_go (hG : Good P tb C fn F nsl nm bt R top) (hw : ∀ d ∈ tb, d.before a0 Z = true) (hm : m ∈ R) (hrow : P.1 m pc = some (ins, len, aux)) (h : stp P m ins len aux pc L S k n H = some q) (X : Stand p l e (rm P m) s mid args below meth c T locs k n) (hx : p.tables.exec = Jvm.exec) (hZ : Z.Warmed39 s.vm)
    (hby : c.code = bt m) (hml : c.maxLocals = ml P m) (hown : s.vm.findClass (nm m).cls = some mid.cls) (hnm : meth.name = (nm m).name) (hL : L.length = ml P m) (r : RelH C fn F Z n0 T.heap H) (N : Fr n0 locs) (hk : k ≤ (rm P m).cells) (hn : n ≤ (rm P m).slots) :
    Go C fn F Z n0 p l e (rm P m) s mid args below meth c (T.setTop (mkF mid pc L.toArray S)) (ml P m) q := by
  obtain ⟨hd, hl, ho⟩ := (hG.2.2.2.2.1 m hm).2.2 pc ins len aux hrow
  replace hd := hb hby hd
  cases ins with
  | iconst i =>
    have hl : len = 1 := hl; subst hl
    obtain rfl := Option.some.inj h
    exact go_same X r N hk hn hL fun t g => XS.iconst X.here hx rfl hd g
  | bipush i =>
    have hl : len = 2 := hl; subst hl
    obtain rfl := Option.some.inj h
    exact go_same X r N hk hn hL fun t g => XS.bipush X.here hx rfl hd g
  | sipush i =>
    have hl : len = 3 := hl; subst hl
    obtain rfl := Option.some.inj h
    exact go_same X r N hk hn hL fun t g => XS.sipush X.here hx rfl hd g
  | lconst i =>
    have hl : len = 1 := hl; subst hl
    obtain rfl := Option.some.inj h
    exact go_same X r N hk hn hL fun t g => XT.lconst X.here hx rfl hd g
  | ldc i =>
    have hl : len = 2 := hl; subst hl
    obtain rfl := Option.some.inj h
    exact go_same X r N hk hn hL fun t g => X.ldcI hx hown (mv hZ (hw _ ho)) rfl hd g
  | ldc2_w i =>
    have hl : len = 3 := hl; subst hl
    obtain rfl := Option.some.inj h
    exact go_same X r N hk hn hL fun t g => X.ldc2J hx hown (mv hZ (hw _ ho)) rfl hd g
  | iload i =>
    have hl : len = 2 := hl; subst hl
    obtain ⟨v, hv, rfl⟩ := Option.map_eq_some_iff.mp h
    obtain ⟨x, rfl, hg⟩ := ldI_ok hv
    exact go_same X r N hk hn hL fun t g => XS.iload X.here hx rfl hd hg g
  | iload_n i =>
    have hl : len = 1 := hl; subst hl
    obtain ⟨v, hv, rfl⟩ := Option.map_eq_some_iff.mp h
    obtain ⟨x, rfl, hg⟩ := ldI_ok hv
    exact go_same X r N hk hn hL fun t g => XS.iloadN X.here hx rfl hd hg g
  | lload i =>
    have hl : len = 2 := hl; subst hl
    obtain ⟨v, hv, rfl⟩ := Option.map_eq_some_iff.mp h
    obtain ⟨x, rfl, hg⟩ := ldJ_ok hv
    exact go_same X r N hk hn hL fun t g => XT.lload X.here hx rfl hd hg g
  | lload_n i =>
    have hl : len = 1 := hl; subst hl
    obtain ⟨v, hv, rfl⟩ := Option.map_eq_some_iff.mp h
    obtain ⟨x, rfl, hg⟩ := ldJ_ok hv
    exact go_same X r N hk hn hL fun t g => XT.lloadN X.here hx rfl hd hg g
  | aload i =>
    have hl : len = 2 := hl; subst hl
    obtain ⟨v, hv, rfl⟩ := Option.map_eq_some_iff.mp h
    obtain ⟨x, rfl, hg⟩ := ldR_ok hv
    exact go_same X r N hk hn hL fun t g => XS.aload X.here hx rfl hd hg rfl g
  | aload_n i =>
    have hl : len = 1 := hl; subst hl
    obtain ⟨v, hv, rfl⟩ := Option.map_eq_some_iff.mp h
    obtain ⟨x, rfl, hg⟩ := ldR_ok hv
    exact go_same X r N hk hn hL fun t g => XS.aloadN X.here hx rfl hd hg rfl g
  | istore i =>
    have hl : len = 2 := hl; subst hl
    dsimp only [stp] at h
    split at h
    · rename_i x S'
      obtain ⟨L', hv, rfl⟩ := Option.map_eq_some_iff.mp h
      obtain ⟨g1, g2⟩ := stl_ok rfl hv
      exact go_same X r N hk hn (g2.trans hL) fun t g => XS.istore X.here hx rfl hd rfl g1 g
    · cases h
  | istore_n i =>
    have hl : len = 1 := hl; subst hl
    dsimp only [stp] at h
    split at h
    · rename_i x S'
      obtain ⟨L', hv, rfl⟩ := Option.map_eq_some_iff.mp h
      obtain ⟨g1, g2⟩ := stl_ok rfl hv
      exact go_same X r N hk hn (g2.trans hL) fun t g => XS.istoreN X.here hx rfl hd rfl g1 g
    · cases h
  | astore i =>
    have hl : len = 2 := hl; subst hl
    dsimp only [stp] at h
    split at h
    · rename_i x S'
      obtain ⟨L', hv, rfl⟩ := Option.map_eq_some_iff.mp h
      obtain ⟨g1, g2⟩ := stl_ok rfl hv
      exact go_same X r N hk hn (g2.trans hL) fun t g => XS.astore X.here hx rfl hd rfl rfl g1 g
    · cases h
  | astore_n i =>
    have hl : len = 1 := hl; subst hl
    dsimp only [stp] at h
    split at h
    · rename_i x S'
      obtain ⟨L', hv, rfl⟩ := Option.map_eq_some_iff.mp h
      obtain ⟨g1, g2⟩ := stl_ok rfl hv
      exact go_same X r N hk hn (g2.trans hL) fun t g => XS.astoreN X.here hx rfl hd rfl rfl g1 g
    · cases h
  | lstore i =>
    have hl : len = 2 := hl; subst hl
    dsimp only [stp] at h
    split at h
    · rename_i x S'
      obtain ⟨L', hv, rfl⟩ := Option.map_eq_some_iff.mp h
      obtain ⟨g1, g2⟩ := stL_ok rfl hv
      exact go_same X r N hk hn (g2.trans hL) fun t g => XT.lstore X.here hx rfl hd rfl g1 g
    · cases h
  | lstore_n i =>
    have hl : len = 1 := hl; subst hl
    dsimp only [stp] at h
    split at h
    · rename_i x S'
      obtain ⟨L', hv, rfl⟩ := Option.map_eq_some_iff.mp h
      obtain ⟨g1, g2⟩ := stL_ok rfl hv
      exact go_same X r N hk hn (g2.trans hL) fun t g => XT.lstoreN X.here hx rfl hd rfl g1 g
    · cases h
  | iinc i cst =>
    have hl : len = 3 := hl; subst hl
    dsimp only [stp] at h
    split at h
    · rename_i x hx1
      obtain rfl := Option.some.inj h
      have g1 : storeLocals L.toArray i (.int (x + Int32.ofInt cst)) = some (L.set i (.val (.int (x + Int32.ofInt cst)))).toArray := (stl_ok rfl (stl_plain hx1 rfl)).1
      exact go_same X r N hk hn (by simpa using hL) fun t g => XS.iinc X.here hx rfl hd (arr_get hx1) g1 g
    · cases h
  | iadd =>
    have hl : len = 1 := hl; subst hl
    dsimp only [stp] at h
    split at h
    · rename_i y x S'
      obtain rfl := Option.some.inj h
      exact go_same X r N hk hn hL fun t g => XS.iadd X.here hx rfl hd rfl g
    · cases h
  | isub =>
    have hl : len = 1 := hl; subst hl
    dsimp only [stp] at h
    split at h
    · rename_i y x S'
      obtain rfl := Option.some.inj h
      exact go_same X r N hk hn hL fun t g => XS.isub X.here hx rfl hd rfl g
    · cases h
  | imul =>
    have hl : len = 1 := hl; subst hl
    dsimp only [stp] at h
    split at h
    · rename_i y x S'
      obtain rfl := Option.some.inj h
      exact go_same X r N hk hn hL fun t g => XS.imul X.here hx rfl hd rfl g
    · cases h
  | iand =>
    have hl : len = 1 := hl; subst hl
    dsimp only [stp] at h
    split at h
    · rename_i y x S'
      obtain rfl := Option.some.inj h
      exact go_same X r N hk hn hL fun t g => XS.iand X.here hx rfl hd rfl g
    · cases h
  | ior =>
    have hl : len = 1 := hl; subst hl
    dsimp only [stp] at h
    split at h
    · rename_i y x S'
      obtain rfl := Option.some.inj h
      exact go_same X r N hk hn hL fun t g => XT.ior X.here hx rfl hd rfl g
    · cases h
  | ixor =>
    have hl : len = 1 := hl; subst hl
    dsimp only [stp] at h
    split at h
    · rename_i y x S'
      obtain rfl := Option.some.inj h
      exact go_same X r N hk hn hL fun t g => XT.ixor X.here hx rfl hd rfl g
    · cases h
  | ishl =>
    have hl : len = 1 := hl; subst hl
    dsimp only [stp] at h
    split at h
    · rename_i y x S'
      obtain rfl := Option.some.inj h
      exact go_same X r N hk hn hL fun t g => XT.ishl X.here hx rfl hd rfl g
    · cases h
  | ishr =>
    have hl : len = 1 := hl; subst hl
    dsimp only [stp] at h
    split at h
    · rename_i y x S'
      obtain rfl := Option.some.inj h
      exact go_same X r N hk hn hL fun t g => XT.ishr X.here hx rfl hd rfl g
    · cases h
  | iushr =>
    have hl : len = 1 := hl; subst hl
    dsimp only [stp] at h
    split at h
    · rename_i y x S'
      obtain rfl := Option.some.inj h
      exact go_same X r N hk hn hL fun t g => XT.iushr X.here hx rfl hd rfl g
    · cases h
  | ladd =>
    have hl : len = 1 := hl; subst hl
    dsimp only [stp] at h
    split at h
    · rename_i y x S'
      obtain rfl := Option.some.inj h
      exact go_same X r N hk hn hL fun t g => XT.ladd X.here hx rfl hd rfl g
    · cases h
  | lsub =>
    have hl : len = 1 := hl; subst hl
    dsimp only [stp] at h
    split at h
    · rename_i y x S'
      obtain rfl := Option.some.inj h
      exact go_same X r N hk hn hL fun t g => XT.lsub X.here hx rfl hd rfl g
    · cases h
  | lmul =>
    have hl : len = 1 := hl; subst hl
    dsimp only [stp] at h
    split at h
    · rename_i y x S'
      obtain rfl := Option.some.inj h
      exact go_same X r N hk hn hL fun t g => XT.lmul X.here hx rfl hd rfl g
    · cases h
  | land =>
    have hl : len = 1 := hl; subst hl
    dsimp only [stp] at h
    split at h
    · rename_i y x S'
      obtain rfl := Option.some.inj h
      exact go_same X r N hk hn hL fun t g => XT.land X.here hx rfl hd rfl g
    · cases h
  | lor =>
    have hl : len = 1 := hl; subst hl
    dsimp only [stp] at h
    split at h
    · rename_i y x S'
      obtain rfl := Option.some.inj h
      exact go_same X r N hk hn hL fun t g => XT.lor X.here hx rfl hd rfl g
    · cases h
  | lxor =>
    have hl : len = 1 := hl; subst hl
    dsimp only [stp] at h
    split at h
    · rename_i y x S'
      obtain rfl := Option.some.inj h
      exact go_same X r N hk hn hL fun t g => XT.lxor X.here hx rfl hd rfl g
    · cases h
  | lshl =>
    have hl : len = 1 := hl; subst hl
    dsimp only [stp] at h
    split at h
    · rename_i y x S'
      obtain rfl := Option.some.inj h
      exact go_same X r N hk hn hL fun t g => XT.lshl X.here hx rfl hd rfl g
    · cases h
  | lshr =>
    have hl : len = 1 := hl; subst hl
    dsimp only [stp] at h
    split at h
    · rename_i y x S'
      obtain rfl := Option.some.inj h
      exact go_same X r N hk hn hL fun t g => XT.lshr X.here hx rfl hd rfl g
    · cases h
  | lushr =>
    have hl : len = 1 := hl; subst hl
    dsimp only [stp] at h
    split at h
    · rename_i y x S'
      obtain rfl := Option.some.inj h
      exact go_same X r N hk hn hL fun t g => XT.lushr X.here hx rfl hd rfl g
    · cases h
  | idiv =>
    have hl : len = 1 := hl; subst hl
    dsimp only [stp] at h
    split at h
    · rename_i y x S'
      split at h
      · cases h
      · rename_i g0
        obtain rfl := Option.some.inj h
        exact go_same X r N hk hn hL fun t g => XS.idiv X.here hx rfl hd rfl g0 g
    · cases h
  | irem =>
    have hl : len = 1 := hl; subst hl
    dsimp only [stp] at h
    split at h
    · rename_i y x S'
      split at h
      · cases h
      · rename_i g0
        obtain rfl := Option.some.inj h
        exact go_same X r N hk hn hL fun t g => iremM X hx rfl hd rfl g0 g
    · cases h
  | ldiv =>
    have hl : len = 1 := hl; subst hl
    dsimp only [stp] at h
    split at h
    · rename_i y x S'
      split at h
      · cases h
      · rename_i g0
        obtain rfl := Option.some.inj h
        exact go_same X r N hk hn hL fun t g => XT.ldiv X.here hx rfl hd rfl g0 g
    · cases h
  | lrem =>
    have hl : len = 1 := hl; subst hl
    dsimp only [stp] at h
    split at h
    · rename_i y x S'
      split at h
      · cases h
      · rename_i g0
        obtain rfl := Option.some.inj h
        exact go_same X r N hk hn hL fun t g => XT.lrem X.here hx rfl hd rfl g0 (by rw [lrem_mod]; exact g)
    · cases h
  | ineg =>
    have hl : len = 1 := hl; subst hl
    dsimp only [stp] at h
    split at h
    · rename_i x S'
      obtain rfl := Option.some.inj h
      exact go_same X r N hk hn hL fun t g => XS.ineg X.here hx rfl hd rfl g
    · cases h
  | lneg =>
    have hl : len = 1 := hl; subst hl
    dsimp only [stp] at h
    split at h
    · rename_i x S'
      obtain rfl := Option.some.inj h
      exact go_same X r N hk hn hL fun t g => XT.lneg X.here hx rfl hd rfl g
    · cases h
  | i2l =>
    have hl : len = 1 := hl; subst hl
    dsimp only [stp] at h
    split at h
    · rename_i x S'
      obtain rfl := Option.some.inj h
      exact go_same X r N hk hn hL fun t g => XT.i2l X.here hx rfl hd rfl g
    · cases h
  | l2i =>
    have hl : len = 1 := hl; subst hl
    dsimp only [stp] at h
    split at h
    · rename_i x S'
      obtain rfl := Option.some.inj h
      exact go_same X r N hk hn hL fun t g => XT.l2i X.here hx rfl hd rfl g
    · cases h
  | i2b =>
    have hl : len = 1 := hl; subst hl
    dsimp only [stp] at h
    split at h
    · rename_i x S'
      obtain rfl := Option.some.inj h
      exact go_same X r N hk hn hL fun t g => XT.i2b X.here hx rfl hd rfl g
    · cases h
  | lcmp =>
    have hl : len = 1 := hl; subst hl
    dsimp only [stp] at h
    split at h
    · rename_i y x S'
      obtain rfl := Option.some.inj h
      exact go_same X r N hk hn hL fun t g => XT.lcmp X.here hx rfl hd rfl g
    · cases h
  | dup =>
    have hl : len = 1 := hl; subst hl
    dsimp only [stp] at h
    split at h
    · rename_i v S'
      split at h
      · rename_i g0
        obtain rfl := Option.some.inj h
        exact go_same X r N hk hn hL fun t g => XS.dup X.here hx rfl hd rfl g0 g
      · cases h
    · cases h
  | pop =>
    have hl : len = 1 := hl; subst hl
    dsimp only [stp] at h
    split at h
    · rename_i v S'
      split at h
      · rename_i g0
        obtain rfl := Option.some.inj h
        exact go_same X r N hk hn hL fun t g => XT.pop X.here hx rfl hd rfl g0 g
      · cases h
    · cases h
  | dup2 =>
    have hl : len = 1 := hl; subst hl
    dsimp only [stp] at h
    split at h
    · rename_i x S'
      obtain rfl := Option.some.inj h
      exact go_same X r N hk hn hL fun t g => XT.dup2L X.here hx rfl hd rfl g
    · rename_i v w S' _
      split at h
      · rename_i g0
        obtain rfl := Option.some.inj h
        exact go_same X r N hk hn hL fun t g => XT.dup2 X.here hx rfl hd rfl g0.1 g0.2 g
      · cases h
    · cases h
  | goto o =>
    have hl : len = 3 := hl; subst hl
    obtain ⟨v, hv, rfl⟩ := Option.map_eq_some_iff.mp h
    obtain ⟨g1, g2⟩ := jmp_ok hv
    exact go_same X r N hk hn hL fun t g => XS.goto X.here hx rfl rfl hd g1 g2 g
  | ifCond cd o =>
    have hl : len = 3 := hl; subst hl
    dsimp only [stp] at h
    split at h
    · rename_i x S'
      split at h
      · rename_i g0
        obtain ⟨v, hv, rfl⟩ := Option.map_eq_some_iff.mp h
        obtain ⟨g1, g2⟩ := jmp_ok hv
        exact go_same X r N hk hn hL fun t g => XS.ifYes X.here hx rfl rfl hd rfl g0 g1 g2 g
      · rename_i g0
        obtain rfl := Option.some.inj h
        exact go_same X r N hk hn hL fun t g => XS.ifNo X.here hx rfl hd rfl (by simpa using g0) g
    · cases h
  | if_icmp cd o =>
    have hl : len = 3 := hl; subst hl
    dsimp only [stp] at h
    split at h
    · rename_i y x S'
      split at h
      · rename_i g0
        obtain ⟨v, hv, rfl⟩ := Option.map_eq_some_iff.mp h
        obtain ⟨g1, g2⟩ := jmp_ok hv
        exact go_same X r N hk hn hL fun t g => XS.icmpYes X.here hx rfl rfl hd rfl g0 g1 g2 g
      · rename_i g0
        obtain rfl := Option.some.inj h
        exact go_same X r N hk hn hL fun t g => XS.icmpNo X.here hx rfl hd rfl (by simpa using g0) g
    · cases h
  | tableswitch d lo hi os =>
    dsimp only [stp] at h
    split at h
    · rename_i x S'
      split at h
      · rename_i g0
        obtain ⟨v, hv, rfl⟩ := Option.map_eq_some_iff.mp h
        obtain ⟨g1, g2⟩ := jmp_ok hv
        exact go_same X r N hk hn hL fun t g => XS.tswOut X.here hx rfl rfl hd rfl g0 g1 g2 g
      · rename_i g0
        obtain ⟨o, ho1, h⟩ := Option.bind_eq_some_iff.mp h
        obtain ⟨v, hv, rfl⟩ := Option.map_eq_some_iff.mp h
        obtain ⟨g1, g2⟩ := jmp_ok hv
        exact go_same X r N hk hn hL fun t g => XS.tswIn X.here hx rfl rfl hd rfl g0 ho1 g1 g2 g
    · cases h
  | getfield i =>
    have hl : len = 3 := hl; subst hl
    dsimp only [stp] at h
    split at h
    · rename_i a S'
      split at h
      · rename_i g0
        obtain rfl := Option.some.inj h
        obtain ⟨T1, X1, e1, st1⟩ := getF X hx hZ hown (host := "") (Or.inl (hw _ ho.2)) Via.refl rfl ((r.obj g0).2 _ ho.1) (g := mkF mid pc L.toArray (.ref a :: S')) rfl rfl hd
        exact go_heap X1 r e1 N hk hn hL fun t g => st1 t g
      · cases h
    · cases h
  | putfield i =>
    have hl : len = 3 := hl; subst hl
    dsimp only [stp] at h
    split at h
    · rename_i v a S'
      split at h
      · rename_i g0
        obtain rfl := Option.some.inj h
        obtain ⟨o1, o2, o3⟩ := ho
        obtain ⟨w1, w2⟩ := isOw_ok g0.1
        obtain ⟨n1, n2⟩ := okv_ok g0.2
        have hlay : (Jvm.Cond.lays C C (fn aux.toNat).1 (fn aux.toNat).2).before a0 Z = true ∨ ((Jvm.Cond.laysFinal C C (fn aux.toNat).1 (fn aux.toNat).2).before a0 Z = true ∧ (nm m).cls = C ∧ meth.name = "<init>") := by
          rcases o3 with q | ⟨q1, q2⟩
          · exact Or.inl (hw _ q)
          · rcases (hG.2.2.1 _ o1).2 with q | q
            · exact Or.inl (hw _ q)
            · exact Or.inr ⟨hw _ q, q1, hnm.trans q2⟩
        obtain ⟨T1, h1, X1, e1, W1, st1⟩ := putF X hx hZ hown (host := "") (Or.inl (hw _ o2)) Via.refl rfl ((r.obj w1).2 _ o1) (r.obj w1).1 hlay (hw _ hG.1) (hG.2.2.1 _ o1).1 n1 n2 (g := mkF mid pc L.toArray (v :: .ref a :: S')) rfl rfl hd
        exact ⟨T1, _, X1, by rw [e1]; exact r.wrF hG hw w1 o1 W1, Fr.snoc X1 N (r.own w2), hk, hn, hL, st1⟩
      · cases h
    · cases h
  | iaload =>
    have hl : len = 1 := hl; subst hl
    dsimp only [stp] at h
    split at h
    · rename_i i a S'
      split at h
      · rename_i g0
        obtain rfl := Option.some.inj h
        obtain ⟨w1, w2, w3⟩ := inA_ok g0
        obtain ⟨b1, cl, b2, b3, b4⟩ := r.arr w1
        exact go_same X r N hk hn hL fun t g => X.iaload hx (g := mkF mid pc L.toArray (.int i :: .ref a :: S')) b2.1 (State.isArrayOf_alike hZ.alike b2.2.1) b2.2.2 (by rw [b3]; exact idx_not w2 w3) (b4 _ w3) rfl rfl hd t g
      · cases h
    · cases h
  | laload =>
    have hl : len = 1 := hl; subst hl
    dsimp only [stp] at h
    split at h
    · rename_i i a S'
      split at h
      · rename_i g0
        obtain rfl := Option.some.inj h
        obtain ⟨w1, w2, w3⟩ := inA_ok g0
        obtain ⟨b1, cl, b2, b3, b4⟩ := r.arr w1
        exact go_same X r N hk hn hL fun t g => X.laload hx (g := mkF mid pc L.toArray (.int i :: .ref a :: S')) b2.1 (State.isArrayOf_alike hZ.alike b2.2.1) b2.2.2 (by rw [b3]; exact idx_not w2 w3) (b4 _ w3) rfl rfl hd t g
      · cases h
    · cases h
  | baload =>
    have hl : len = 1 := hl; subst hl
    dsimp only [stp] at h
    split at h
    · rename_i i a S'
      split at h
      · rename_i g0
        obtain rfl := Option.some.inj h
        rcases g0 with g0 | g0
        · obtain ⟨w1, w2, w3⟩ := inA_ok g0
          obtain ⟨b1, cl, b2, b3, b4⟩ := r.arr w1
          exact go_same X r N hk hn hL fun t g => X.baloadBytes hx (g := mkF mid pc L.toArray (.int i :: .ref a :: S')) b2.1 (State.isArrayOf_alike hZ.alike b2.2.1) b2.2.2 (by rw [b3]; exact idx_not w2 w3) (b4 _ w3) rfl rfl hd t g
        · obtain ⟨w1, w2, w3⟩ := inA_ok g0
          obtain ⟨b1, cl, b2, b3, b4⟩ := r.arr w1
          exact go_same X r N hk hn hL fun t g => X.baloadBooleans hx (g := mkF mid pc L.toArray (.int i :: .ref a :: S')) b2.1 (State.isArrayOf_alike hZ.alike b2.2.1) b2.2.2 (by rw [b3]; exact idx_not w2 w3) (b4 _ w3) rfl rfl hd t g
      · cases h
    · cases h
  | iastore =>
    have hl : len = 1 := hl; subst hl
    dsimp only [stp] at h
    split at h
    · rename_i x i a S'
      split at h
      · rename_i g0
        obtain rfl := Option.some.inj h
        obtain ⟨g1, g2⟩ := inAw_ok g0
        obtain ⟨w1, w2, w3⟩ := inA_ok g1
        obtain ⟨b1, cl, b2, b3, b4⟩ := r.arr w1
        obtain ⟨T1, h1, X1, e1, W1, st1⟩ := stI X hx hZ rfl b2 (j := i) (x := x) (by rw [b3]; exact idx_not w2 w3) (g := mkF mid pc L.toArray (.int x :: .int i :: .ref a :: S')) rfl rfl hd
        exact ⟨T1, _, X1, by rw [e1]; exact r.wrA w1 w3 W1, Fr.snoc X1 N (r.own g2), hk, hn, hL, st1⟩
      · cases h
    · cases h
  | lastore =>
    have hl : len = 1 := hl; subst hl
    dsimp only [stp] at h
    split at h
    · rename_i x i a S'
      split at h
      · rename_i g0
        obtain rfl := Option.some.inj h
        obtain ⟨g1, g2⟩ := inAw_ok g0
        obtain ⟨w1, w2, w3⟩ := inA_ok g1
        obtain ⟨b1, cl, b2, b3, b4⟩ := r.arr w1
        obtain ⟨T1, h1, X1, e1, W1, st1⟩ := stJ X hx hZ rfl b2 (j := i) (x := x) (by rw [b3]; exact idx_not w2 w3) (g := mkF mid pc L.toArray (.long x :: .int i :: .ref a :: S')) rfl rfl hd
        exact ⟨T1, _, X1, by rw [e1]; exact r.wrA w1 w3 W1, Fr.snoc X1 N (r.own g2), hk, hn, hL, st1⟩
      · cases h
    · cases h
  | bastore =>
    have hl : len = 1 := hl; subst hl
    dsimp only [stp] at h
    split at h
    · rename_i x i a S'
      split at h
      · rename_i g0
        obtain rfl := Option.some.inj h
        rcases g0 with ⟨g0, gx⟩ | ⟨g0, gx⟩
        · obtain ⟨g1, g2⟩ := inAw_ok g0
          obtain ⟨w1, w2, w3⟩ := inA_ok g1
          obtain ⟨b1, cl, b2, b3, b4⟩ := r.arr w1
          have hx2 : nar .byte x = x := Value.int.inj (okv_ok gx).1
          obtain ⟨T1, h1, X1, e1, W1, st1⟩ := stB X hx hZ rfl b2 (j := i) (x := x) (by rw [b3]; exact idx_not w2 w3) (g := mkF mid pc L.toArray (.int x :: .int i :: .ref a :: S')) rfl rfl hd
          rw [hx2] at W1
          exact ⟨T1, _, X1, by rw [e1]; exact r.wrA w1 w3 W1, Fr.snoc X1 N (r.own g2), hk, hn, hL, st1⟩
        · obtain ⟨g1, g2⟩ := inAw_ok g0
          obtain ⟨w1, w2, w3⟩ := inA_ok g1
          obtain ⟨b1, cl, b2, b3, b4⟩ := r.arr w1
          have hx2 : nar .boolean x = x := Value.int.inj (okv_ok gx).1
          obtain ⟨T1, h1, X1, e1, W1, st1⟩ := stZ X hx hZ rfl b2 (j := i) (x := x) (by rw [b3]; exact idx_not w2 w3) (g := mkF mid pc L.toArray (.int x :: .int i :: .ref a :: S')) rfl rfl hd
          rw [hx2] at W1
          exact ⟨T1, _, X1, by rw [e1]; exact r.wrA w1 w3 W1, Fr.snoc X1 N (r.own g2), hk, hn, hL, st1⟩
      · cases h
    · cases h
  | arraylength =>
    have hl : len = 1 := hl; subst hl
    dsimp only [stp] at h
    split at h
    · rename_i a S'
      split at h
      · rename_i g0
        obtain rfl := Option.some.inj h
        obtain ⟨t0, w1⟩ : ∃ t0, (H.2 a).1 = .array t0 := by unfold isA at g0; cases hq : (H.2 a).1 <;> rw [hq] at g0 <;> first | (cases g0; done) | exact ⟨_, rfl⟩
        obtain ⟨b1, cl, b2, b3, b4⟩ := r.arr w1
        refine go_same X r N hk hn hL fun t g => X.arraylength hx (g := mkF mid pc L.toArray (.ref a :: S')) b2.1 (State.isArrayOf_alike hZ.alike b2.2.1) rfl rfl hd t ?_
        rw [b3]; exact g
      · cases h
    · cases h
  | newarray t =>
    have hl : len = 2 := hl; subst hl
    dsimp only [stp] at h
    split at h
    · rename_i cnt S'
      split at h
      · rename_i g0
        obtain rfl := Option.some.inj h
        obtain ⟨z1, z2, z3, z4⟩ := g0
        have hcb : componentBytes (newarray.typeOf t) ≤ 8 := by cases t <;> decide
        obtain ⟨cA, kA, comp, h1, h2, h3, X1, st1⟩ := X.newarrayPrim hx (mvA hZ (hw _ ho)) (g := mkF mid pc L.toArray (.int cnt :: S')) rfl hd rfl z1 (Nat.le_trans (Nat.mul_le_mul_left _ hcb) z2) z3 z4
        refine ⟨_, locs, X1, ?_, N, z3, z4, hL, fun t g => st1 t (by rw [r.1]; exact g)⟩
        exact r.ext (ext_push _ _) (by show (T.heap.push _).size = _; simp) ⟨fun _ => by rw [r.1]; exact r.2.1, (back32 z1).2, _, made_arr hZ h1 h2 h3, by simp, fun i hi => by simp [hi]⟩
      · cases h
    · cases h
  | new i =>
    have hl : len = 3 := hl; subst hl
    dsimp only [stp] at h
    split at h
    · rename_i g0
      obtain rfl := Option.some.inj h
      obtain ⟨z1, z2, z3⟩ := g0
      rw [ho.1] at z3 ⊢
      obtain ⟨vm1, cC, kC, h1, h2, h3, h4, X1, st1⟩ := X.newCold hx hown (mv hZ (hw _ ho.2)) (mv hZ (hw _ hG.1)) (mv hZ (hw _ hG.2.1)) (g := mkF mid pc L.toArray S) rfl hd z2 z3
      obtain ⟨A1, D1⟩ := made_obj (h := T.heap) (a0 := a0) hZ h1 h2
      refine ⟨_, locs, X1, ?_, N, z2, z3, hL, fun t g => st1 t (by rw [r.1]; exact g)⟩
      exact r.ext (ext_push _ _) (by show (T.heap.push _).size = _; simp) ⟨fun _ => by rw [r.1]; exact r.2.1, A1, fun j hj => D1 (((hG.2.2.1 j hj).2).imp (hw _) (hw _)) (hG.2.2.1 j hj).1⟩
    · cases h
  | invokespecial i =>
    have hl : len = 3 := hl; subst hl
    dsimp only [stp] at h
    split at h
    · rename_i a S'
      split at h
      · rename_i g0
        obtain rfl := Option.some.inj h
        obtain ⟨rfl, z2, z3⟩ := g0
        obtain ⟨o1, o2, o3⟩ := ho.1 rfl
        obtain ⟨T1, X1, e1, st1⟩ := initO X hx hZ hown (hw _ o1) (hw _ o2) (hw _ o3) rfl (g := mkF mid pc L.toArray (.ref a :: S')) rfl (by rw [hml, ← hL]; simp) rfl hd z2 (W := cs S') (by show 2 * 0 + _ ≤ _; exact Nat.le_of_eq (Nat.zero_add _)) z3
        exact go_heap X1 r e1 N hk hn hL fun t g => st1 t g
      · cases h
    · cases h
  | _ => exact absurd (show (none : Option Fm) = some q from h) (by simp)
end Step
end Jvm.JX

namespace Jvm.JX
open Sem ClassFile Op Lib Jvm.Stand Jvm.Free Jvm.LawKit Jvm.RoadKit
section Sound
variable {P : Prog} {tb : List Jvm.Cond} {C : String} {fn : Nat → String × String} {F : List Nat} {nsl : Nat} {nm : Nat → MethodName} {bt : Nat → ByteArray} {R : List Nat} {top : Nat}
variable {l : Launch} {Z : State} {a0 : Array Value} {n0 : Nat}
def Endd (C : String) (fn : Nat → String × String) (F : List Nat) (Z : State) (n0 : Nat) (p : Program) (l : Launch) (e : Env) (Rm : Jvm.Room) (s : State) (mid : MethodId) (args : Array Value) (below : List Frame) (meth : Method) (c : Code) (rt0 : Option FieldType) (start : State) (v : Option Value) (H' : AH) : Prop :=
  ∃ T' locs' k' n', Stand p l e Rm s mid args below meth c T' locs' k' n' ∧ RelH C fn F Z n0 T'.heap H' ∧ Fr n0 locs' ∧ k' ≤ Rm.cells ∧ n' ≤ Rm.slots ∧ (rt0 = none → v = none) ∧
    ∀ fs, (∀ (f : JFrame) (acts : List Action), f.method = mid → f.locked = none → f.entered = [] → (doReturn e (T'.setTop f) acts v).1 = T'.setFrames fs) → Steps p.tables e below start (T'.setFrames fs)
def Says (P : Prog) (C : String) (fn : Nat → String × String) (F : List Nat) (nm : Nat → MethodName) (bt : Nat → ByteArray) (l : Launch) (Z : State) (n0 m pc : Nat) (L : List Slot) (S : List Value) (k n : Nat) (H : AH) (v : Option Value) (H' : AH) : Prop :=
  ∀ (p : Program) (e : Env) (s : State) (mid : MethodId) (args : Array Value) (below : List Frame) (meth : Method) (c : Code) (T : State) (locs : List Loc), Stand p l e (rm P m) s mid args below meth c T locs k n → p.tables.exec = Jvm.exec → Z.Warmed39 s.vm → c.code = bt m → c.maxLocals = ml P m →
    s.vm.findClass (nm m).cls = some mid.cls → meth.name = (nm m).name → meth.sig.returnType = rt P m → L.length = ml P m → RelH C fn F Z n0 T.heap H → Fr n0 locs → k ≤ (rm P m).cells → n ≤ (rm P m).slots →
    Endd C fn F Z n0 p l e (rm P m) s mid args below meth c (rt P m) (T.setTop (mkF mid pc L.toArray S)) v H'
theorem Endd.back {p : Program} {e : Env} {Rm : Jvm.Room} {s : State} {mid : MethodId} {args : Array Value} {below : List Frame} {meth : Method} {c : Code} {rt0 : Option FieldType} {start start' : State} {v : Option Value} {H' : AH}
    (h : Endd C fn F Z n0 p l e Rm s mid args below meth c rt0 start' v H') (st : ∀ t, Steps p.tables e below start' t → Steps p.tables e below start t) : Endd C fn F Z n0 p l e Rm s mid args below meth c rt0 start v H' := by
  obtain ⟨T', locs', k', n', h1, h2, h3, h4, h5, h6, h7⟩ := h
  exact ⟨T', locs', k', n', h1, h2, h3, h4, h5, h6, fun fs g => st _ (h7 fs g)⟩
theorem met_of {m : Nat} {as : List Value} {H H' : AH} {v : Option Value} {h : Heap} (ws : List Jvm.Cond) (hp : plainName (nm m).cls = true) (hl : (Sym.laidSlots as).length ≤ ml P m) (r : RelH C fn F Z n0 h H)
    (hS : Says P C fn F nm bt l Z n0 m 0 (ent P m as) [] 0 0 H v H') :
    MetFree l (nm m) (head1 (Jvm.Cond.code (nm m) (bt m) (ml P m) (rt P m) :: ws) (rm P m)) (fun a U => a = as.toArray ∧ Z.Warmed39 U.vm ∧ U.heap = h) (fun _ _ _ _ _ => True)
      (fun _ U o U' => ∃ v' L, o = .returned v' ∧ (v' = v ∧ Fr n0 L ∧ RelH C fn F Z n0 U'.heap H') ∧ FrameEnd U o U' L (rm P m).cells (rm P m).slots) := by
  refine MetFree.of_bodySF (plainFor_of_name hp) hisR ?_
  intro p e s mid args below meth c s₁ Bd hml0 hP hK
  obtain ⟨rfl, hZ, hh⟩ := hP
  have X0 : Stand p l e (rm P m) s mid as.toArray below meth c s₁ [] 0 0 := Stand.of_body Bd
  have e0 : s₁.heap = h := by rw [← hh, Bd.state]; rfl
  have hle : (ent P m as).length = ml P m := by simp [ent]; omega
  obtain ⟨T', locs', k', n', X1, r1, N1, hk1, hn1, hv1, st1⟩ := hS p e s mid as.toArray below meth c s₁ [] X0 Bd.exec hZ Bd.bytes hml0 (findClass_of_methodNamed Bd.named) (name_of_methodNamed Bd.named Bd.method).1 Bd.returns hle (by rw [e0]; exact r) (Fr.nil n0) (Nat.zero_le _) (Nat.zero_le _)
  obtain ⟨fs, hr, hrun, hended, hW, hsame⟩ := X1.leave (v := v) (fun q => hv1 (Bd.returns.symm.trans q))
  refine ⟨_, _, (Jvm.Free.XT.entry (Ls := (ent P m as).toArray) (by simp [ent])).trans (st1 fs hr), hrun, hended, v, locs', rfl, ⟨rfl, N1, r1⟩, ⟨_, rfl⟩, hW, hsame.mono hk1 hn1⟩
theorem ret_ok {m : Nat} {ins : Instr} {S : List Value} {v : Option Value} (h : ret P m ins S = some v) : (rt P m = none ∧ v = none ∧ ins = .return_ ∧ S = []) ∨ ∃ t w rest, rt P m = some t ∧ v = some w ∧ S = w :: rest ∧ narrow t w = w ∧
    ((ins = .ireturn ∧ (t = .int ∨ t = .boolean ∨ t = .byte ∨ t = .char ∨ t = .short) ∧ ∃ z, w = .int z) ∨ (ins = .lreturn ∧ t = .long ∧ ∃ z, w = .long z)) := by
  unfold ret at h
  split at h
  · split at h
    · rename_i g; cases h; exact Or.inl ⟨g.1, rfl, rfl, g.2⟩
    · cases h
  · split at h
    · rename_i z rest g; cases h; exact Or.inr ⟨.int, _, rest, g, rfl, rfl, rfl, Or.inl ⟨rfl, Or.inl rfl, z, rfl⟩⟩
    · rename_i z rest g
      split at h
      · rename_i g0
        cases h
        refine Or.inr ⟨.boolean, _, rest, g, rfl, rfl, ?_, Or.inl ⟨rfl, Or.inr (Or.inl rfl), z, rfl⟩⟩
        rcases g0 with rfl | rfl <;> rfl
      · cases h
    · cases h
  · split at h
    · rename_i z rest g; cases h; exact Or.inr ⟨.long, _, rest, g, rfl, rfl, rfl, Or.inr ⟨rfl, rfl, z, rfl⟩⟩
    · cases h
  · cases h
theorem cal_ok {m m' k n : Nat} {ins : Instr} {aux : Int} {S a r : List Value} {H : AH} (h : cal P m ins aux S k n H = some (m', a, r)) : aux = (m' : Int) ∧ kindOk ins (kd P m') = true ∧ may P m m' a r k n H = true ∧ S = a.reverse ++ r := by
  have h1 : cal1 P m ins aux S k n H = some (m', a, r) := by
    unfold cal at h
    split at h <;> first | exact h | (cases h)
  unfold cal1 at h1
  split at h1
  · rename_i g
    cases h1
    exact ⟨by omega, g.2.1, g.2.2, by rw [List.reverse_reverse]; exact (List.take_append_drop ..).symm⟩
  · cases h1
end Sound
end Jvm.JX

namespace Jvm.JX
open Sem ClassFile Op Lib Jvm.Stand Jvm.Free Jvm.LawKit Jvm.RoadKit
section Sound
variable {P : Prog} {tb : List Jvm.Cond} {C : String} {fn : Nat → String × String} {F : List Nat} {nsl : Nat} {nm : Nat → MethodName} {bt : Nat → ByteArray} {R : List Nat} {top : Nat}
variable {l : Launch} {Z : State} {a0 : Array Value} {n0 : Nat}
theorem may_ok {m m' k n : Nat} {a r : List Value} {H : AH} (h : may P m m' a r k n H = true) : (Sym.laidSlots a).length ≤ ml P m' ∧ a.length = na P m' ∧ (rm P m').frames + 1 ≤ (rm P m).frames ∧ cs r + (ml P m' + 11) + (rm P m').locals ≤ (rm P m).locals ∧
    (((rm P m').cells = 0 ∧ (rm P m').slots = 0) ∨ (k + (rm P m').cells ≤ (rm P m).cells ∧ n + (rm P m').slots ≤ (rm P m).slots)) ∧ (kd P m' = 0 ∨ rcv H a = true) := by
  simpa [may, and_assoc] using h
theorem rcv_ok {H : AH} {a : List Value} (h : rcv H a = true) : ∃ b as, a = .ref b :: as ∧ isO H b = true := by
  unfold rcv at h
  split at h
  · exact ⟨_, _, rfl, h⟩
  · cases h
set_option maxHeartbeats 1000000 in
theorem call_go {m pc len k n m' : Nat} {aux : Int} {L : List Slot} {S a r : List Value} {H H1 : AH} {ins : Instr} {v1 : Option Value} {p : Program} {e : Env} {s : State} {mid : MethodId} {args : Array Value} {below : List Frame} {meth : Method} {c : Code} {T : State} {locs : List Loc}
    (hG : Good P tb C fn F nsl nm bt R top) (hw : ∀ d ∈ tb, d.before a0 Z = true) (hm : m ∈ R) (hrow : P.1 m pc = some (ins, len, aux)) (hc : cal P m ins aux S k n H = some (m', a, r)) (hS : m' ∈ R → Says P C fn F nm bt l Z n0 m' 0 (ent P m' a) [] 0 0 H v1 H1)
    (X : Stand p l e (rm P m) s mid args below meth c T locs k n) (hx : p.tables.exec = Jvm.exec) (hZ : Z.Warmed39 s.vm)
    (hby : c.code = bt m) (hml : c.maxLocals = ml P m) (hown : s.vm.findClass (nm m).cls = some mid.cls) (hL : L.length = ml P m) (rr : RelH C fn F Z n0 T.heap H) (N : Fr n0 locs) (hk : k ≤ (rm P m).cells) (hn : n ≤ (rm P m).slots) :
    Go C fn F Z n0 p l e (rm P m) s mid args below meth c (T.setTop (mkF mid pc L.toArray S)) (ml P m) (pc + len, L, v1.toList ++ r, k + (rm P m').cells, n + (rm P m').slots, H1) := by
  obtain ⟨hd, hl, ho⟩ := (hG.2.2.2.2.1 m hm).2.2 pc ins len aux hrow
  replace hd := hb hby hd
  obtain ⟨e1, e2, e3, e4⟩ := cal_ok hc
  obtain ⟨y1, y2, y3, y4, y5, y6⟩ := may_ok e3
  have hnt : m' ≠ top := fun q => by
    have := hG.2.2.2.2.2.2 m hm pc ins len aux hrow (by rw [e1, q])
    rw [q, this] at e2; cases e2
  have y5' : k + (rm P m').cells ≤ (rm P m).cells ∧ n + (rm P m').slots ≤ (rm P m).slots := by rcases y5 with ⟨q1, q2⟩ | q <;> omega
  have hsize : (mkF mid pc L.toArray S).locals.size = c.maxLocals := by rw [hml, ← hL]; simp
  have hcs : 2 * (mkF mid pc L.toArray S).monitorRoom + (r.map fun v => v.category).sum ≤ cs r := by show 2 * 0 + _ ≤ _; exact Nat.le_of_eq (Nat.zero_add _)
  subst e1
  cases ins with
  | invokevirtual ix =>
    have hl : len = 3 := hl
    subst hl
    obtain ⟨mR, lnk⟩ := ho
    rw [Int.toNat_natCast] at mR lnk
    obtain ⟨c1, c2, ⟨ps, rr0, c3, c4⟩, c5, c6, c7, c8, c9⟩ := hG.2.2.2.2.2.1 m' mR hnt
    have hk0 : kd P m' ≠ 0 := fun q => by rw [q] at e2; cases e2
    obtain ⟨hcls, hinst⟩ := c6 hk0
    obtain ⟨b, as, rfl, hb⟩ := rcv_ok (y6.resolve_left hk0)
    obtain ⟨Eb, -⟩ := rr.obj hb
    have hlen : as.length = ps.length := by rw [if_neg hk0] at c4; simp only [List.length_cons] at y2; omega
    have eS : S = as.reverse ++ .ref b :: r := by rw [e4]; simp
    subst eS
    obtain ⟨pn, hy, -⟩ := hG.2.2.2.2.1 m' mR
    have BK := backOf (Q := fun v' h' L' => v' = v1 ∧ Fr n0 L' ∧ RelH C fn F Z n0 h' H1) (R := rm P m) (W := cs r) (p := p) (e := e) (below := below) (s := s) (args := args) (len := 3) (met_of [] pn y1 rr (hS mR)) hZ (hw _ c1) (hw _ c2) y3 y4
    have hkk : kd P m' = 1 ∨ kd P m' = 2 := by simpa [kindOk] using e2
    rcases hkk with hkk | hkk
    · obtain ⟨d1, d2⟩ := c7 hkk
      obtain ⟨cB, kB, q1, q2, q3⟩ := isOf (T := T) hZ rfl Eb
      obtain ⟨v, vm1, ⟨T1, L1, k1, n1⟩, -, X1, ⟨Lc, hQ, l1, z1, z2⟩, st⟩ := X.virtualBack hx (y := nm m') (z := nm m') hown (mvT hZ (hw _ lnk)) (mvT hZ (hw _ d1)) (notFace_of_selects (args := #[]) (mvT hZ (hw _ d2))) (mvT hZ (hw _ d2)) (mvT hZ (hw _ hinst)) hy BK q1 q3 (g := mkF mid pc L.toArray (as.reverse ++ .ref b :: r)) rfl hsize (Steps.refl _) (argsL := as) (rest := r) (lenOf c3 hlen) rfl hcs hd (fun _ _ => ⟨rfl, rfl, y5'.1, y5'.2⟩)
      dsimp only [Pt.U, Pt.locs, Pt.cells, Pt.slots] at X1 l1 z1 z2 st hQ
      subst l1 z1 z2
      obtain ⟨rfl, N1, r1⟩ := hQ
      exact ⟨T1, _, X1, r1, Fr.app N N1, y5'.1, y5'.2, hL, fun t g => st.trans g⟩
    · obtain ⟨ci, ki, i1, i2, i3, i4, -⟩ := Cond.instantiable_spec (show (Jvm.Cond.instantiable C nsl).before args s = true from mv hZ (hw _ hG.1))
      have hni : ki.isInterface = false := (Bool.or_eq_false_iff.mp i4).1
      have hpriv := Cond.privateMethod_at (mvP hZ (hw _ (c8 hkk)) (args := #[]))
      have hsel : (Jvm.Cond.selects (nm m').cls (nm m') (nm m')).before args s = true := selects_self_of_private (by rw [hcls]; exact i1) i2 hni hpriv (mvT hZ (hw _ hinst)) hy
      obtain ⟨cl, hcl, hcl'⟩ := Eb.cell
      obtain ⟨v, vm1, ⟨T1, L1, k1, n1⟩, -, X1, ⟨Lc, hQ, l1, z1, z2⟩, st⟩ := X.privateBack hx (y := nm m') hown (mvT hZ (hw _ lnk)) (mvT hZ (hw _ hinst)) hsel hpriv (mvT hZ (hw _ c1)) hy BK (g := mkF mid pc L.toArray (as.reverse ++ .ref b :: r)) rfl hsize (Steps.refl _) (a := b) hcl hcl' (argsL := as) (rest := r) (lenOf c3 hlen) rfl hcs hd (fun _ _ => ⟨rfl, rfl, y5'.1, y5'.2⟩)
      dsimp only [Pt.U, Pt.locs, Pt.cells, Pt.slots] at X1 l1 z1 z2 st hQ
      subst l1 z1 z2
      obtain ⟨rfl, N1, r1⟩ := hQ
      exact ⟨T1, _, X1, r1, Fr.app N N1, y5'.1, y5'.2, hL, fun t g => st.trans g⟩
  | invokestatic ix =>
    have hl : len = 3 := hl
    subst hl
    obtain ⟨mR, lnk⟩ := ho
    rw [Int.toNat_natCast] at mR lnk
    obtain ⟨c1, c2, ⟨ps, rr0, c3, c4⟩, c5, c6, c7, c8, c9⟩ := hG.2.2.2.2.2.1 m' mR hnt
    have hk0 : kd P m' = 0 := by simpa [kindOk] using e2
    have hlen : a.length = ps.length := by rw [if_pos hk0] at c4; omega
    subst e4
    obtain ⟨pn, hy, -⟩ := hG.2.2.2.2.1 m' mR
    have BK := backOf (Q := fun v' h' L' => v' = v1 ∧ Fr n0 L' ∧ RelH C fn F Z n0 h' H1) (R := rm P m) (W := cs r) (p := p) (e := e) (below := below) (s := s) (args := args) (len := 3) (met_of [] pn y1 rr (hS mR)) hZ (hw _ c1) (hw _ c2) y3 y4
    obtain ⟨v, vm1, ⟨T1, L1, k1, n1⟩, -, X1, ⟨Lc, hQ, l1, z1, z2⟩, st⟩ := Jvm.LawKit.callS X hx (y := nm m') hown (mvT hZ (hw _ lnk)) (mvT hZ (hw _ (c5 hk0))) (mvT hZ (hw _ c2)) (mvT hZ (hw _ c1)) hy BK (g := mkF mid pc L.toArray (a.reverse ++ r)) rfl hsize (argsL := a) (rest := r) (lenOf c3 hlen) rfl hcs hd (fun _ _ => ⟨rfl, rfl, y5'.1, y5'.2⟩)
    dsimp only [Pt.U, Pt.locs, Pt.cells, Pt.slots] at X1 l1 z1 z2 st hQ
    subst l1 z1 z2
    obtain ⟨rfl, N1, r1⟩ := hQ
    exact ⟨T1, _, X1, r1, Fr.app N N1, y5'.1, y5'.2, hL, fun t g => st t g⟩
  | invokespecial ix =>
    have hl : len = 3 := hl
    subst hl
    obtain ⟨mR, lnk⟩ := ho.2 (by omega)
    rw [Int.toNat_natCast] at mR lnk
    obtain ⟨c1, c2, ⟨ps, rr0, c3, c4⟩, c5, c6, c7, c8, c9⟩ := hG.2.2.2.2.2.1 m' mR hnt
    have hk3 : kd P m' = 3 := by simpa [kindOk] using e2
    have hk0 : kd P m' ≠ 0 := by omega
    obtain ⟨hcls, hinst⟩ := c6 hk0
    obtain ⟨hn3, hr3⟩ := c9 hk3
    obtain ⟨b, as, rfl, hb⟩ := rcv_ok (y6.resolve_left hk0)
    have hlen : as.length = ps.length := by rw [if_neg hk0] at c4; simp only [List.length_cons] at y2; omega
    have eS : S = as.reverse ++ .ref b :: r := by rw [e4]; simp
    subst eS
    obtain ⟨pn, hy, -⟩ := hG.2.2.2.2.1 m' mR
    have BK := backOf (Q := fun v' h' L' => v' = v1 ∧ Fr n0 L' ∧ RelH C fn F Z n0 h' H1) (R := rm P m) (W := cs r) (p := p) (e := e) (below := below) (s := s) (args := args) (len := 3) (met_of [] pn y1 rr (hS mR)) hZ (hw _ c1) (hw _ c2) y3 y4
    rw [hr3] at c1
    obtain ⟨v, vm1, ⟨T1, L1, k1, n1⟩, -, X1, ⟨Lc, hQ, l1, z1, z2⟩, st⟩ := X.specialBack hx (y := nm m') hn3 hown (mvT hZ (hw _ lnk)) (mvT hZ (hw _ hinst)) (mvT hZ (hw _ c1)) hy BK (g := mkF mid pc L.toArray (as.reverse ++ .ref b :: r)) rfl hsize (Steps.refl _) (a := b) (argsL := as) (rest := r) (lenOf c3 hlen) rfl hcs hd (fun _ _ => ⟨rfl, rfl, y5'.1, y5'.2⟩)
    dsimp only [Pt.U, Pt.locs, Pt.cells, Pt.slots] at X1 l1 z1 z2 st hQ
    subst l1 z1 z2
    obtain ⟨rfl, N1, r1⟩ := hQ
    exact ⟨T1, _, X1, r1, Fr.app N N1, y5'.1, y5'.2, hL, fun t g => st.trans g⟩
  | _ => cases e2
theorem sound (hG : Good P tb C fn F nsl nm bt R top) (hw : ∀ d ∈ tb, d.before a0 Z = true) : ∀ (f m : Nat), m ∈ R → ∀ (pc : Nat) (L : List Slot) (S : List Value) (k n : Nat) (H : AH) (v : Option Value) (H' : AH), run P f m pc L S k n H = some (v, H') → Says P C fn F nm bt l Z n0 m pc L S k n H v H' := by
  intro f
  induction f with
  | zero => intro m _ pc L S k n H v H' h; cases h
  | succ f ih =>
    intro m hm pc L S k n H v H' h p e s mid args below meth c T locs X hx hZ hby hml hown hnm hret hL r N hk hn
    rw [run_succ] at h
    cases hd : P.1 m pc with
    | none => rw [hd] at h; cases h
    | some d =>
      obtain ⟨ins, len, aux⟩ := d
      rw [hd] at h
      simp only at h
      cases hr : ret P m ins S with
      | some v1 =>
        rw [hr] at h
        cases h
        obtain ⟨hdec, hl, -⟩ := (hG.2.2.2.2.1 m hm).2.2 pc ins len aux hd
        replace hdec := hb hby hdec
        rcases ret_ok hr with ⟨q1, rfl, rfl, q0⟩ | ⟨t, w, rest, q1, rfl, rfl, q4, q5⟩
        · have hl : len = 1 := hl
          subst hl
          exact ⟨T, locs, k, n, X, r, N, hk, hn, fun _ => rfl, fun fs g => by subst q0; exact X.returnOut hx (hret.trans q1) hdec g⟩
        · refine ⟨T, locs, k, n, X, r, N, hk, hn, fun q => absurd (q1.symm.trans q) (by simp), fun fs g => ?_⟩
          have hl1 : len = 1 := by
            rcases q5 with ⟨rfl, -⟩ | ⟨rfl, -⟩ <;> exact hl
          subst hl1
          exact retOut X hx (hret.trans q1) q4 (q5.elim (fun u => Or.inl u) (fun u => Or.inr (Or.inl u))) hdec g
      | none =>
        rw [hr] at h
        simp only at h
        cases hc : cal P m ins aux S k n H with
        | some cc =>
          obtain ⟨m', a, rs⟩ := cc
          rw [hc] at h
          simp only at h
          cases hq : run P f m' 0 (ent P m' a) [] 0 0 H with
          | none => rw [hq] at h; cases h
          | some q =>
            obtain ⟨v1, H1⟩ := q
            rw [hq] at h
            obtain ⟨T1, locs1, X1, r1, N1, hk1, hn1, hL1, st⟩ := call_go hG hw hm hd hc (fun mR => ih m' mR _ _ _ _ _ _ _ _ hq) X hx hZ hby hml hown hL r N hk hn
            exact (ih m hm _ _ _ _ _ _ _ _ h p e s mid args below meth c T1 locs1 X1 hx hZ hby hml hown hnm hret hL1 r1 N1 hk1 hn1).back st
        | none =>
          rw [hc] at h
          simp only at h
          cases hs : stp P m ins len aux pc L S k n H with
          | none => rw [hs] at h; cases h
          | some q =>
            rw [hs] at h
            obtain ⟨T1, locs1, X1, r1, N1, hk1, hn1, hL1, st⟩ := stp_go hG hw hm hd hs X hx hZ hby hml hown hnm hL r N hk hn
            exact (ih m hm _ _ _ _ _ _ _ _ h p e s mid args below meth c T1 locs1 X1 hx hZ hby hml hown hnm hret hL1 r1 N1 hk1 hn1).back st
theorem law_met (hG : Good P tb C fn F nsl nm bt R top) (hw : ∀ d ∈ tb, d.before a0 Z = true) {as : List Value} {H : AH} {h : Heap} {Q : Option Value → AH → Prop} (ws : List Jvm.Cond) (ht : top ∈ R) (hl : (Sym.laidSlots as).length ≤ ml P top) (r : RelH C fn F Z n0 h H) (hC : Cl P top as H Q) :
    MetFree l (nm top) (head1 (Jvm.Cond.code (nm top) (bt top) (ml P top) (rt P top) :: ws) (rm P top)) (fun a U => a = as.toArray ∧ Z.Warmed39 U.vm ∧ U.heap = h) (fun _ _ _ _ _ => True)
      (fun _ U o U' => ∃ v' L, o = .returned v' ∧ (Fr n0 L ∧ ∃ H', Q v' H') ∧ FrameEnd U o U' L (rm P top).cells (rm P top).slots) := by
  obtain ⟨f, v, H', h1, h2⟩ := hC
  have hM := met_of (l := l) (h := h) ws (hG.2.2.2.2.1 top ht).1 hl r (sound hG hw f top ht _ _ _ _ _ _ _ _ h1)
  intro p e ha hc hk s m args below hf happ hP hK
  obtain ⟨n, o, q1, q2, q3, v', L, q4, ⟨q5, q6, q7⟩, q8⟩ := hM p e ha hc hk s m args below hf happ hP hK
  exact ⟨n, o, q1, q2, q3, v', L, q4, ⟨q6, H', by rw [q5]; exact h2⟩, q8⟩
end Sound
end Jvm.JX
namespace Jvm.JX
open Sem ClassFile Op Lib Jvm.Stand Jvm.Free Jvm.LawKit Jvm.RoadKit
theorem fa0 {α : Type} {p : α → Prop} : ∀ x ∈ ([] : List α), p x := fun _ q => nomatch q
theorem faS {α : Type} {p : α → Prop} {y : α} {L : List α} (q : p y) (r : ∀ x ∈ L, p x) : ∀ x ∈ y :: L, p x := fun x z => (List.mem_cons.mp z).elim (fun u => u ▸ q) (r x)
def rowChk (FL ML : List (Nat × Nat × Nat)) (KI KJ : List (Nat × Nat × Int)) (AT : List FieldType) (WF : List Nat) (nsl nw : Nat) (own : Nat) (ini : Bool) (ins : Instr) (aux : Int) : Bool :=
  match ins with
  | .getfield i => FL.contains (own, i, aux.toNat)
  | .putfield i => FL.contains (own, i, aux.toNat) && (WF.contains aux.toNat || ini)
  | .new i => decide (aux.toNat = nsl) && decide (own = 1) && decide (i = nw)
  | .newarray t => decide (newarray.typeOf t ∈ AT)
  | .ldc i => KI.contains (own, i, aux)
  | .ldc2_w i => KJ.contains (own, i, aux)
  | .invokevirtual i => ML.contains (own, i, aux.toNat)
  | .invokestatic i => ML.contains (own, i, aux.toNat)
  | .invokespecial i => if aux = -1 then decide (own = 0) && decide (i = 1) else ML.contains (own, i, aux.toNat)
  | _ => true
def rowOne (FL ML : List (Nat × Nat × Nat)) (KI KJ : List (Nat × Nat × Int)) (AT : List FieldType) (WF : List Nat) (nsl nw : Nat) (bt : Nat → ByteArray) (own : Nat → Nat) (ini : Nat → Bool) (m : Nat) (r : Row) : Bool :=
  decide (decode (bt m) r.1 = .ok (r.2.1, r.2.2.1)) && decide (r.2.2.1 = ilen2 r.2.1 r.2.2.1) && rowChk FL ML KI KJ AT WF nsl nw (own m) (ini m) r.2.1 r.2.2.2
theorem lookup_mem {L : List Row} {pc : Nat} {d : Instr × Nat × Int} (h : L.lookup pc = some d) : (pc, d) ∈ L := by
  induction L with
  | nil => cases h
  | cons x L ih =>
    obtain ⟨k, v⟩ := x
    rw [List.lookup_cons] at h
    by_cases e : pc = k
    · subst e; simp at h; subst h; exact List.mem_cons_self ..
    · have : (pc == k) = false := by simpa using e
      rw [this] at h; exact List.mem_cons_of_mem _ (ih h)
theorem row_ok {P : Prog} {tb : List Jvm.Cond} {C : String} {fn : Nat → String × String} {F : List Nat} {nsl nw : Nat} {nm : Nat → MethodName} {R : List Nat} {cn : Nat → String} {own : Nat → Nat} {ini : Nat → Bool}
    {FL ML : List (Nat × Nat × Nat)} {KI KJ : List (Nat × Nat × Int)} {AT : List FieldType} {WF : List Nat} {m : Nat} {ins : Instr} {aux : Int}
    (hown : (nm m).cls = cn (own m)) (hini : ini m = true → (nm m).cls = C ∧ (nm m).name = "<init>")
    (hFL : ∀ t ∈ FL, t.2.2 ∈ F ∧ Jvm.Cond.fieldLink (cn t.1) t.2.1 C (fn t.2.2).1 (fn t.2.2).2 ∈ tb) (hWF : ∀ k ∈ WF, Jvm.Cond.lays C C (fn k).1 (fn k).2 ∈ tb)
    (hML : ∀ t ∈ ML, t.2.2 ∈ R ∧ Jvm.Cond.methodLink (cn t.1) t.2.1 (nm t.2.2) ∈ tb) (hKI : ∀ t ∈ KI, Jvm.Cond.constant (cn t.1) t.2.1 (Int32.ofInt t.2.2) ∈ tb) (hKJ : ∀ t ∈ KJ, Jvm.Cond.constantLong (cn t.1) t.2.1 (Int64.ofInt t.2.2) ∈ tb)
    (hAT : ∀ t ∈ AT, Jvm.Cond.arrayClass t ∈ tb) (hN : Jvm.Cond.classLink (cn 1) nw C ∈ tb)
    (hO : Jvm.Cond.methodLink (cn 0) 1 Lib.objectInit ∈ tb ∧ Jvm.Cond.instanceMethod Lib.objectInit ∈ tb ∧ Jvm.Cond.code Lib.objectInit ⟨#[0xb1]⟩ 1 none ∈ tb)
    (h : rowChk FL ML KI KJ AT WF nsl nw (own m) (ini m) ins aux = true) : RowOk P tb C fn F nsl nm R m ins aux := by
  cases ins <;> first | trivial | skip
  case getfield i => have q := hFL _ (List.contains_iff_mem.mp h); exact ⟨q.1, by rw [hown]; exact q.2⟩
  case putfield i =>
    simp only [rowChk, Bool.and_eq_true, Bool.or_eq_true] at h
    have q := hFL _ (List.contains_iff_mem.mp h.1)
    exact ⟨q.1, by rw [hown]; exact q.2, h.2.imp (fun u => hWF _ (List.contains_iff_mem.mp u)) hini⟩
  case new i =>
    simp only [rowChk, Bool.and_eq_true, decide_eq_true_eq] at h
    obtain ⟨⟨h1, h2⟩, h3⟩ := h
    exact ⟨h1, by rw [hown, h2, h3]; exact hN⟩
  case newarray t => exact hAT _ (of_decide_eq_true h)
  case ldc i => have q := hKI _ (List.contains_iff_mem.mp h); show _ ∈ tb; rw [hown]; exact q
  case ldc2_w i => have q := hKJ _ (List.contains_iff_mem.mp h); show _ ∈ tb; rw [hown]; exact q
  case invokevirtual i => have q := hML _ (List.contains_iff_mem.mp h); exact ⟨q.1, by rw [hown]; exact q.2⟩
  case invokestatic i => have q := hML _ (List.contains_iff_mem.mp h); exact ⟨q.1, by rw [hown]; exact q.2⟩
  case invokespecial i =>
    simp only [rowChk] at h
    refine ⟨fun e => ?_, fun e => ?_⟩
    · rw [if_pos e] at h
      simp only [Bool.and_eq_true, decide_eq_true_eq] at h
      rw [hown, h.1, h.2]; exact hO
    · rw [if_neg (by omega)] at h
      have q := hML _ (List.contains_iff_mem.mp h)
      exact ⟨q.1, by rw [hown]; exact q.2⟩
theorem rel_H0 {C : String} {fn : Nat → String × String} {F : List Nat} {Z : State} (h : Heap) : RelH C fn F Z h.size h (H0 h.size) := ⟨rfl, Nat.le_refl _, fun a => ⟨fun q => (by cases q), trivial⟩⟩
theorem rel_H1 {C : String} {fn : Nat → String × String} {F : List Nat} {s : State} {a : Addr} {cl : Cell} (hf : Fit s) (A : Arr s s.heap a cl .int) (hl : cl.slots.size < 2 ^ 31) :
    ∃ f : Nat → Int32, RelH C fn F s s.heap.size s.heap (H1 s.heap.size a cl.slots.size f) := by
  refine ⟨fun i => match cl.slots[i]? with | some (.int x) => x | _ => 0, rfl, Nat.le_refl _, fun b => ?_⟩
  simp only [H1]
  by_cases e : b = a
  · subst e
    simp only [if_true]
    refine ⟨fun q => (by cases q), hl, cl, A, rfl, fun i hi => ?_⟩
    have hi : i < cl.slots.size := hi
    have hj := idx_in hi hl
    obtain ⟨v, q1, q2⟩ := elem_fit hf A hj
    have e2 : (i.toInt32).toNatClampNeg = i := by
      have := len_toInt (n := i) (by omega)
      simp only [Int32.toNatClampNeg, this]; omega
    rw [e2] at q1
    obtain ⟨x, rfl⟩ := fit_I q2 (Or.inl rfl)
    show _ = some (Value.int (match cl.slots[i]? with | some (.int x) => x | _ => 0))
    rw [q1]
  · simp only [e, if_false]; exact ⟨fun q => (by cases q), trivial⟩
end Jvm.JX

namespace Jvm.JX.Pj
open Jvm Jvm.ClassFile Sem Op Lib Jvm.JX
def r1 : List Row := [(0, .aload_n 0, 1, 0), (1, .invokespecial 1, 3, (-1)), (4, .aload_n 0, 1, 0), (5, .bipush 33, 2, 0), (7, .newarray .int, 2, 0), (9, .putfield 7, 3, 5), (12, .aload_n 0, 1, 0), (13, .bipush 33, 2, 0), (15, .newarray .int, 2, 0), (17, .putfield 13, 3, 6), (20, .aload_n 0, 1, 0), (21, .bipush 33, 2, 0), (23, .newarray .int, 2, 0), (25, .putfield 16, 3, 7), (28, .aload_n 0, 1, 0), (29, .bipush 33, 2, 0), (31, .newarray .int, 2, 0), (33, .putfield 19, 3, 8), (36, .aload_n 0, 1, 0), (37, .bipush 33, 2, 0), (39, .newarray .int, 2, 0), (41, .putfield 22, 3, 9), (44, .aload_n 0, 1, 0), (45, .bipush 33, 2, 0), (47, .newarray .int, 2, 0), (49, .putfield 25, 3, 10), (52, .aload_n 0, 1, 0), (53, .bipush 33, 2, 0), (55, .newarray .int, 2, 0), (57, .putfield 28, 3, 11), (60, .aload_n 0, 1, 0), (61, .bipush 10, 2, 0), (63, .newarray .int, 2, 0), (65, .putfield 31, 3, 16), (68, .aload_n 0, 1, 0), (69, .bipush 10, 2, 0), (71, .newarray .int, 2, 0), (73, .putfield 34, 3, 17), (76, .aload_n 0, 1, 0), (77, .bipush 25, 2, 0), (79, .newarray .int, 2, 0), (81, .putfield 37, 3, 18), (84, .aload_n 0, 1, 0), (85, .bipush 100, 2, 0), (87, .newarray .int, 2, 0), (89, .putfield 40, 3, 19), (92, .aload_n 0, 1, 0), (93, .bipush 32, 2, 0), (95, .newarray .int, 2, 0), (97, .putfield 43, 3, 20), (100, .aload_n 0, 1, 0), (101, .bipush 32, 2, 0), (103, .newarray .int, 2, 0), (105, .putfield 46, 3, 21), (108, .iload_n 1, 1, 0), (109, .istore_n 3, 1, 0), (110, .iload_n 3, 1, 0), (111, .iconst 2, 1, 0), (112, .if_icmp .ge 5, 3, 0), (115, .iconst 2, 1, 0), (116, .istore_n 3, 1, 0), (117, .iload_n 3, 1, 0), (118, .iconst 4, 1, 0), (119, .if_icmp .le 5, 3, 0), (122, .iconst 4, 1, 0), (123, .istore_n 3, 1, 0), (124, .aload_n 0, 1, 0), (125, .iload_n 3, 1, 0), (126, .putfield 49, 3, 0), (129, .aload_n 0, 1, 0), (130, .aload_n 0, 1, 0), (131, .iload_n 2, 1, 0), (132, .invokevirtual 53, 3, 2), (135, .putfield 57, 3, 3), (138, .aload_n 0, 1, 0), (139, .invokevirtual 60, 3, 3), (142, .aload_n 0, 1, 0), (143, .invokevirtual 63, 3, 4), (146, .aload_n 0, 1, 0), (147, .iconst 0, 1, 0), (148, .putfield 66, 3, 4), (151, .aload_n 0, 1, 0), (152, .iconst 0, 1, 0), (153, .putfield 69, 3, 12), (156, .aload_n 0, 1, 0), (157, .iconst 0, 1, 0), (158, .putfield 73, 3, 13), (161, .aload_n 0, 1, 0), (162, .iconst 0, 1, 0), (163, .putfield 76, 3, 14), (166, .aload_n 0, 1, 0), (167, .iconst 0, 1, 0), (168, .putfield 79, 3, 15), (171, .aload_n 0, 1, 0), (172, .iconst 0, 1, 0), (173, .putfield 82, 3, 22), (176, .return_, 1, 0)]
def r2 : List Row := [(0, .iload_n 1, 1, 0), (1, .iconst 1, 1, 0), (2, .if_icmp .ge 7, 3, 0), (5, .iconst 1, 1, 0), (6, .goto 4, 3, 0), (9, .iload_n 1, 1, 0), (10, .ireturn, 1, 0)]
def r3 : List Row := [(0, .iconst 0, 1, 0), (1, .istore_n 1, 1, 0), (2, .iconst 1, 1, 0), (3, .istore_n 2, 1, 0), (4, .iload_n 2, 1, 0), (5, .aload_n 0, 1, 0), (6, .getfield 49, 3, 0), (9, .if_icmp .gt 64, 3, 0), (12, .iload_n 2, 1, 0), (13, .istore_n 3, 1, 0), (14, .iload_n 3, 1, 0), (15, .aload_n 0, 1, 0), (16, .getfield 49, 3, 0), (19, .if_icmp .gt 48, 3, 0), (22, .aload_n 0, 1, 0), (23, .getfield 31, 3, 16), (26, .iload_n 1, 1, 0), (27, .iload_n 2, 1, 0), (28, .iastore, 1, 0), (29, .aload_n 0, 1, 0), (30, .getfield 34, 3, 17), (33, .iload_n 1, 1, 0), (34, .iload_n 3, 1, 0), (35, .iastore, 1, 0), (36, .aload_n 0, 1, 0), (37, .getfield 37, 3, 18), (40, .iload_n 2, 1, 0), (41, .iconst 5, 1, 0), (42, .imul, 1, 0), (43, .iload_n 3, 1, 0), (44, .iadd, 1, 0), (45, .iload_n 1, 1, 0), (46, .iastore, 1, 0), (47, .aload_n 0, 1, 0), (48, .getfield 37, 3, 18), (51, .iload_n 3, 1, 0), (52, .iconst 5, 1, 0), (53, .imul, 1, 0), (54, .iload_n 2, 1, 0), (55, .iadd, 1, 0), (56, .iload_n 1, 1, 0), (57, .iastore, 1, 0), (58, .iinc 1 1, 3, 0), (61, .iinc 3 1, 3, 0), (64, .goto (-50), 3, 0), (67, .iinc 2 1, 3, 0), (70, .goto (-66), 3, 0), (73, .aload_n 0, 1, 0), (74, .iload_n 1, 1, 0), (75, .putfield 85, 3, 1), (78, .aload_n 0, 1, 0), (79, .iconst 1, 1, 0), (80, .iload_n 1, 1, 0), (81, .ishl, 1, 0), (82, .iconst 1, 1, 0), (83, .isub, 1, 0), (84, .putfield 88, 3, 2), (87, .return_, 1, 0)]
def r4 : List Row := [(0, .iconst 0, 1, 0), (1, .istore_n 1, 1, 0), (2, .iload_n 1, 1, 0), (3, .aload_n 0, 1, 0), (4, .getfield 85, 3, 1), (7, .if_icmp .ge 42, 3, 0), (10, .iconst 0, 1, 0), (11, .istore_n 2, 1, 0), (12, .iload_n 2, 1, 0), (13, .aload_n 0, 1, 0), (14, .getfield 85, 3, 1), (17, .if_icmp .ge 26, 3, 0), (20, .aload_n 0, 1, 0), (21, .getfield 40, 3, 19), (24, .iload_n 1, 1, 0), (25, .bipush 10, 2, 0), (27, .imul, 1, 0), (28, .iload_n 2, 1, 0), (29, .iadd, 1, 0), (30, .aload_n 0, 1, 0), (31, .iload_n 1, 1, 0), (32, .iload_n 2, 1, 0), (33, .invokevirtual 91, 3, 5), (36, .iastore, 1, 0), (37, .iinc 2 1, 3, 0), (40, .goto (-28), 3, 0), (43, .iinc 1 1, 3, 0), (46, .goto (-44), 3, 0), (49, .return_, 1, 0)]
def r5 : List Row := [(0, .iconst 0, 1, 0), (1, .istore_n 3, 1, 0), (2, .iconst 0, 1, 0), (3, .istore 4, 2, 0), (5, .iload 4, 2, 0), (7, .aload_n 0, 1, 0), (8, .getfield 85, 3, 1), (11, .if_icmp .ge 27, 3, 0), (14, .aload_n 0, 1, 0), (15, .iload 4, 2, 0), (17, .iload_n 1, 1, 0), (18, .iload_n 2, 1, 0), (19, .invokevirtual 95, 3, 6), (22, .ifCond .eq 10, 3, 0), (25, .iload_n 3, 1, 0), (26, .iconst 1, 1, 0), (27, .iload 4, 2, 0), (29, .ishl, 1, 0), (30, .ior, 1, 0), (31, .istore_n 3, 1, 0), (32, .iinc 4 1, 3, 0), (35, .goto (-30), 3, 0), (38, .iload_n 3, 1, 0), (39, .ireturn, 1, 0)]
def r6 : List Row := [(0, .aload_n 0, 1, 0), (1, .getfield 31, 3, 16), (4, .iload_n 1, 1, 0), (5, .iaload, 1, 0), (6, .istore 4, 2, 0), (8, .aload_n 0, 1, 0), (9, .getfield 34, 3, 17), (12, .iload_n 1, 1, 0), (13, .iaload, 1, 0), (14, .istore 5, 2, 0), (16, .aload_n 0, 1, 0), (17, .getfield 31, 3, 16), (20, .iload_n 2, 1, 0), (21, .iaload, 1, 0), (22, .istore 6, 2, 0), (24, .aload_n 0, 1, 0), (25, .getfield 34, 3, 17), (28, .iload_n 2, 1, 0), (29, .iaload, 1, 0), (30, .istore 7, 2, 0), (32, .aload_n 0, 1, 0), (33, .getfield 31, 3, 16), (36, .iload_n 3, 1, 0), (37, .iaload, 1, 0), (38, .istore 8, 2, 0), (40, .aload_n 0, 1, 0), (41, .getfield 34, 3, 17), (44, .iload_n 3, 1, 0), (45, .iaload, 1, 0), (46, .istore 9, 2, 0), (48, .iload 4, 2, 0), (50, .iload 6, 2, 0), (52, .if_icmp .eq 10, 3, 0), (55, .iload 4, 2, 0), (57, .iload 7, 2, 0), (59, .if_icmp .ne 7, 3, 0), (62, .iconst 1, 1, 0), (63, .goto 4, 3, 0), (66, .iconst 0, 1, 0), (67, .istore 10, 2, 0), (69, .iload 5, 2, 0), (71, .iload 6, 2, 0), (73, .if_icmp .eq 10, 3, 0), (76, .iload 5, 2, 0), (78, .iload 7, 2, 0), (80, .if_icmp .ne 7, 3, 0), (83, .iconst 1, 1, 0), (84, .goto 4, 3, 0), (87, .iconst 0, 1, 0), (88, .istore 11, 2, 0), (90, .iload 4, 2, 0), (92, .iload 8, 2, 0), (94, .if_icmp .eq 10, 3, 0), (97, .iload 4, 2, 0), (99, .iload 9, 2, 0), (101, .if_icmp .ne 7, 3, 0), (104, .iconst 1, 1, 0), (105, .goto 4, 3, 0), (108, .iconst 0, 1, 0), (109, .istore 12, 2, 0), (111, .iload 5, 2, 0), (113, .iload 8, 2, 0), (115, .if_icmp .eq 10, 3, 0), (118, .iload 5, 2, 0), (120, .iload 9, 2, 0), (122, .if_icmp .ne 7, 3, 0), (125, .iconst 1, 1, 0), (126, .goto 4, 3, 0), (129, .iconst 0, 1, 0), (130, .istore 13, 2, 0), (132, .iload 10, 2, 0), (134, .ifCond .eq 8, 3, 0), (137, .iload 13, 2, 0), (139, .ifCond .ne 13, 3, 0), (142, .iload 11, 2, 0), (144, .ifCond .eq 12, 3, 0), (147, .iload 12, 2, 0), (149, .ifCond .eq 7, 3, 0), (152, .iconst 1, 1, 0), (153, .goto 4, 3, 0), (156, .iconst 0, 1, 0), (157, .ireturn, 1, 0)]
def r7 : List Row := [(0, .iload_n 1, 1, 0), (1, .iconst 1, 1, 0), (2, .if_icmp .lt 15, 3, 0), (5, .iload_n 1, 1, 0), (6, .aload_n 0, 1, 0), (7, .getfield 66, 3, 4), (10, .if_icmp .gt 7, 3, 0), (13, .iconst 1, 1, 0), (14, .goto 4, 3, 0), (17, .iconst 0, 1, 0), (18, .ireturn, 1, 0)]
def r8 : List Row := [(0, .iload_n 1, 1, 0), (1, .iconst 1, 1, 0), (2, .if_icmp .lt 15, 3, 0), (5, .iload_n 1, 1, 0), (6, .aload_n 0, 1, 0), (7, .getfield 49, 3, 0), (10, .if_icmp .gt 7, 3, 0), (13, .iconst 1, 1, 0), (14, .goto 4, 3, 0), (17, .iconst 0, 1, 0), (18, .ireturn, 1, 0)]
def r9 : List Row := [(0, .aload_n 0, 1, 0), (1, .getfield 66, 3, 4), (4, .bipush 32, 2, 0), (6, .if_icmp .lt 5, 3, 0), (9, .iconst (-1), 1, 0), (10, .ireturn, 1, 0), (11, .iload_n 1, 1, 0), (12, .iconst 1, 1, 0), (13, .if_icmp .eq 11, 3, 0), (16, .iload_n 1, 1, 0), (17, .iconst 2, 1, 0), (18, .if_icmp .eq 6, 3, 0), (21, .bipush (-2), 2, 0), (23, .ireturn, 1, 0), (24, .iload_n 2, 1, 0), (25, .ifCond .ne 7, 3, 0), (28, .iconst 1, 1, 0), (29, .goto 4, 3, 0), (32, .iconst 0, 1, 0), (33, .iload_n 3, 1, 0), (34, .ifCond .ne 7, 3, 0), (37, .iconst 1, 1, 0), (38, .goto 4, 3, 0), (41, .iconst 0, 1, 0), (42, .if_icmp .eq 6, 3, 0), (45, .bipush (-2), 2, 0), (47, .ireturn, 1, 0), (48, .iload_n 2, 1, 0), (49, .ifCond .eq 51, 3, 0), (52, .aload_n 0, 1, 0), (53, .iload_n 2, 1, 0), (54, .invokevirtual 99, 3, 7), (57, .ifCond .ne 6, 3, 0), (60, .bipush (-3), 2, 0), (62, .ireturn, 1, 0), (63, .aload_n 0, 1, 0), (64, .iload_n 3, 1, 0), (65, .invokevirtual 99, 3, 7), (68, .ifCond .ne 6, 3, 0), (71, .bipush (-3), 2, 0), (73, .ireturn, 1, 0), (74, .aload_n 0, 1, 0), (75, .getfield 7, 3, 5), (78, .iload_n 2, 1, 0), (79, .iaload, 1, 0), (80, .iconst 1, 1, 0), (81, .if_icmp .eq 6, 3, 0), (84, .bipush (-4), 2, 0), (86, .ireturn, 1, 0), (87, .aload_n 0, 1, 0), (88, .getfield 7, 3, 5), (91, .iload_n 3, 1, 0), (92, .iaload, 1, 0), (93, .iconst 2, 1, 0), (94, .if_icmp .eq 6, 3, 0), (97, .bipush (-4), 2, 0), (99, .ireturn, 1, 0), (100, .aload_n 0, 1, 0), (101, .dup, 1, 0), (102, .getfield 66, 3, 4), (105, .iconst 1, 1, 0), (106, .iadd, 1, 0), (107, .putfield 66, 3, 4), (110, .aload_n 0, 1, 0), (111, .getfield 7, 3, 5), (114, .aload_n 0, 1, 0), (115, .getfield 66, 3, 4), (118, .iload_n 1, 1, 0), (119, .iastore, 1, 0), (120, .aload_n 0, 1, 0), (121, .getfield 13, 3, 6), (124, .aload_n 0, 1, 0), (125, .getfield 66, 3, 4), (128, .iload_n 2, 1, 0), (129, .iastore, 1, 0), (130, .aload_n 0, 1, 0), (131, .getfield 16, 3, 7), (134, .aload_n 0, 1, 0), (135, .getfield 66, 3, 4), (138, .iload_n 3, 1, 0), (139, .iastore, 1, 0), (140, .aload_n 0, 1, 0), (141, .getfield 19, 3, 8), (144, .aload_n 0, 1, 0), (145, .getfield 66, 3, 4), (148, .iconst (-1), 1, 0), (149, .iastore, 1, 0), (150, .aload_n 0, 1, 0), (151, .getfield 22, 3, 9), (154, .aload_n 0, 1, 0), (155, .getfield 66, 3, 4), (158, .iconst 0, 1, 0), (159, .iastore, 1, 0), (160, .aload_n 0, 1, 0), (161, .getfield 25, 3, 10), (164, .aload_n 0, 1, 0), (165, .getfield 66, 3, 4), (168, .iconst 0, 1, 0), (169, .iastore, 1, 0), (170, .aload_n 0, 1, 0), (171, .iconst 0, 1, 0), (172, .putfield 73, 3, 13), (175, .aload_n 0, 1, 0), (176, .iconst 0, 1, 0), (177, .putfield 69, 3, 12), (180, .aload_n 0, 1, 0), (181, .getfield 66, 3, 4), (184, .ireturn, 1, 0)]
def r10 : List Row := [(0, .aload_n 0, 1, 0), (1, .iload_n 1, 1, 0), (2, .invokevirtual 99, 3, 7), (5, .ifCond .ne 6, 3, 0), (8, .bipush (-5), 2, 0), (10, .ireturn, 1, 0), (11, .aload_n 0, 1, 0), (12, .iload_n 2, 1, 0), (13, .invokevirtual 103, 3, 8), (16, .ifCond .eq 11, 3, 0), (19, .aload_n 0, 1, 0), (20, .iload_n 3, 1, 0), (21, .invokevirtual 103, 3, 8), (24, .ifCond .ne 6, 3, 0), (27, .bipush (-6), 2, 0), (29, .ireturn, 1, 0), (30, .aload_n 0, 1, 0), (31, .getfield 19, 3, 8), (34, .iload_n 1, 1, 0), (35, .aload_n 0, 1, 0), (36, .getfield 37, 3, 18), (39, .iload_n 2, 1, 0), (40, .iconst 5, 1, 0), (41, .imul, 1, 0), (42, .iload_n 3, 1, 0), (43, .iadd, 1, 0), (44, .iaload, 1, 0), (45, .iastore, 1, 0), (46, .aload_n 0, 1, 0), (47, .iconst 0, 1, 0), (48, .putfield 73, 3, 13), (51, .iconst 0, 1, 0), (52, .ireturn, 1, 0)]
def r29 : List Row := [(0, .aload_n 0, 1, 0), (1, .getfield 73, 3, 13), (4, .ifCond .eq 10, 3, 0), (7, .aload_n 0, 1, 0), (8, .getfield 76, 3, 14), (11, .goto 4, 3, 0), (14, .iconst 0, 1, 0), (15, .ireturn, 1, 0)]
def r31 : List Row := [(0, .aload_n 0, 1, 0), (1, .getfield 73, 3, 13), (4, .ifCond .eq 11, 3, 0), (7, .aload_n 0, 1, 0), (8, .iload_n 1, 1, 0), (9, .invokevirtual 99, 3, 7), (12, .ifCond .ne 5, 3, 0), (15, .iconst (-1), 1, 0), (16, .ireturn, 1, 0), (17, .aload_n 0, 1, 0), (18, .getfield 28, 3, 11), (21, .iload_n 1, 1, 0), (22, .iaload, 1, 0), (23, .istore_n 2, 1, 0), (24, .iconst 0, 1, 0), (25, .istore_n 3, 1, 0), (26, .iconst 0, 1, 0), (27, .istore 4, 2, 0), (29, .iload 4, 2, 0), (31, .bipush 10, 2, 0), (33, .if_icmp .ge 21, 3, 0), (36, .iload_n 2, 1, 0), (37, .iload 4, 2, 0), (39, .ishr, 1, 0), (40, .iconst 1, 1, 0), (41, .iand, 1, 0), (42, .ifCond .eq 6, 3, 0), (45, .iinc 3 1, 3, 0), (48, .iinc 4 1, 3, 0), (51, .goto (-22), 3, 0), (54, .iload_n 3, 1, 0), (55, .ireturn, 1, 0)]
def r32 : List Row := [(0, .aload_n 0, 1, 0), (1, .getfield 73, 3, 13), (4, .ifCond .eq 10, 3, 0), (7, .aload_n 0, 1, 0), (8, .getfield 79, 3, 15), (11, .goto 4, 3, 0), (14, .iconst (-1), 1, 0), (15, .ireturn, 1, 0)]
def r34 : List Row := [(0, .aload_n 0, 1, 0), (1, .getfield 66, 3, 4), (4, .ireturn, 1, 0)]
def prows : List (List Row) := [[], r1, r2, r3, r4, r5, r6, r7, r8, r9, r10, [], [], [], [], [], [], [], [], [], [], [], [], [], [], [], [], [], [], r29, [], r31, r32, [], r34]
def pinfo : List MInfo := [(0, 0, 9, none, {}), (3, 4, 3, none, { frames := 3, cells := 13, slots := 440, locals := 57 }), (2, 2, 2, some .int, { frames := 0, cells := 0, slots := 0, locals := 0 }), (1, 4, 2, none, { frames := 0, cells := 0, slots := 0, locals := 0 }), (1, 3, 2, none, { frames := 2, cells := 0, slots := 0, locals := 43 }), (3, 5, 2, some .int, { frames := 1, cells := 0, slots := 0, locals := 25 }), (4, 14, 2, some .boolean, { frames := 0, cells := 0, slots := 0, locals := 0 }), (2, 2, 2, some .boolean, { frames := 0, cells := 0, slots := 0, locals := 0 }), (2, 2, 2, some .boolean, { frames := 0, cells := 0, slots := 0, locals := 0 }), (4, 4, 1, some .int, { frames := 1, cells := 0, slots := 0, locals := 13 }), (4, 4, 1, some .int, { frames := 1, cells := 0, slots := 0, locals := 13 }), (2, 2, 1, some .int, { frames := 1, cells := 0, slots := 0, locals := 13 }), (2, 2, 1, none, { frames := 1, cells := 0, slots := 0, locals := 14 }), (1, 1, 2, some .int, { frames := 0, cells := 0, slots := 0, locals := 0 }), (2, 3, 2, some .int, { frames := 1, cells := 0, slots := 0, locals := 12 }), (1, 4, 1, some .int, { frames := 2, cells := 0, slots := 0, locals := 28 }), (2, 2, 1, some .int, { frames := 1, cells := 0, slots := 0, locals := 13 }), (3, 3, 1, some .int, { frames := 1, cells := 0, slots := 0, locals := 13 }), (1, 5, 1, some .int, { frames := 3, cells := 0, slots := 0, locals := 55 }), (1, 2, 2, none, { frames := 0, cells := 0, slots := 0, locals := 0 }), (1, 4, 2, none, { frames := 2, cells := 0, slots := 0, locals := 40 }), (1, 2, 2, some .boolean, { frames := 0, cells := 0, slots := 0, locals := 0 }), (2, 5, 2, some .boolean, { frames := 1, cells := 0, slots := 0, locals := 13 }), (2, 5, 2, none, { frames := 0, cells := 0, slots := 0, locals := 0 }), (2, 3, 2, some .boolean, { frames := 0, cells := 0, slots := 0, locals := 0 }), (2, 3, 2, none, { frames := 0, cells := 0, slots := 0, locals := 0 }), (2, 6, 2, some .boolean, { frames := 1, cells := 0, slots := 0, locals := 16 }), (2, 9, 2, some .boolean, { frames := 1, cells := 0, slots := 0, locals := 19 }), (5, 8, 2, some .boolean, { frames := 0, cells := 0, slots := 0, locals := 0 }), (1, 1, 1, some .int, { frames := 0, cells := 0, slots := 0, locals := 0 }), (4, 5, 1, some .boolean, { frames := 1, cells := 0, slots := 0, locals := 13 }), (2, 5, 1, some .int, { frames := 1, cells := 0, slots := 0, locals := 13 }), (1, 1, 1, some .int, { frames := 0, cells := 0, slots := 0, locals := 0 }), (2, 2, 1, some .int, { frames := 2, cells := 0, slots := 0, locals := 29 }), (1, 1, 1, some .int, { frames := 0, cells := 0, slots := 0, locals := 0 })]
def pft : List FieldType := [.int, .int, .int, .int, .int, .array .int, .array .int, .array .int, .array .int, .array .int, .array .int, .array .int, .boolean, .boolean, .int, .int, .array .int, .array .int, .array .int, .array .int, .array .int, .array .int, .int]
def pj (lw : LW) : Prog := (fun m pc => if m < 100 then (prows.getD m []).lookup pc else lw.1 (m - 100) pc, fun m => if m < 100 then pinfo.getD m (0, 0, 9, none, {}) else lw.2 (m - 100), fun k => pft.getD k .int, 23)
def lay : Lay := ([(.int, 0), (.int, 0), (.int, 0), (.int, 0), (.int, 0), (.array .int, 1), (.array .int, 2), (.array .int, 3), (.array .int, 4), (.array .int, 5), (.array .int, 6), (.array .int, 7), (.boolean, 0), (.boolean, 0), (.int, 0), (.int, 0), (.array .int, 8), (.array .int, 9), (.array .int, 10), (.array .int, 11), (.array .int, 12), (.array .int, 13), (.int, 0)], [(.int, 33), (.int, 33), (.int, 33), (.int, 33), (.int, 33), (.int, 33), (.int, 33), (.int, 10), (.int, 10), (.int, 25), (.int, 100), (.int, 32), (.int, 32)])
abbrev ob (H : AH) (p : Nat) (s : St) : AH := put lay 13 H p s
section Acc
variable {H : AH} {p : Nat} {s : St} {i : Int32} {j q : Nat} {v : Int32} {w : Int64}
theorem g0 : fld (put lay j H p s) p 0 = .int (sI s 0) := fld_I (ty := .int) rfl (by decide) (by simp)
theorem s0 : wr (put lay j H p s) p 0 (.int v) = put lay j H p (uI s 0 v) := wr_I (ty := .int) rfl (by decide) (by simp)
theorem g1 : fld (put lay j H p s) p 1 = .int (sI s 1) := fld_I (ty := .int) rfl (by decide) (by simp)
theorem s1 : wr (put lay j H p s) p 1 (.int v) = put lay j H p (uI s 1 v) := wr_I (ty := .int) rfl (by decide) (by simp)
theorem g2 : fld (put lay j H p s) p 2 = .int (sI s 2) := fld_I (ty := .int) rfl (by decide) (by simp)
theorem s2 : wr (put lay j H p s) p 2 (.int v) = put lay j H p (uI s 2 v) := wr_I (ty := .int) rfl (by decide) (by simp)
theorem g3 : fld (put lay j H p s) p 3 = .int (sI s 3) := fld_I (ty := .int) rfl (by decide) (by simp)
theorem s3 : wr (put lay j H p s) p 3 (.int v) = put lay j H p (uI s 3 v) := wr_I (ty := .int) rfl (by decide) (by simp)
theorem g4 : fld (put lay j H p s) p 4 = .int (sI s 4) := fld_I (ty := .int) rfl (by decide) (by simp)
theorem s4 : wr (put lay j H p s) p 4 (.int v) = put lay j H p (uI s 4 v) := wr_I (ty := .int) rfl (by decide) (by simp)
theorem g5 : fld (ob H p s) p 5 = .ref (p + 1) := fld_R (ty := .int) rfl (by decide)
theorem g6 : fld (ob H p s) p 6 = .ref (p + 2) := fld_R (ty := .int) rfl (by decide)
theorem g7 : fld (ob H p s) p 7 = .ref (p + 3) := fld_R (ty := .int) rfl (by decide)
theorem g8 : fld (ob H p s) p 8 = .ref (p + 4) := fld_R (ty := .int) rfl (by decide)
theorem g9 : fld (ob H p s) p 9 = .ref (p + 5) := fld_R (ty := .int) rfl (by decide)
theorem g10 : fld (ob H p s) p 10 = .ref (p + 6) := fld_R (ty := .int) rfl (by decide)
theorem g11 : fld (ob H p s) p 11 = .ref (p + 7) := fld_R (ty := .int) rfl (by decide)
theorem g12 : fld (put lay j H p s) p 12 = .int (sI s 12) := fld_I (ty := .boolean) rfl (by decide) (by simp)
theorem s12 : wr (put lay j H p s) p 12 (.int v) = put lay j H p (uI s 12 v) := wr_I (ty := .boolean) rfl (by decide) (by simp)
theorem g13 : fld (put lay j H p s) p 13 = .int (sI s 13) := fld_I (ty := .boolean) rfl (by decide) (by simp)
theorem s13 : wr (put lay j H p s) p 13 (.int v) = put lay j H p (uI s 13 v) := wr_I (ty := .boolean) rfl (by decide) (by simp)
theorem g14 : fld (put lay j H p s) p 14 = .int (sI s 14) := fld_I (ty := .int) rfl (by decide) (by simp)
theorem s14 : wr (put lay j H p s) p 14 (.int v) = put lay j H p (uI s 14 v) := wr_I (ty := .int) rfl (by decide) (by simp)
theorem g15 : fld (put lay j H p s) p 15 = .int (sI s 15) := fld_I (ty := .int) rfl (by decide) (by simp)
theorem s15 : wr (put lay j H p s) p 15 (.int v) = put lay j H p (uI s 15 v) := wr_I (ty := .int) rfl (by decide) (by simp)
theorem g16 : fld (ob H p s) p 16 = .ref (p + 8) := fld_R (ty := .int) rfl (by decide)
theorem g17 : fld (ob H p s) p 17 = .ref (p + 9) := fld_R (ty := .int) rfl (by decide)
theorem g18 : fld (ob H p s) p 18 = .ref (p + 10) := fld_R (ty := .int) rfl (by decide)
theorem g19 : fld (ob H p s) p 19 = .ref (p + 11) := fld_R (ty := .int) rfl (by decide)
theorem g20 : fld (ob H p s) p 20 = .ref (p + 12) := fld_R (ty := .int) rfl (by decide)
theorem g21 : fld (ob H p s) p 21 = .ref (p + 13) := fld_R (ty := .int) rfl (by decide)
theorem g22 : fld (put lay j H p s) p 22 = .int (sI s 22) := fld_I (ty := .int) rfl (by decide) (by simp)
theorem s22 : wr (put lay j H p s) p 22 (.int v) = put lay j H p (uI s 22 v) := wr_I (ty := .int) rfl (by decide) (by simp)
theorem ai1 : inA (ob H p s) (p + 1) .int i = true ↔ (0 ≤ i.toInt ∧ i.toInt < 33) := inA_I (t := 0) rfl (by decide) (by decide)
theorem aw1 : inAw (ob H p s) (p + 1) .int i = true ↔ (0 ≤ i.toInt ∧ i.toInt < 33) := inAw_I (t := 0) rfl (by decide) (by decide)
theorem ae1 : elt (ob H p s) (p + 1) i = .int (sA s 1 i.toNatClampNeg) := elt_I (t := 0) (ty := .int) rfl (by decide) (by decide)
theorem as1 : wr (ob H p s) (p + 1) q (.int v) = ob H p (uA s 1 q v) := wr_A (t := 0) (ty := .int) rfl (by decide) (by decide)
theorem ai2 : inA (ob H p s) (p + 2) .int i = true ↔ (0 ≤ i.toInt ∧ i.toInt < 33) := inA_I (t := 1) rfl (by decide) (by decide)
theorem aw2 : inAw (ob H p s) (p + 2) .int i = true ↔ (0 ≤ i.toInt ∧ i.toInt < 33) := inAw_I (t := 1) rfl (by decide) (by decide)
theorem ae2 : elt (ob H p s) (p + 2) i = .int (sA s 2 i.toNatClampNeg) := elt_I (t := 1) (ty := .int) rfl (by decide) (by decide)
theorem as2 : wr (ob H p s) (p + 2) q (.int v) = ob H p (uA s 2 q v) := wr_A (t := 1) (ty := .int) rfl (by decide) (by decide)
theorem ai3 : inA (ob H p s) (p + 3) .int i = true ↔ (0 ≤ i.toInt ∧ i.toInt < 33) := inA_I (t := 2) rfl (by decide) (by decide)
theorem aw3 : inAw (ob H p s) (p + 3) .int i = true ↔ (0 ≤ i.toInt ∧ i.toInt < 33) := inAw_I (t := 2) rfl (by decide) (by decide)
theorem ae3 : elt (ob H p s) (p + 3) i = .int (sA s 3 i.toNatClampNeg) := elt_I (t := 2) (ty := .int) rfl (by decide) (by decide)
theorem as3 : wr (ob H p s) (p + 3) q (.int v) = ob H p (uA s 3 q v) := wr_A (t := 2) (ty := .int) rfl (by decide) (by decide)
theorem ai4 : inA (ob H p s) (p + 4) .int i = true ↔ (0 ≤ i.toInt ∧ i.toInt < 33) := inA_I (t := 3) rfl (by decide) (by decide)
theorem aw4 : inAw (ob H p s) (p + 4) .int i = true ↔ (0 ≤ i.toInt ∧ i.toInt < 33) := inAw_I (t := 3) rfl (by decide) (by decide)
theorem ae4 : elt (ob H p s) (p + 4) i = .int (sA s 4 i.toNatClampNeg) := elt_I (t := 3) (ty := .int) rfl (by decide) (by decide)
theorem as4 : wr (ob H p s) (p + 4) q (.int v) = ob H p (uA s 4 q v) := wr_A (t := 3) (ty := .int) rfl (by decide) (by decide)
theorem ai5 : inA (ob H p s) (p + 5) .int i = true ↔ (0 ≤ i.toInt ∧ i.toInt < 33) := inA_I (t := 4) rfl (by decide) (by decide)
theorem aw5 : inAw (ob H p s) (p + 5) .int i = true ↔ (0 ≤ i.toInt ∧ i.toInt < 33) := inAw_I (t := 4) rfl (by decide) (by decide)
theorem ae5 : elt (ob H p s) (p + 5) i = .int (sA s 5 i.toNatClampNeg) := elt_I (t := 4) (ty := .int) rfl (by decide) (by decide)
theorem as5 : wr (ob H p s) (p + 5) q (.int v) = ob H p (uA s 5 q v) := wr_A (t := 4) (ty := .int) rfl (by decide) (by decide)
theorem ai6 : inA (ob H p s) (p + 6) .int i = true ↔ (0 ≤ i.toInt ∧ i.toInt < 33) := inA_I (t := 5) rfl (by decide) (by decide)
theorem aw6 : inAw (ob H p s) (p + 6) .int i = true ↔ (0 ≤ i.toInt ∧ i.toInt < 33) := inAw_I (t := 5) rfl (by decide) (by decide)
theorem ae6 : elt (ob H p s) (p + 6) i = .int (sA s 6 i.toNatClampNeg) := elt_I (t := 5) (ty := .int) rfl (by decide) (by decide)
theorem as6 : wr (ob H p s) (p + 6) q (.int v) = ob H p (uA s 6 q v) := wr_A (t := 5) (ty := .int) rfl (by decide) (by decide)
theorem ai7 : inA (ob H p s) (p + 7) .int i = true ↔ (0 ≤ i.toInt ∧ i.toInt < 33) := inA_I (t := 6) rfl (by decide) (by decide)
theorem aw7 : inAw (ob H p s) (p + 7) .int i = true ↔ (0 ≤ i.toInt ∧ i.toInt < 33) := inAw_I (t := 6) rfl (by decide) (by decide)
theorem ae7 : elt (ob H p s) (p + 7) i = .int (sA s 7 i.toNatClampNeg) := elt_I (t := 6) (ty := .int) rfl (by decide) (by decide)
theorem as7 : wr (ob H p s) (p + 7) q (.int v) = ob H p (uA s 7 q v) := wr_A (t := 6) (ty := .int) rfl (by decide) (by decide)
theorem ai8 : inA (ob H p s) (p + 8) .int i = true ↔ (0 ≤ i.toInt ∧ i.toInt < 10) := inA_I (t := 7) rfl (by decide) (by decide)
theorem aw8 : inAw (ob H p s) (p + 8) .int i = true ↔ (0 ≤ i.toInt ∧ i.toInt < 10) := inAw_I (t := 7) rfl (by decide) (by decide)
theorem ae8 : elt (ob H p s) (p + 8) i = .int (sA s 8 i.toNatClampNeg) := elt_I (t := 7) (ty := .int) rfl (by decide) (by decide)
theorem as8 : wr (ob H p s) (p + 8) q (.int v) = ob H p (uA s 8 q v) := wr_A (t := 7) (ty := .int) rfl (by decide) (by decide)
theorem ai9 : inA (ob H p s) (p + 9) .int i = true ↔ (0 ≤ i.toInt ∧ i.toInt < 10) := inA_I (t := 8) rfl (by decide) (by decide)
theorem aw9 : inAw (ob H p s) (p + 9) .int i = true ↔ (0 ≤ i.toInt ∧ i.toInt < 10) := inAw_I (t := 8) rfl (by decide) (by decide)
theorem ae9 : elt (ob H p s) (p + 9) i = .int (sA s 9 i.toNatClampNeg) := elt_I (t := 8) (ty := .int) rfl (by decide) (by decide)
theorem as9 : wr (ob H p s) (p + 9) q (.int v) = ob H p (uA s 9 q v) := wr_A (t := 8) (ty := .int) rfl (by decide) (by decide)
theorem ai10 : inA (ob H p s) (p + 10) .int i = true ↔ (0 ≤ i.toInt ∧ i.toInt < 25) := inA_I (t := 9) rfl (by decide) (by decide)
theorem aw10 : inAw (ob H p s) (p + 10) .int i = true ↔ (0 ≤ i.toInt ∧ i.toInt < 25) := inAw_I (t := 9) rfl (by decide) (by decide)
theorem ae10 : elt (ob H p s) (p + 10) i = .int (sA s 10 i.toNatClampNeg) := elt_I (t := 9) (ty := .int) rfl (by decide) (by decide)
theorem as10 : wr (ob H p s) (p + 10) q (.int v) = ob H p (uA s 10 q v) := wr_A (t := 9) (ty := .int) rfl (by decide) (by decide)
theorem ai11 : inA (ob H p s) (p + 11) .int i = true ↔ (0 ≤ i.toInt ∧ i.toInt < 100) := inA_I (t := 10) rfl (by decide) (by decide)
theorem aw11 : inAw (ob H p s) (p + 11) .int i = true ↔ (0 ≤ i.toInt ∧ i.toInt < 100) := inAw_I (t := 10) rfl (by decide) (by decide)
theorem ae11 : elt (ob H p s) (p + 11) i = .int (sA s 11 i.toNatClampNeg) := elt_I (t := 10) (ty := .int) rfl (by decide) (by decide)
theorem as11 : wr (ob H p s) (p + 11) q (.int v) = ob H p (uA s 11 q v) := wr_A (t := 10) (ty := .int) rfl (by decide) (by decide)
theorem ai12 : inA (ob H p s) (p + 12) .int i = true ↔ (0 ≤ i.toInt ∧ i.toInt < 32) := inA_I (t := 11) rfl (by decide) (by decide)
theorem aw12 : inAw (ob H p s) (p + 12) .int i = true ↔ (0 ≤ i.toInt ∧ i.toInt < 32) := inAw_I (t := 11) rfl (by decide) (by decide)
theorem ae12 : elt (ob H p s) (p + 12) i = .int (sA s 12 i.toNatClampNeg) := elt_I (t := 11) (ty := .int) rfl (by decide) (by decide)
theorem as12 : wr (ob H p s) (p + 12) q (.int v) = ob H p (uA s 12 q v) := wr_A (t := 11) (ty := .int) rfl (by decide) (by decide)
theorem ai13 : inA (ob H p s) (p + 13) .int i = true ↔ (0 ≤ i.toInt ∧ i.toInt < 32) := inA_I (t := 12) rfl (by decide) (by decide)
theorem aw13 : inAw (ob H p s) (p + 13) .int i = true ↔ (0 ≤ i.toInt ∧ i.toInt < 32) := inAw_I (t := 12) rfl (by decide) (by decide)
theorem ae13 : elt (ob H p s) (p + 13) i = .int (sA s 13 i.toNatClampNeg) := elt_I (t := 12) (ty := .int) rfl (by decide) (by decide)
theorem as13 : wr (ob H p s) (p + 13) q (.int v) = ob H p (uA s 13 q v) := wr_A (t := 12) (ty := .int) rfl (by decide) (by decide)
theorem mkO_ob {lw : LW} : mkO (pj lw) H = put lay 0 (H.1 + 1, H.2) H.1 z0 := mkO_put rfl (fun k => match k with | 0 => rfl | 1 => rfl | 2 => rfl | 3 => rfl | 4 => rfl | 5 => rfl | 6 => rfl | 7 => rfl | 8 => rfl | 9 => rfl | 10 => rfl | 11 => rfl | 12 => rfl | 13 => rfl | 14 => rfl | 15 => rfl | 16 => rfl | 17 => rfl | 18 => rfl | 19 => rfl | 20 => rfl | 21 => rfl | 22 => rfl | (_ + 23) => rfl)
theorem mk1 {h : Nat → Cel} (hz : zr s 1) : wr (mkA .int 33 (put lay 0 (p + 1, h) p s)) p 5 (.ref (p + 1)) = put lay 1 (p + 2, h) p s := mkA_put (j := 0) rfl rfl (by decide) hz.1 hz.2 (Or.inl rfl)
theorem io1 {h : Nat → Cel} : isOw (mkA .int 33 (put lay 0 (p + 1, h) p s)) p = true := isOw_mk (c := 0)
theorem mk2 {h : Nat → Cel} (hz : zr s 2) : wr (mkA .int 33 (put lay 1 (p + 2, h) p s)) p 6 (.ref (p + 2)) = put lay 2 (p + 3, h) p s := mkA_put (j := 1) rfl rfl (by decide) hz.1 hz.2 (Or.inl rfl)
theorem io2 {h : Nat → Cel} : isOw (mkA .int 33 (put lay 1 (p + 2, h) p s)) p = true := isOw_mk (c := 1)
theorem mk3 {h : Nat → Cel} (hz : zr s 3) : wr (mkA .int 33 (put lay 2 (p + 3, h) p s)) p 7 (.ref (p + 3)) = put lay 3 (p + 4, h) p s := mkA_put (j := 2) rfl rfl (by decide) hz.1 hz.2 (Or.inl rfl)
theorem io3 {h : Nat → Cel} : isOw (mkA .int 33 (put lay 2 (p + 3, h) p s)) p = true := isOw_mk (c := 2)
theorem mk4 {h : Nat → Cel} (hz : zr s 4) : wr (mkA .int 33 (put lay 3 (p + 4, h) p s)) p 8 (.ref (p + 4)) = put lay 4 (p + 5, h) p s := mkA_put (j := 3) rfl rfl (by decide) hz.1 hz.2 (Or.inl rfl)
theorem io4 {h : Nat → Cel} : isOw (mkA .int 33 (put lay 3 (p + 4, h) p s)) p = true := isOw_mk (c := 3)
theorem mk5 {h : Nat → Cel} (hz : zr s 5) : wr (mkA .int 33 (put lay 4 (p + 5, h) p s)) p 9 (.ref (p + 5)) = put lay 5 (p + 6, h) p s := mkA_put (j := 4) rfl rfl (by decide) hz.1 hz.2 (Or.inl rfl)
theorem io5 {h : Nat → Cel} : isOw (mkA .int 33 (put lay 4 (p + 5, h) p s)) p = true := isOw_mk (c := 4)
theorem mk6 {h : Nat → Cel} (hz : zr s 6) : wr (mkA .int 33 (put lay 5 (p + 6, h) p s)) p 10 (.ref (p + 6)) = put lay 6 (p + 7, h) p s := mkA_put (j := 5) rfl rfl (by decide) hz.1 hz.2 (Or.inl rfl)
theorem io6 {h : Nat → Cel} : isOw (mkA .int 33 (put lay 5 (p + 6, h) p s)) p = true := isOw_mk (c := 5)
theorem mk7 {h : Nat → Cel} (hz : zr s 7) : wr (mkA .int 33 (put lay 6 (p + 7, h) p s)) p 11 (.ref (p + 7)) = put lay 7 (p + 8, h) p s := mkA_put (j := 6) rfl rfl (by decide) hz.1 hz.2 (Or.inl rfl)
theorem io7 {h : Nat → Cel} : isOw (mkA .int 33 (put lay 6 (p + 7, h) p s)) p = true := isOw_mk (c := 6)
theorem mk8 {h : Nat → Cel} (hz : zr s 8) : wr (mkA .int 10 (put lay 7 (p + 8, h) p s)) p 16 (.ref (p + 8)) = put lay 8 (p + 9, h) p s := mkA_put (j := 7) rfl rfl (by decide) hz.1 hz.2 (Or.inl rfl)
theorem io8 {h : Nat → Cel} : isOw (mkA .int 10 (put lay 7 (p + 8, h) p s)) p = true := isOw_mk (c := 7)
theorem mk9 {h : Nat → Cel} (hz : zr s 9) : wr (mkA .int 10 (put lay 8 (p + 9, h) p s)) p 17 (.ref (p + 9)) = put lay 9 (p + 10, h) p s := mkA_put (j := 8) rfl rfl (by decide) hz.1 hz.2 (Or.inl rfl)
theorem io9 {h : Nat → Cel} : isOw (mkA .int 10 (put lay 8 (p + 9, h) p s)) p = true := isOw_mk (c := 8)
theorem mk10 {h : Nat → Cel} (hz : zr s 10) : wr (mkA .int 25 (put lay 9 (p + 10, h) p s)) p 18 (.ref (p + 10)) = put lay 10 (p + 11, h) p s := mkA_put (j := 9) rfl rfl (by decide) hz.1 hz.2 (Or.inl rfl)
theorem io10 {h : Nat → Cel} : isOw (mkA .int 25 (put lay 9 (p + 10, h) p s)) p = true := isOw_mk (c := 9)
theorem mk11 {h : Nat → Cel} (hz : zr s 11) : wr (mkA .int 100 (put lay 10 (p + 11, h) p s)) p 19 (.ref (p + 11)) = put lay 11 (p + 12, h) p s := mkA_put (j := 10) rfl rfl (by decide) hz.1 hz.2 (Or.inl rfl)
theorem io11 {h : Nat → Cel} : isOw (mkA .int 100 (put lay 10 (p + 11, h) p s)) p = true := isOw_mk (c := 10)
theorem mk12 {h : Nat → Cel} (hz : zr s 12) : wr (mkA .int 32 (put lay 11 (p + 12, h) p s)) p 20 (.ref (p + 12)) = put lay 12 (p + 13, h) p s := mkA_put (j := 11) rfl rfl (by decide) hz.1 hz.2 (Or.inl rfl)
theorem io12 {h : Nat → Cel} : isOw (mkA .int 32 (put lay 11 (p + 12, h) p s)) p = true := isOw_mk (c := 11)
theorem mk13 {h : Nat → Cel} (hz : zr s 13) : wr (mkA .int 32 (put lay 12 (p + 13, h) p s)) p 21 (.ref (p + 13)) = put lay 13 (p + 14, h) p s := mkA_put (j := 12) rfl rfl (by decide) hz.1 hz.2 (Or.inl rfl)
theorem io13 {h : Nat → Cel} : isOw (mkA .int 32 (put lay 12 (p + 13, h) p s)) p = true := isOw_mk (c := 12)
end Acc
section Pc
variable {lw : LW} {L : List Slot} {S : List Value} {k n : Nat} {H : AH} {Q : Option Value → AH → Prop}
theorem c1 {x0 : Nat} {x1 : Int32} {x2 : Int32} : Cl (pj lw) 1 [.ref x0, .int x1, .int x2] H Q ↔ W (pj lw) 1 0 [.val (.ref x0), .val (.int x1), .val (.int x2), .unset] [] 0 0 H Q := cl_unf rfl
theorem w1_0 {x : Nat} : W (pj lw) 1 0 (.val (.ref x) :: L) S k n H Q ↔ W (pj lw) 1 1 (.val (.ref x) :: L) (.ref x :: S) k n H Q := W_s (rfl : (pj lw).1 1 0 = some (.aload_n 0, 1, 0)) rfl rfl rfl
theorem w1_1 {a : Nat} : W (pj lw) 1 1 L (.ref a :: S) k n H Q ↔ ((1 ≤ 3 ∧ cs S + 12 ≤ 57) ∧ W (pj lw) 1 4 L S k n H Q) := W_oinit (rfl : (pj lw).1 1 1 = some (.invokespecial 1, 3, (-1)))
theorem w1_4 {x : Nat} : W (pj lw) 1 4 (.val (.ref x) :: L) S k n H Q ↔ W (pj lw) 1 5 (.val (.ref x) :: L) (.ref x :: S) k n H Q := W_s (rfl : (pj lw).1 1 4 = some (.aload_n 0, 1, 0)) rfl rfl rfl
theorem w1_5 : W (pj lw) 1 5 L S k n H Q ↔ W (pj lw) 1 7 L (.int 33 :: S) k n H Q := W_s (rfl : (pj lw).1 1 5 = some (.bipush 33, 2, 0)) rfl rfl rfl
theorem w1_7 : W (pj lw) 1 7 L (.int 33 :: S) k n H Q ↔ ((k + 1 ≤ 13 ∧ n + 33 ≤ 440) ∧ W (pj lw) 1 9 L (.ref H.1 :: S) (k + 1) (n + 33) (mkA .int 33 H) Q) := W_newarr' (rfl : (pj lw).1 1 7 = some (.newarray .int, 2, 0)) rfl (by decide) (by decide)
theorem w1_9 {a : Nat} {v : Value} : W (pj lw) 1 9 L (v :: .ref a :: S) k n H Q ↔ ((isOw H a = true ∧ okv (.array .int) v = true) ∧ W (pj lw) 1 12 L S k n (wr H a 5 v) Q) := W_putf (rfl : (pj lw).1 1 9 = some (.putfield 7, 3, 5))
theorem w1_12 {x : Nat} : W (pj lw) 1 12 (.val (.ref x) :: L) S k n H Q ↔ W (pj lw) 1 13 (.val (.ref x) :: L) (.ref x :: S) k n H Q := W_s (rfl : (pj lw).1 1 12 = some (.aload_n 0, 1, 0)) rfl rfl rfl
theorem w1_13 : W (pj lw) 1 13 L S k n H Q ↔ W (pj lw) 1 15 L (.int 33 :: S) k n H Q := W_s (rfl : (pj lw).1 1 13 = some (.bipush 33, 2, 0)) rfl rfl rfl
theorem w1_15 : W (pj lw) 1 15 L (.int 33 :: S) k n H Q ↔ ((k + 1 ≤ 13 ∧ n + 33 ≤ 440) ∧ W (pj lw) 1 17 L (.ref H.1 :: S) (k + 1) (n + 33) (mkA .int 33 H) Q) := W_newarr' (rfl : (pj lw).1 1 15 = some (.newarray .int, 2, 0)) rfl (by decide) (by decide)
theorem w1_17 {a : Nat} {v : Value} : W (pj lw) 1 17 L (v :: .ref a :: S) k n H Q ↔ ((isOw H a = true ∧ okv (.array .int) v = true) ∧ W (pj lw) 1 20 L S k n (wr H a 6 v) Q) := W_putf (rfl : (pj lw).1 1 17 = some (.putfield 13, 3, 6))
theorem w1_20 {x : Nat} : W (pj lw) 1 20 (.val (.ref x) :: L) S k n H Q ↔ W (pj lw) 1 21 (.val (.ref x) :: L) (.ref x :: S) k n H Q := W_s (rfl : (pj lw).1 1 20 = some (.aload_n 0, 1, 0)) rfl rfl rfl
theorem w1_21 : W (pj lw) 1 21 L S k n H Q ↔ W (pj lw) 1 23 L (.int 33 :: S) k n H Q := W_s (rfl : (pj lw).1 1 21 = some (.bipush 33, 2, 0)) rfl rfl rfl
theorem w1_23 : W (pj lw) 1 23 L (.int 33 :: S) k n H Q ↔ ((k + 1 ≤ 13 ∧ n + 33 ≤ 440) ∧ W (pj lw) 1 25 L (.ref H.1 :: S) (k + 1) (n + 33) (mkA .int 33 H) Q) := W_newarr' (rfl : (pj lw).1 1 23 = some (.newarray .int, 2, 0)) rfl (by decide) (by decide)
theorem w1_25 {a : Nat} {v : Value} : W (pj lw) 1 25 L (v :: .ref a :: S) k n H Q ↔ ((isOw H a = true ∧ okv (.array .int) v = true) ∧ W (pj lw) 1 28 L S k n (wr H a 7 v) Q) := W_putf (rfl : (pj lw).1 1 25 = some (.putfield 16, 3, 7))
theorem w1_28 {x : Nat} : W (pj lw) 1 28 (.val (.ref x) :: L) S k n H Q ↔ W (pj lw) 1 29 (.val (.ref x) :: L) (.ref x :: S) k n H Q := W_s (rfl : (pj lw).1 1 28 = some (.aload_n 0, 1, 0)) rfl rfl rfl
theorem w1_29 : W (pj lw) 1 29 L S k n H Q ↔ W (pj lw) 1 31 L (.int 33 :: S) k n H Q := W_s (rfl : (pj lw).1 1 29 = some (.bipush 33, 2, 0)) rfl rfl rfl
theorem w1_31 : W (pj lw) 1 31 L (.int 33 :: S) k n H Q ↔ ((k + 1 ≤ 13 ∧ n + 33 ≤ 440) ∧ W (pj lw) 1 33 L (.ref H.1 :: S) (k + 1) (n + 33) (mkA .int 33 H) Q) := W_newarr' (rfl : (pj lw).1 1 31 = some (.newarray .int, 2, 0)) rfl (by decide) (by decide)
theorem w1_33 {a : Nat} {v : Value} : W (pj lw) 1 33 L (v :: .ref a :: S) k n H Q ↔ ((isOw H a = true ∧ okv (.array .int) v = true) ∧ W (pj lw) 1 36 L S k n (wr H a 8 v) Q) := W_putf (rfl : (pj lw).1 1 33 = some (.putfield 19, 3, 8))
theorem w1_36 {x : Nat} : W (pj lw) 1 36 (.val (.ref x) :: L) S k n H Q ↔ W (pj lw) 1 37 (.val (.ref x) :: L) (.ref x :: S) k n H Q := W_s (rfl : (pj lw).1 1 36 = some (.aload_n 0, 1, 0)) rfl rfl rfl
theorem w1_37 : W (pj lw) 1 37 L S k n H Q ↔ W (pj lw) 1 39 L (.int 33 :: S) k n H Q := W_s (rfl : (pj lw).1 1 37 = some (.bipush 33, 2, 0)) rfl rfl rfl
theorem w1_39 : W (pj lw) 1 39 L (.int 33 :: S) k n H Q ↔ ((k + 1 ≤ 13 ∧ n + 33 ≤ 440) ∧ W (pj lw) 1 41 L (.ref H.1 :: S) (k + 1) (n + 33) (mkA .int 33 H) Q) := W_newarr' (rfl : (pj lw).1 1 39 = some (.newarray .int, 2, 0)) rfl (by decide) (by decide)
theorem w1_41 {a : Nat} {v : Value} : W (pj lw) 1 41 L (v :: .ref a :: S) k n H Q ↔ ((isOw H a = true ∧ okv (.array .int) v = true) ∧ W (pj lw) 1 44 L S k n (wr H a 9 v) Q) := W_putf (rfl : (pj lw).1 1 41 = some (.putfield 22, 3, 9))
theorem w1_44 {x : Nat} : W (pj lw) 1 44 (.val (.ref x) :: L) S k n H Q ↔ W (pj lw) 1 45 (.val (.ref x) :: L) (.ref x :: S) k n H Q := W_s (rfl : (pj lw).1 1 44 = some (.aload_n 0, 1, 0)) rfl rfl rfl
theorem w1_45 : W (pj lw) 1 45 L S k n H Q ↔ W (pj lw) 1 47 L (.int 33 :: S) k n H Q := W_s (rfl : (pj lw).1 1 45 = some (.bipush 33, 2, 0)) rfl rfl rfl
theorem w1_47 : W (pj lw) 1 47 L (.int 33 :: S) k n H Q ↔ ((k + 1 ≤ 13 ∧ n + 33 ≤ 440) ∧ W (pj lw) 1 49 L (.ref H.1 :: S) (k + 1) (n + 33) (mkA .int 33 H) Q) := W_newarr' (rfl : (pj lw).1 1 47 = some (.newarray .int, 2, 0)) rfl (by decide) (by decide)
theorem w1_49 {a : Nat} {v : Value} : W (pj lw) 1 49 L (v :: .ref a :: S) k n H Q ↔ ((isOw H a = true ∧ okv (.array .int) v = true) ∧ W (pj lw) 1 52 L S k n (wr H a 10 v) Q) := W_putf (rfl : (pj lw).1 1 49 = some (.putfield 25, 3, 10))
theorem w1_52 {x : Nat} : W (pj lw) 1 52 (.val (.ref x) :: L) S k n H Q ↔ W (pj lw) 1 53 (.val (.ref x) :: L) (.ref x :: S) k n H Q := W_s (rfl : (pj lw).1 1 52 = some (.aload_n 0, 1, 0)) rfl rfl rfl
theorem w1_53 : W (pj lw) 1 53 L S k n H Q ↔ W (pj lw) 1 55 L (.int 33 :: S) k n H Q := W_s (rfl : (pj lw).1 1 53 = some (.bipush 33, 2, 0)) rfl rfl rfl
theorem w1_55 : W (pj lw) 1 55 L (.int 33 :: S) k n H Q ↔ ((k + 1 ≤ 13 ∧ n + 33 ≤ 440) ∧ W (pj lw) 1 57 L (.ref H.1 :: S) (k + 1) (n + 33) (mkA .int 33 H) Q) := W_newarr' (rfl : (pj lw).1 1 55 = some (.newarray .int, 2, 0)) rfl (by decide) (by decide)
theorem w1_57 {a : Nat} {v : Value} : W (pj lw) 1 57 L (v :: .ref a :: S) k n H Q ↔ ((isOw H a = true ∧ okv (.array .int) v = true) ∧ W (pj lw) 1 60 L S k n (wr H a 11 v) Q) := W_putf (rfl : (pj lw).1 1 57 = some (.putfield 28, 3, 11))
theorem w1_60 {x : Nat} : W (pj lw) 1 60 (.val (.ref x) :: L) S k n H Q ↔ W (pj lw) 1 61 (.val (.ref x) :: L) (.ref x :: S) k n H Q := W_s (rfl : (pj lw).1 1 60 = some (.aload_n 0, 1, 0)) rfl rfl rfl
theorem w1_61 : W (pj lw) 1 61 L S k n H Q ↔ W (pj lw) 1 63 L (.int 10 :: S) k n H Q := W_s (rfl : (pj lw).1 1 61 = some (.bipush 10, 2, 0)) rfl rfl rfl
theorem w1_63 : W (pj lw) 1 63 L (.int 10 :: S) k n H Q ↔ ((k + 1 ≤ 13 ∧ n + 10 ≤ 440) ∧ W (pj lw) 1 65 L (.ref H.1 :: S) (k + 1) (n + 10) (mkA .int 10 H) Q) := W_newarr' (rfl : (pj lw).1 1 63 = some (.newarray .int, 2, 0)) rfl (by decide) (by decide)
theorem w1_65 {a : Nat} {v : Value} : W (pj lw) 1 65 L (v :: .ref a :: S) k n H Q ↔ ((isOw H a = true ∧ okv (.array .int) v = true) ∧ W (pj lw) 1 68 L S k n (wr H a 16 v) Q) := W_putf (rfl : (pj lw).1 1 65 = some (.putfield 31, 3, 16))
theorem w1_68 {x : Nat} : W (pj lw) 1 68 (.val (.ref x) :: L) S k n H Q ↔ W (pj lw) 1 69 (.val (.ref x) :: L) (.ref x :: S) k n H Q := W_s (rfl : (pj lw).1 1 68 = some (.aload_n 0, 1, 0)) rfl rfl rfl
theorem w1_69 : W (pj lw) 1 69 L S k n H Q ↔ W (pj lw) 1 71 L (.int 10 :: S) k n H Q := W_s (rfl : (pj lw).1 1 69 = some (.bipush 10, 2, 0)) rfl rfl rfl
theorem w1_71 : W (pj lw) 1 71 L (.int 10 :: S) k n H Q ↔ ((k + 1 ≤ 13 ∧ n + 10 ≤ 440) ∧ W (pj lw) 1 73 L (.ref H.1 :: S) (k + 1) (n + 10) (mkA .int 10 H) Q) := W_newarr' (rfl : (pj lw).1 1 71 = some (.newarray .int, 2, 0)) rfl (by decide) (by decide)
theorem w1_73 {a : Nat} {v : Value} : W (pj lw) 1 73 L (v :: .ref a :: S) k n H Q ↔ ((isOw H a = true ∧ okv (.array .int) v = true) ∧ W (pj lw) 1 76 L S k n (wr H a 17 v) Q) := W_putf (rfl : (pj lw).1 1 73 = some (.putfield 34, 3, 17))
theorem w1_76 {x : Nat} : W (pj lw) 1 76 (.val (.ref x) :: L) S k n H Q ↔ W (pj lw) 1 77 (.val (.ref x) :: L) (.ref x :: S) k n H Q := W_s (rfl : (pj lw).1 1 76 = some (.aload_n 0, 1, 0)) rfl rfl rfl
theorem w1_77 : W (pj lw) 1 77 L S k n H Q ↔ W (pj lw) 1 79 L (.int 25 :: S) k n H Q := W_s (rfl : (pj lw).1 1 77 = some (.bipush 25, 2, 0)) rfl rfl rfl
theorem w1_79 : W (pj lw) 1 79 L (.int 25 :: S) k n H Q ↔ ((k + 1 ≤ 13 ∧ n + 25 ≤ 440) ∧ W (pj lw) 1 81 L (.ref H.1 :: S) (k + 1) (n + 25) (mkA .int 25 H) Q) := W_newarr' (rfl : (pj lw).1 1 79 = some (.newarray .int, 2, 0)) rfl (by decide) (by decide)
theorem w1_81 {a : Nat} {v : Value} : W (pj lw) 1 81 L (v :: .ref a :: S) k n H Q ↔ ((isOw H a = true ∧ okv (.array .int) v = true) ∧ W (pj lw) 1 84 L S k n (wr H a 18 v) Q) := W_putf (rfl : (pj lw).1 1 81 = some (.putfield 37, 3, 18))
theorem w1_84 {x : Nat} : W (pj lw) 1 84 (.val (.ref x) :: L) S k n H Q ↔ W (pj lw) 1 85 (.val (.ref x) :: L) (.ref x :: S) k n H Q := W_s (rfl : (pj lw).1 1 84 = some (.aload_n 0, 1, 0)) rfl rfl rfl
theorem w1_85 : W (pj lw) 1 85 L S k n H Q ↔ W (pj lw) 1 87 L (.int 100 :: S) k n H Q := W_s (rfl : (pj lw).1 1 85 = some (.bipush 100, 2, 0)) rfl rfl rfl
theorem w1_87 : W (pj lw) 1 87 L (.int 100 :: S) k n H Q ↔ ((k + 1 ≤ 13 ∧ n + 100 ≤ 440) ∧ W (pj lw) 1 89 L (.ref H.1 :: S) (k + 1) (n + 100) (mkA .int 100 H) Q) := W_newarr' (rfl : (pj lw).1 1 87 = some (.newarray .int, 2, 0)) rfl (by decide) (by decide)
theorem w1_89 {a : Nat} {v : Value} : W (pj lw) 1 89 L (v :: .ref a :: S) k n H Q ↔ ((isOw H a = true ∧ okv (.array .int) v = true) ∧ W (pj lw) 1 92 L S k n (wr H a 19 v) Q) := W_putf (rfl : (pj lw).1 1 89 = some (.putfield 40, 3, 19))
theorem w1_92 {x : Nat} : W (pj lw) 1 92 (.val (.ref x) :: L) S k n H Q ↔ W (pj lw) 1 93 (.val (.ref x) :: L) (.ref x :: S) k n H Q := W_s (rfl : (pj lw).1 1 92 = some (.aload_n 0, 1, 0)) rfl rfl rfl
theorem w1_93 : W (pj lw) 1 93 L S k n H Q ↔ W (pj lw) 1 95 L (.int 32 :: S) k n H Q := W_s (rfl : (pj lw).1 1 93 = some (.bipush 32, 2, 0)) rfl rfl rfl
theorem w1_95 : W (pj lw) 1 95 L (.int 32 :: S) k n H Q ↔ ((k + 1 ≤ 13 ∧ n + 32 ≤ 440) ∧ W (pj lw) 1 97 L (.ref H.1 :: S) (k + 1) (n + 32) (mkA .int 32 H) Q) := W_newarr' (rfl : (pj lw).1 1 95 = some (.newarray .int, 2, 0)) rfl (by decide) (by decide)
theorem w1_97 {a : Nat} {v : Value} : W (pj lw) 1 97 L (v :: .ref a :: S) k n H Q ↔ ((isOw H a = true ∧ okv (.array .int) v = true) ∧ W (pj lw) 1 100 L S k n (wr H a 20 v) Q) := W_putf (rfl : (pj lw).1 1 97 = some (.putfield 43, 3, 20))
theorem w1_100 {x : Nat} : W (pj lw) 1 100 (.val (.ref x) :: L) S k n H Q ↔ W (pj lw) 1 101 (.val (.ref x) :: L) (.ref x :: S) k n H Q := W_s (rfl : (pj lw).1 1 100 = some (.aload_n 0, 1, 0)) rfl rfl rfl
theorem w1_101 : W (pj lw) 1 101 L S k n H Q ↔ W (pj lw) 1 103 L (.int 32 :: S) k n H Q := W_s (rfl : (pj lw).1 1 101 = some (.bipush 32, 2, 0)) rfl rfl rfl
theorem w1_103 : W (pj lw) 1 103 L (.int 32 :: S) k n H Q ↔ ((k + 1 ≤ 13 ∧ n + 32 ≤ 440) ∧ W (pj lw) 1 105 L (.ref H.1 :: S) (k + 1) (n + 32) (mkA .int 32 H) Q) := W_newarr' (rfl : (pj lw).1 1 103 = some (.newarray .int, 2, 0)) rfl (by decide) (by decide)
theorem w1_105 {a : Nat} {v : Value} : W (pj lw) 1 105 L (v :: .ref a :: S) k n H Q ↔ ((isOw H a = true ∧ okv (.array .int) v = true) ∧ W (pj lw) 1 108 L S k n (wr H a 21 v) Q) := W_putf (rfl : (pj lw).1 1 105 = some (.putfield 46, 3, 21))
theorem w1_108 {x : Int32} {l0 : Slot} : W (pj lw) 1 108 (l0 :: .val (.int x) :: L) S k n H Q ↔ W (pj lw) 1 109 (l0 :: .val (.int x) :: L) (.int x :: S) k n H Q := W_s (rfl : (pj lw).1 1 108 = some (.iload_n 1, 1, 0)) rfl rfl rfl
theorem w1_109 {x : Int32} {l0 l1 l2 : Slot} : W (pj lw) 1 109 (l0 :: l1 :: l2 :: .unset :: L) (.int x :: S) k n H Q ↔ W (pj lw) 1 110 (l0 :: l1 :: l2 :: .val (.int x) :: L) S k n H Q := W_istn (rfl : (pj lw).1 1 109 = some (.istore_n 3, 1, 0)) rfl rfl
theorem w1_110 {x : Int32} {l0 l1 l2 : Slot} : W (pj lw) 1 110 (l0 :: l1 :: l2 :: .val (.int x) :: L) S k n H Q ↔ W (pj lw) 1 111 (l0 :: l1 :: l2 :: .val (.int x) :: L) (.int x :: S) k n H Q := W_s (rfl : (pj lw).1 1 110 = some (.iload_n 3, 1, 0)) rfl rfl rfl
theorem w1_111 : W (pj lw) 1 111 L S k n H Q ↔ W (pj lw) 1 112 L (.int 2 :: S) k n H Q := W_s (rfl : (pj lw).1 1 111 = some (.iconst 2, 1, 0)) rfl rfl rfl
theorem w1_112 {x y : Int32} : W (pj lw) 1 112 L (.int y :: .int x :: S) k n H Q ↔ (if x < y then W (pj lw) 1 115 L S k n H Q else W (pj lw) 1 117 L S k n H Q) := W_icmp_ge (rfl : (pj lw).1 1 112 = some (.if_icmp .ge 5, 3, 0)) rfl
theorem w1_115 : W (pj lw) 1 115 L S k n H Q ↔ W (pj lw) 1 116 L (.int 2 :: S) k n H Q := W_s (rfl : (pj lw).1 1 115 = some (.iconst 2, 1, 0)) rfl rfl rfl
theorem w1_116i {y : Int32} {x : Int32} {l0 l1 l2 : Slot} : W (pj lw) 1 116 (l0 :: l1 :: l2 :: .val (.int y) :: L) (.int x :: S) k n H Q ↔ W (pj lw) 1 117 (l0 :: l1 :: l2 :: .val (.int x) :: L) S k n H Q := W_istn (rfl : (pj lw).1 1 116 = some (.istore_n 3, 1, 0)) rfl rfl
theorem w1_117 {x : Int32} {l0 l1 l2 : Slot} : W (pj lw) 1 117 (l0 :: l1 :: l2 :: .val (.int x) :: L) S k n H Q ↔ W (pj lw) 1 118 (l0 :: l1 :: l2 :: .val (.int x) :: L) (.int x :: S) k n H Q := W_s (rfl : (pj lw).1 1 117 = some (.iload_n 3, 1, 0)) rfl rfl rfl
theorem w1_118 : W (pj lw) 1 118 L S k n H Q ↔ W (pj lw) 1 119 L (.int 4 :: S) k n H Q := W_s (rfl : (pj lw).1 1 118 = some (.iconst 4, 1, 0)) rfl rfl rfl
theorem w1_119 {x y : Int32} : W (pj lw) 1 119 L (.int y :: .int x :: S) k n H Q ↔ (if y < x then W (pj lw) 1 122 L S k n H Q else W (pj lw) 1 124 L S k n H Q) := W_icmp_le (rfl : (pj lw).1 1 119 = some (.if_icmp .le 5, 3, 0)) rfl
theorem w1_122 : W (pj lw) 1 122 L S k n H Q ↔ W (pj lw) 1 123 L (.int 4 :: S) k n H Q := W_s (rfl : (pj lw).1 1 122 = some (.iconst 4, 1, 0)) rfl rfl rfl
theorem w1_123i {y : Int32} {x : Int32} {l0 l1 l2 : Slot} : W (pj lw) 1 123 (l0 :: l1 :: l2 :: .val (.int y) :: L) (.int x :: S) k n H Q ↔ W (pj lw) 1 124 (l0 :: l1 :: l2 :: .val (.int x) :: L) S k n H Q := W_istn (rfl : (pj lw).1 1 123 = some (.istore_n 3, 1, 0)) rfl rfl
theorem w1_124 {x : Nat} : W (pj lw) 1 124 (.val (.ref x) :: L) S k n H Q ↔ W (pj lw) 1 125 (.val (.ref x) :: L) (.ref x :: S) k n H Q := W_s (rfl : (pj lw).1 1 124 = some (.aload_n 0, 1, 0)) rfl rfl rfl
theorem w1_125 {x : Int32} {l0 l1 l2 : Slot} : W (pj lw) 1 125 (l0 :: l1 :: l2 :: .val (.int x) :: L) S k n H Q ↔ W (pj lw) 1 126 (l0 :: l1 :: l2 :: .val (.int x) :: L) (.int x :: S) k n H Q := W_s (rfl : (pj lw).1 1 125 = some (.iload_n 3, 1, 0)) rfl rfl rfl
theorem w1_126 {a : Nat} {v : Value} : W (pj lw) 1 126 L (v :: .ref a :: S) k n H Q ↔ ((isOw H a = true ∧ okv (.int) v = true) ∧ W (pj lw) 1 129 L S k n (wr H a 0 v) Q) := W_putf (rfl : (pj lw).1 1 126 = some (.putfield 49, 3, 0))
theorem w1_129 {x : Nat} : W (pj lw) 1 129 (.val (.ref x) :: L) S k n H Q ↔ W (pj lw) 1 130 (.val (.ref x) :: L) (.ref x :: S) k n H Q := W_s (rfl : (pj lw).1 1 129 = some (.aload_n 0, 1, 0)) rfl rfl rfl
theorem w1_130 {x : Nat} : W (pj lw) 1 130 (.val (.ref x) :: L) S k n H Q ↔ W (pj lw) 1 131 (.val (.ref x) :: L) (.ref x :: S) k n H Q := W_s (rfl : (pj lw).1 1 130 = some (.aload_n 0, 1, 0)) rfl rfl rfl
theorem w1_131 {x : Int32} {l0 l1 : Slot} : W (pj lw) 1 131 (l0 :: l1 :: .val (.int x) :: L) S k n H Q ↔ W (pj lw) 1 132 (l0 :: l1 :: .val (.int x) :: L) (.int x :: S) k n H Q := W_s (rfl : (pj lw).1 1 131 = some (.iload_n 2, 1, 0)) rfl rfl rfl
theorem w1_132 {a : Nat} {x0 : Int32} : W (pj lw) 1 132 L (.int x0 :: .ref a :: S) k n H Q ↔ ((isO H a = true ∧ cs S + (2 + 11) + 0 ≤ 57) ∧ Cl (pj lw) 2 [.ref a, .int x0] H (fun v H => W (pj lw) 1 135 L (v.toList ++ S) k n H Q)) := W_inst (as := [.int x0]) (rfl : (pj lw).1 1 132 = some (.invokevirtual 53, 3, 2)) rfl rfl rfl (Nat.le_of_ble_eq_true rfl) (Nat.le_of_ble_eq_true rfl) ⟨rfl, rfl⟩
theorem w1_135 {a : Nat} {v : Value} : W (pj lw) 1 135 L (v :: .ref a :: S) k n H Q ↔ ((isOw H a = true ∧ okv (.int) v = true) ∧ W (pj lw) 1 138 L S k n (wr H a 3 v) Q) := W_putf (rfl : (pj lw).1 1 135 = some (.putfield 57, 3, 3))
theorem w1_138 {x : Nat} : W (pj lw) 1 138 (.val (.ref x) :: L) S k n H Q ↔ W (pj lw) 1 139 (.val (.ref x) :: L) (.ref x :: S) k n H Q := W_s (rfl : (pj lw).1 1 138 = some (.aload_n 0, 1, 0)) rfl rfl rfl
theorem w1_139 {a : Nat} : W (pj lw) 1 139 L (.ref a :: S) k n H Q ↔ ((isO H a = true ∧ cs S + (4 + 11) + 0 ≤ 57) ∧ Cl (pj lw) 3 [.ref a] H (fun v H => W (pj lw) 1 142 L (v.toList ++ S) k n H Q)) := W_inst (as := []) (rfl : (pj lw).1 1 139 = some (.invokevirtual 60, 3, 3)) rfl rfl rfl (Nat.le_of_ble_eq_true rfl) (Nat.le_of_ble_eq_true rfl) ⟨rfl, rfl⟩
theorem w1_142 {x : Nat} : W (pj lw) 1 142 (.val (.ref x) :: L) S k n H Q ↔ W (pj lw) 1 143 (.val (.ref x) :: L) (.ref x :: S) k n H Q := W_s (rfl : (pj lw).1 1 142 = some (.aload_n 0, 1, 0)) rfl rfl rfl
theorem w1_143 {a : Nat} : W (pj lw) 1 143 L (.ref a :: S) k n H Q ↔ ((isO H a = true ∧ cs S + (3 + 11) + 43 ≤ 57) ∧ Cl (pj lw) 4 [.ref a] H (fun v H => W (pj lw) 1 146 L (v.toList ++ S) k n H Q)) := W_inst (as := []) (rfl : (pj lw).1 1 143 = some (.invokevirtual 63, 3, 4)) rfl rfl rfl (Nat.le_of_ble_eq_true rfl) (Nat.le_of_ble_eq_true rfl) ⟨rfl, rfl⟩
theorem w1_146 {x : Nat} : W (pj lw) 1 146 (.val (.ref x) :: L) S k n H Q ↔ W (pj lw) 1 147 (.val (.ref x) :: L) (.ref x :: S) k n H Q := W_s (rfl : (pj lw).1 1 146 = some (.aload_n 0, 1, 0)) rfl rfl rfl
theorem w1_147 : W (pj lw) 1 147 L S k n H Q ↔ W (pj lw) 1 148 L (.int 0 :: S) k n H Q := W_s (rfl : (pj lw).1 1 147 = some (.iconst 0, 1, 0)) rfl rfl rfl
theorem w1_148 {a : Nat} {v : Value} : W (pj lw) 1 148 L (v :: .ref a :: S) k n H Q ↔ ((isOw H a = true ∧ okv (.int) v = true) ∧ W (pj lw) 1 151 L S k n (wr H a 4 v) Q) := W_putf (rfl : (pj lw).1 1 148 = some (.putfield 66, 3, 4))
theorem w1_151 {x : Nat} : W (pj lw) 1 151 (.val (.ref x) :: L) S k n H Q ↔ W (pj lw) 1 152 (.val (.ref x) :: L) (.ref x :: S) k n H Q := W_s (rfl : (pj lw).1 1 151 = some (.aload_n 0, 1, 0)) rfl rfl rfl
theorem w1_152 : W (pj lw) 1 152 L S k n H Q ↔ W (pj lw) 1 153 L (.int 0 :: S) k n H Q := W_s (rfl : (pj lw).1 1 152 = some (.iconst 0, 1, 0)) rfl rfl rfl
theorem w1_153 {a : Nat} {v : Value} : W (pj lw) 1 153 L (v :: .ref a :: S) k n H Q ↔ ((isOw H a = true ∧ okv (.boolean) v = true) ∧ W (pj lw) 1 156 L S k n (wr H a 12 v) Q) := W_putf (rfl : (pj lw).1 1 153 = some (.putfield 69, 3, 12))
theorem w1_156 {x : Nat} : W (pj lw) 1 156 (.val (.ref x) :: L) S k n H Q ↔ W (pj lw) 1 157 (.val (.ref x) :: L) (.ref x :: S) k n H Q := W_s (rfl : (pj lw).1 1 156 = some (.aload_n 0, 1, 0)) rfl rfl rfl
theorem w1_157 : W (pj lw) 1 157 L S k n H Q ↔ W (pj lw) 1 158 L (.int 0 :: S) k n H Q := W_s (rfl : (pj lw).1 1 157 = some (.iconst 0, 1, 0)) rfl rfl rfl
theorem w1_158 {a : Nat} {v : Value} : W (pj lw) 1 158 L (v :: .ref a :: S) k n H Q ↔ ((isOw H a = true ∧ okv (.boolean) v = true) ∧ W (pj lw) 1 161 L S k n (wr H a 13 v) Q) := W_putf (rfl : (pj lw).1 1 158 = some (.putfield 73, 3, 13))
theorem w1_161 {x : Nat} : W (pj lw) 1 161 (.val (.ref x) :: L) S k n H Q ↔ W (pj lw) 1 162 (.val (.ref x) :: L) (.ref x :: S) k n H Q := W_s (rfl : (pj lw).1 1 161 = some (.aload_n 0, 1, 0)) rfl rfl rfl
theorem w1_162 : W (pj lw) 1 162 L S k n H Q ↔ W (pj lw) 1 163 L (.int 0 :: S) k n H Q := W_s (rfl : (pj lw).1 1 162 = some (.iconst 0, 1, 0)) rfl rfl rfl
theorem w1_163 {a : Nat} {v : Value} : W (pj lw) 1 163 L (v :: .ref a :: S) k n H Q ↔ ((isOw H a = true ∧ okv (.int) v = true) ∧ W (pj lw) 1 166 L S k n (wr H a 14 v) Q) := W_putf (rfl : (pj lw).1 1 163 = some (.putfield 76, 3, 14))
theorem w1_166 {x : Nat} : W (pj lw) 1 166 (.val (.ref x) :: L) S k n H Q ↔ W (pj lw) 1 167 (.val (.ref x) :: L) (.ref x :: S) k n H Q := W_s (rfl : (pj lw).1 1 166 = some (.aload_n 0, 1, 0)) rfl rfl rfl
theorem w1_167 : W (pj lw) 1 167 L S k n H Q ↔ W (pj lw) 1 168 L (.int 0 :: S) k n H Q := W_s (rfl : (pj lw).1 1 167 = some (.iconst 0, 1, 0)) rfl rfl rfl
theorem w1_168 {a : Nat} {v : Value} : W (pj lw) 1 168 L (v :: .ref a :: S) k n H Q ↔ ((isOw H a = true ∧ okv (.int) v = true) ∧ W (pj lw) 1 171 L S k n (wr H a 15 v) Q) := W_putf (rfl : (pj lw).1 1 168 = some (.putfield 79, 3, 15))
theorem w1_171 {x : Nat} : W (pj lw) 1 171 (.val (.ref x) :: L) S k n H Q ↔ W (pj lw) 1 172 (.val (.ref x) :: L) (.ref x :: S) k n H Q := W_s (rfl : (pj lw).1 1 171 = some (.aload_n 0, 1, 0)) rfl rfl rfl
theorem w1_172 : W (pj lw) 1 172 L S k n H Q ↔ W (pj lw) 1 173 L (.int 0 :: S) k n H Q := W_s (rfl : (pj lw).1 1 172 = some (.iconst 0, 1, 0)) rfl rfl rfl
theorem w1_173 {a : Nat} {v : Value} : W (pj lw) 1 173 L (v :: .ref a :: S) k n H Q ↔ ((isOw H a = true ∧ okv (.int) v = true) ∧ W (pj lw) 1 176 L S k n (wr H a 22 v) Q) := W_putf (rfl : (pj lw).1 1 173 = some (.putfield 82, 3, 22))
theorem w1_176 : W (pj lw) 1 176 L [] k n H Q ↔ Q none H := W_r (rfl : (pj lw).1 1 176 = some (.return_, 1, 0)) rfl
theorem c2 {x0 : Nat} {x1 : Int32} : Cl (pj lw) 2 [.ref x0, .int x1] H Q ↔ W (pj lw) 2 0 [.val (.ref x0), .val (.int x1)] [] 0 0 H Q := cl_unf rfl
theorem w2_0 {x : Int32} {l0 : Slot} : W (pj lw) 2 0 (l0 :: .val (.int x) :: L) S k n H Q ↔ W (pj lw) 2 1 (l0 :: .val (.int x) :: L) (.int x :: S) k n H Q := W_s (rfl : (pj lw).1 2 0 = some (.iload_n 1, 1, 0)) rfl rfl rfl
theorem w2_1 : W (pj lw) 2 1 L S k n H Q ↔ W (pj lw) 2 2 L (.int 1 :: S) k n H Q := W_s (rfl : (pj lw).1 2 1 = some (.iconst 1, 1, 0)) rfl rfl rfl
theorem w2_2 {x y : Int32} : W (pj lw) 2 2 L (.int y :: .int x :: S) k n H Q ↔ (if x < y then W (pj lw) 2 5 L S k n H Q else W (pj lw) 2 9 L S k n H Q) := W_icmp_ge (rfl : (pj lw).1 2 2 = some (.if_icmp .ge 7, 3, 0)) rfl
theorem w2_5 : W (pj lw) 2 5 L S k n H Q ↔ W (pj lw) 2 6 L (.int 1 :: S) k n H Q := W_s (rfl : (pj lw).1 2 5 = some (.iconst 1, 1, 0)) rfl rfl rfl
theorem w2_6 : W (pj lw) 2 6 L S k n H Q ↔ W (pj lw) 2 10 L S k n H Q := W_goto (rfl : (pj lw).1 2 6 = some (.goto 4, 3, 0)) rfl
theorem w2_9 {x : Int32} {l0 : Slot} : W (pj lw) 2 9 (l0 :: .val (.int x) :: L) S k n H Q ↔ W (pj lw) 2 10 (l0 :: .val (.int x) :: L) (.int x :: S) k n H Q := W_s (rfl : (pj lw).1 2 9 = some (.iload_n 1, 1, 0)) rfl rfl rfl
theorem w2_10 {x : Int32} : W (pj lw) 2 10 L (.int x :: S) k n H Q ↔ Q (some (.int x)) H := W_r (rfl : (pj lw).1 2 10 = some (.ireturn, 1, 0)) rfl
theorem c3 {x0 : Nat} : Cl (pj lw) 3 [.ref x0] H Q ↔ W (pj lw) 3 0 [.val (.ref x0), .unset, .unset, .unset] [] 0 0 H Q := cl_unf rfl
theorem w3_0 : W (pj lw) 3 0 L S k n H Q ↔ W (pj lw) 3 1 L (.int 0 :: S) k n H Q := W_s (rfl : (pj lw).1 3 0 = some (.iconst 0, 1, 0)) rfl rfl rfl
theorem w3_1 {x : Int32} {l0 : Slot} : W (pj lw) 3 1 (l0 :: .unset :: L) (.int x :: S) k n H Q ↔ W (pj lw) 3 2 (l0 :: .val (.int x) :: L) S k n H Q := W_istn (rfl : (pj lw).1 3 1 = some (.istore_n 1, 1, 0)) rfl rfl
theorem w3_2 : W (pj lw) 3 2 L S k n H Q ↔ W (pj lw) 3 3 L (.int 1 :: S) k n H Q := W_s (rfl : (pj lw).1 3 2 = some (.iconst 1, 1, 0)) rfl rfl rfl
theorem w3_3 {x : Int32} {l0 l1 : Slot} : W (pj lw) 3 3 (l0 :: l1 :: .unset :: L) (.int x :: S) k n H Q ↔ W (pj lw) 3 4 (l0 :: l1 :: .val (.int x) :: L) S k n H Q := W_istn (rfl : (pj lw).1 3 3 = some (.istore_n 2, 1, 0)) rfl rfl
theorem w3_4 {x : Int32} {l0 l1 : Slot} : W (pj lw) 3 4 (l0 :: l1 :: .val (.int x) :: L) S k n H Q ↔ W (pj lw) 3 5 (l0 :: l1 :: .val (.int x) :: L) (.int x :: S) k n H Q := W_s (rfl : (pj lw).1 3 4 = some (.iload_n 2, 1, 0)) rfl rfl rfl
theorem w3_5 {x : Nat} : W (pj lw) 3 5 (.val (.ref x) :: L) S k n H Q ↔ W (pj lw) 3 6 (.val (.ref x) :: L) (.ref x :: S) k n H Q := W_s (rfl : (pj lw).1 3 5 = some (.aload_n 0, 1, 0)) rfl rfl rfl
theorem w3_6 {a : Nat} : W (pj lw) 3 6 L (.ref a :: S) k n H Q ↔ (isO H a = true ∧ W (pj lw) 3 9 L (fld H a 0 :: S) k n H Q) := W_getf (rfl : (pj lw).1 3 6 = some (.getfield 49, 3, 0))
theorem w3_9 {x y : Int32} : W (pj lw) 3 9 L (.int y :: .int x :: S) k n H Q ↔ (if y < x then W (pj lw) 3 73 L S k n H Q else W (pj lw) 3 12 L S k n H Q) := W_icmp_gt (rfl : (pj lw).1 3 9 = some (.if_icmp .gt 64, 3, 0)) rfl
theorem w3_12 {x : Int32} {l0 l1 : Slot} : W (pj lw) 3 12 (l0 :: l1 :: .val (.int x) :: L) S k n H Q ↔ W (pj lw) 3 13 (l0 :: l1 :: .val (.int x) :: L) (.int x :: S) k n H Q := W_s (rfl : (pj lw).1 3 12 = some (.iload_n 2, 1, 0)) rfl rfl rfl
theorem w3_13i {y : Int32} {x : Int32} {l0 l1 l2 : Slot} : W (pj lw) 3 13 (l0 :: l1 :: l2 :: .val (.int y) :: L) (.int x :: S) k n H Q ↔ W (pj lw) 3 14 (l0 :: l1 :: l2 :: .val (.int x) :: L) S k n H Q := W_istn (rfl : (pj lw).1 3 13 = some (.istore_n 3, 1, 0)) rfl rfl
theorem w3_13 {x : Int32} {l0 l1 l2 : Slot} : W (pj lw) 3 13 (l0 :: l1 :: l2 :: .unset :: L) (.int x :: S) k n H Q ↔ W (pj lw) 3 14 (l0 :: l1 :: l2 :: .val (.int x) :: L) S k n H Q := W_istn (rfl : (pj lw).1 3 13 = some (.istore_n 3, 1, 0)) rfl rfl
theorem w3_14 {x : Int32} {l0 l1 l2 : Slot} : W (pj lw) 3 14 (l0 :: l1 :: l2 :: .val (.int x) :: L) S k n H Q ↔ W (pj lw) 3 15 (l0 :: l1 :: l2 :: .val (.int x) :: L) (.int x :: S) k n H Q := W_s (rfl : (pj lw).1 3 14 = some (.iload_n 3, 1, 0)) rfl rfl rfl
theorem w3_15 {x : Nat} : W (pj lw) 3 15 (.val (.ref x) :: L) S k n H Q ↔ W (pj lw) 3 16 (.val (.ref x) :: L) (.ref x :: S) k n H Q := W_s (rfl : (pj lw).1 3 15 = some (.aload_n 0, 1, 0)) rfl rfl rfl
theorem w3_16 {a : Nat} : W (pj lw) 3 16 L (.ref a :: S) k n H Q ↔ (isO H a = true ∧ W (pj lw) 3 19 L (fld H a 0 :: S) k n H Q) := W_getf (rfl : (pj lw).1 3 16 = some (.getfield 49, 3, 0))
theorem w3_19 {x y : Int32} : W (pj lw) 3 19 L (.int y :: .int x :: S) k n H Q ↔ (if y < x then W (pj lw) 3 67 L S k n H Q else W (pj lw) 3 22 L S k n H Q) := W_icmp_gt (rfl : (pj lw).1 3 19 = some (.if_icmp .gt 48, 3, 0)) rfl
theorem w3_22 {x : Nat} : W (pj lw) 3 22 (.val (.ref x) :: L) S k n H Q ↔ W (pj lw) 3 23 (.val (.ref x) :: L) (.ref x :: S) k n H Q := W_s (rfl : (pj lw).1 3 22 = some (.aload_n 0, 1, 0)) rfl rfl rfl
theorem w3_23 {a : Nat} : W (pj lw) 3 23 L (.ref a :: S) k n H Q ↔ (isO H a = true ∧ W (pj lw) 3 26 L (fld H a 16 :: S) k n H Q) := W_getf (rfl : (pj lw).1 3 23 = some (.getfield 31, 3, 16))
theorem w3_26 {x : Int32} {l0 : Slot} : W (pj lw) 3 26 (l0 :: .val (.int x) :: L) S k n H Q ↔ W (pj lw) 3 27 (l0 :: .val (.int x) :: L) (.int x :: S) k n H Q := W_s (rfl : (pj lw).1 3 26 = some (.iload_n 1, 1, 0)) rfl rfl rfl
theorem w3_27 {x : Int32} {l0 l1 : Slot} : W (pj lw) 3 27 (l0 :: l1 :: .val (.int x) :: L) S k n H Q ↔ W (pj lw) 3 28 (l0 :: l1 :: .val (.int x) :: L) (.int x :: S) k n H Q := W_s (rfl : (pj lw).1 3 27 = some (.iload_n 2, 1, 0)) rfl rfl rfl
theorem w3_28 {x i : Int32} {a : Nat} : W (pj lw) 3 28 L (.int x :: .int i :: .ref a :: S) k n H Q ↔ (inAw H a .int i = true ∧ W (pj lw) 3 29 L S k n (wr H a i.toNatClampNeg (.int x)) Q) := W_iastore (rfl : (pj lw).1 3 28 = some (.iastore, 1, 0))
theorem w3_29 {x : Nat} : W (pj lw) 3 29 (.val (.ref x) :: L) S k n H Q ↔ W (pj lw) 3 30 (.val (.ref x) :: L) (.ref x :: S) k n H Q := W_s (rfl : (pj lw).1 3 29 = some (.aload_n 0, 1, 0)) rfl rfl rfl
theorem w3_30 {a : Nat} : W (pj lw) 3 30 L (.ref a :: S) k n H Q ↔ (isO H a = true ∧ W (pj lw) 3 33 L (fld H a 17 :: S) k n H Q) := W_getf (rfl : (pj lw).1 3 30 = some (.getfield 34, 3, 17))
theorem w3_33 {x : Int32} {l0 : Slot} : W (pj lw) 3 33 (l0 :: .val (.int x) :: L) S k n H Q ↔ W (pj lw) 3 34 (l0 :: .val (.int x) :: L) (.int x :: S) k n H Q := W_s (rfl : (pj lw).1 3 33 = some (.iload_n 1, 1, 0)) rfl rfl rfl
theorem w3_34 {x : Int32} {l0 l1 l2 : Slot} : W (pj lw) 3 34 (l0 :: l1 :: l2 :: .val (.int x) :: L) S k n H Q ↔ W (pj lw) 3 35 (l0 :: l1 :: l2 :: .val (.int x) :: L) (.int x :: S) k n H Q := W_s (rfl : (pj lw).1 3 34 = some (.iload_n 3, 1, 0)) rfl rfl rfl
theorem w3_35 {x i : Int32} {a : Nat} : W (pj lw) 3 35 L (.int x :: .int i :: .ref a :: S) k n H Q ↔ (inAw H a .int i = true ∧ W (pj lw) 3 36 L S k n (wr H a i.toNatClampNeg (.int x)) Q) := W_iastore (rfl : (pj lw).1 3 35 = some (.iastore, 1, 0))
theorem w3_36 {x : Nat} : W (pj lw) 3 36 (.val (.ref x) :: L) S k n H Q ↔ W (pj lw) 3 37 (.val (.ref x) :: L) (.ref x :: S) k n H Q := W_s (rfl : (pj lw).1 3 36 = some (.aload_n 0, 1, 0)) rfl rfl rfl
theorem w3_37 {a : Nat} : W (pj lw) 3 37 L (.ref a :: S) k n H Q ↔ (isO H a = true ∧ W (pj lw) 3 40 L (fld H a 18 :: S) k n H Q) := W_getf (rfl : (pj lw).1 3 37 = some (.getfield 37, 3, 18))
theorem w3_40 {x : Int32} {l0 l1 : Slot} : W (pj lw) 3 40 (l0 :: l1 :: .val (.int x) :: L) S k n H Q ↔ W (pj lw) 3 41 (l0 :: l1 :: .val (.int x) :: L) (.int x :: S) k n H Q := W_s (rfl : (pj lw).1 3 40 = some (.iload_n 2, 1, 0)) rfl rfl rfl
theorem w3_41 : W (pj lw) 3 41 L S k n H Q ↔ W (pj lw) 3 42 L (.int 5 :: S) k n H Q := W_s (rfl : (pj lw).1 3 41 = some (.iconst 5, 1, 0)) rfl rfl rfl
theorem w3_42 {x y : Int32} : W (pj lw) 3 42 L (.int y :: .int x :: S) k n H Q ↔ W (pj lw) 3 43 L (.int (x * y) :: S) k n H Q := W_s (rfl : (pj lw).1 3 42 = some (.imul, 1, 0)) rfl rfl rfl
theorem w3_43 {x : Int32} {l0 l1 l2 : Slot} : W (pj lw) 3 43 (l0 :: l1 :: l2 :: .val (.int x) :: L) S k n H Q ↔ W (pj lw) 3 44 (l0 :: l1 :: l2 :: .val (.int x) :: L) (.int x :: S) k n H Q := W_s (rfl : (pj lw).1 3 43 = some (.iload_n 3, 1, 0)) rfl rfl rfl
theorem w3_44 {x y : Int32} : W (pj lw) 3 44 L (.int y :: .int x :: S) k n H Q ↔ W (pj lw) 3 45 L (.int (x + y) :: S) k n H Q := W_s (rfl : (pj lw).1 3 44 = some (.iadd, 1, 0)) rfl rfl rfl
theorem w3_45 {x : Int32} {l0 : Slot} : W (pj lw) 3 45 (l0 :: .val (.int x) :: L) S k n H Q ↔ W (pj lw) 3 46 (l0 :: .val (.int x) :: L) (.int x :: S) k n H Q := W_s (rfl : (pj lw).1 3 45 = some (.iload_n 1, 1, 0)) rfl rfl rfl
theorem w3_46 {x i : Int32} {a : Nat} : W (pj lw) 3 46 L (.int x :: .int i :: .ref a :: S) k n H Q ↔ (inAw H a .int i = true ∧ W (pj lw) 3 47 L S k n (wr H a i.toNatClampNeg (.int x)) Q) := W_iastore (rfl : (pj lw).1 3 46 = some (.iastore, 1, 0))
theorem w3_47 {x : Nat} : W (pj lw) 3 47 (.val (.ref x) :: L) S k n H Q ↔ W (pj lw) 3 48 (.val (.ref x) :: L) (.ref x :: S) k n H Q := W_s (rfl : (pj lw).1 3 47 = some (.aload_n 0, 1, 0)) rfl rfl rfl
theorem w3_48 {a : Nat} : W (pj lw) 3 48 L (.ref a :: S) k n H Q ↔ (isO H a = true ∧ W (pj lw) 3 51 L (fld H a 18 :: S) k n H Q) := W_getf (rfl : (pj lw).1 3 48 = some (.getfield 37, 3, 18))
theorem w3_51 {x : Int32} {l0 l1 l2 : Slot} : W (pj lw) 3 51 (l0 :: l1 :: l2 :: .val (.int x) :: L) S k n H Q ↔ W (pj lw) 3 52 (l0 :: l1 :: l2 :: .val (.int x) :: L) (.int x :: S) k n H Q := W_s (rfl : (pj lw).1 3 51 = some (.iload_n 3, 1, 0)) rfl rfl rfl
theorem w3_52 : W (pj lw) 3 52 L S k n H Q ↔ W (pj lw) 3 53 L (.int 5 :: S) k n H Q := W_s (rfl : (pj lw).1 3 52 = some (.iconst 5, 1, 0)) rfl rfl rfl
theorem w3_53 {x y : Int32} : W (pj lw) 3 53 L (.int y :: .int x :: S) k n H Q ↔ W (pj lw) 3 54 L (.int (x * y) :: S) k n H Q := W_s (rfl : (pj lw).1 3 53 = some (.imul, 1, 0)) rfl rfl rfl
theorem w3_54 {x : Int32} {l0 l1 : Slot} : W (pj lw) 3 54 (l0 :: l1 :: .val (.int x) :: L) S k n H Q ↔ W (pj lw) 3 55 (l0 :: l1 :: .val (.int x) :: L) (.int x :: S) k n H Q := W_s (rfl : (pj lw).1 3 54 = some (.iload_n 2, 1, 0)) rfl rfl rfl
theorem w3_55 {x y : Int32} : W (pj lw) 3 55 L (.int y :: .int x :: S) k n H Q ↔ W (pj lw) 3 56 L (.int (x + y) :: S) k n H Q := W_s (rfl : (pj lw).1 3 55 = some (.iadd, 1, 0)) rfl rfl rfl
theorem w3_56 {x : Int32} {l0 : Slot} : W (pj lw) 3 56 (l0 :: .val (.int x) :: L) S k n H Q ↔ W (pj lw) 3 57 (l0 :: .val (.int x) :: L) (.int x :: S) k n H Q := W_s (rfl : (pj lw).1 3 56 = some (.iload_n 1, 1, 0)) rfl rfl rfl
theorem w3_57 {x i : Int32} {a : Nat} : W (pj lw) 3 57 L (.int x :: .int i :: .ref a :: S) k n H Q ↔ (inAw H a .int i = true ∧ W (pj lw) 3 58 L S k n (wr H a i.toNatClampNeg (.int x)) Q) := W_iastore (rfl : (pj lw).1 3 57 = some (.iastore, 1, 0))
theorem w3_58 {x : Int32} {l0 : Slot} : W (pj lw) 3 58 (l0 :: .val (.int x) :: L) S k n H Q ↔ W (pj lw) 3 61 (l0 :: .val (.int (x + 1)) :: L) S k n H Q := W_s (rfl : (pj lw).1 3 58 = some (.iinc 1 1, 3, 0)) rfl rfl rfl
theorem w3_61 {x : Int32} {l0 l1 l2 : Slot} : W (pj lw) 3 61 (l0 :: l1 :: l2 :: .val (.int x) :: L) S k n H Q ↔ W (pj lw) 3 64 (l0 :: l1 :: l2 :: .val (.int (x + 1)) :: L) S k n H Q := W_s (rfl : (pj lw).1 3 61 = some (.iinc 3 1, 3, 0)) rfl rfl rfl
theorem w3_64 : W (pj lw) 3 64 L S k n H Q ↔ W (pj lw) 3 14 L S k n H Q := W_goto (rfl : (pj lw).1 3 64 = some (.goto (-50), 3, 0)) rfl
theorem w3_67 {x : Int32} {l0 l1 : Slot} : W (pj lw) 3 67 (l0 :: l1 :: .val (.int x) :: L) S k n H Q ↔ W (pj lw) 3 70 (l0 :: l1 :: .val (.int (x + 1)) :: L) S k n H Q := W_s (rfl : (pj lw).1 3 67 = some (.iinc 2 1, 3, 0)) rfl rfl rfl
theorem w3_70 : W (pj lw) 3 70 L S k n H Q ↔ W (pj lw) 3 4 L S k n H Q := W_goto (rfl : (pj lw).1 3 70 = some (.goto (-66), 3, 0)) rfl
theorem w3_73 {x : Nat} : W (pj lw) 3 73 (.val (.ref x) :: L) S k n H Q ↔ W (pj lw) 3 74 (.val (.ref x) :: L) (.ref x :: S) k n H Q := W_s (rfl : (pj lw).1 3 73 = some (.aload_n 0, 1, 0)) rfl rfl rfl
theorem w3_74 {x : Int32} {l0 : Slot} : W (pj lw) 3 74 (l0 :: .val (.int x) :: L) S k n H Q ↔ W (pj lw) 3 75 (l0 :: .val (.int x) :: L) (.int x :: S) k n H Q := W_s (rfl : (pj lw).1 3 74 = some (.iload_n 1, 1, 0)) rfl rfl rfl
theorem w3_75 {a : Nat} {v : Value} : W (pj lw) 3 75 L (v :: .ref a :: S) k n H Q ↔ ((isOw H a = true ∧ okv (.int) v = true) ∧ W (pj lw) 3 78 L S k n (wr H a 1 v) Q) := W_putf (rfl : (pj lw).1 3 75 = some (.putfield 85, 3, 1))
theorem w3_78 {x : Nat} : W (pj lw) 3 78 (.val (.ref x) :: L) S k n H Q ↔ W (pj lw) 3 79 (.val (.ref x) :: L) (.ref x :: S) k n H Q := W_s (rfl : (pj lw).1 3 78 = some (.aload_n 0, 1, 0)) rfl rfl rfl
theorem w3_79 : W (pj lw) 3 79 L S k n H Q ↔ W (pj lw) 3 80 L (.int 1 :: S) k n H Q := W_s (rfl : (pj lw).1 3 79 = some (.iconst 1, 1, 0)) rfl rfl rfl
theorem w3_80 {x : Int32} {l0 : Slot} : W (pj lw) 3 80 (l0 :: .val (.int x) :: L) S k n H Q ↔ W (pj lw) 3 81 (l0 :: .val (.int x) :: L) (.int x :: S) k n H Q := W_s (rfl : (pj lw).1 3 80 = some (.iload_n 1, 1, 0)) rfl rfl rfl
theorem w3_81 {x y : Int32} : W (pj lw) 3 81 L (.int y :: .int x :: S) k n H Q ↔ W (pj lw) 3 82 L (.int (x <<< (y &&& 31)) :: S) k n H Q := W_s (rfl : (pj lw).1 3 81 = some (.ishl, 1, 0)) rfl rfl rfl
theorem w3_82 : W (pj lw) 3 82 L S k n H Q ↔ W (pj lw) 3 83 L (.int 1 :: S) k n H Q := W_s (rfl : (pj lw).1 3 82 = some (.iconst 1, 1, 0)) rfl rfl rfl
theorem w3_83 {x y : Int32} : W (pj lw) 3 83 L (.int y :: .int x :: S) k n H Q ↔ W (pj lw) 3 84 L (.int (x - y) :: S) k n H Q := W_s (rfl : (pj lw).1 3 83 = some (.isub, 1, 0)) rfl rfl rfl
theorem w3_84 {a : Nat} {v : Value} : W (pj lw) 3 84 L (v :: .ref a :: S) k n H Q ↔ ((isOw H a = true ∧ okv (.int) v = true) ∧ W (pj lw) 3 87 L S k n (wr H a 2 v) Q) := W_putf (rfl : (pj lw).1 3 84 = some (.putfield 88, 3, 2))
theorem w3_87 : W (pj lw) 3 87 L [] k n H Q ↔ Q none H := W_r (rfl : (pj lw).1 3 87 = some (.return_, 1, 0)) rfl
theorem c4 {x0 : Nat} : Cl (pj lw) 4 [.ref x0] H Q ↔ W (pj lw) 4 0 [.val (.ref x0), .unset, .unset] [] 0 0 H Q := cl_unf rfl
theorem w4_0 : W (pj lw) 4 0 L S k n H Q ↔ W (pj lw) 4 1 L (.int 0 :: S) k n H Q := W_s (rfl : (pj lw).1 4 0 = some (.iconst 0, 1, 0)) rfl rfl rfl
theorem w4_1 {x : Int32} {l0 : Slot} : W (pj lw) 4 1 (l0 :: .unset :: L) (.int x :: S) k n H Q ↔ W (pj lw) 4 2 (l0 :: .val (.int x) :: L) S k n H Q := W_istn (rfl : (pj lw).1 4 1 = some (.istore_n 1, 1, 0)) rfl rfl
theorem w4_2 {x : Int32} {l0 : Slot} : W (pj lw) 4 2 (l0 :: .val (.int x) :: L) S k n H Q ↔ W (pj lw) 4 3 (l0 :: .val (.int x) :: L) (.int x :: S) k n H Q := W_s (rfl : (pj lw).1 4 2 = some (.iload_n 1, 1, 0)) rfl rfl rfl
theorem w4_3 {x : Nat} : W (pj lw) 4 3 (.val (.ref x) :: L) S k n H Q ↔ W (pj lw) 4 4 (.val (.ref x) :: L) (.ref x :: S) k n H Q := W_s (rfl : (pj lw).1 4 3 = some (.aload_n 0, 1, 0)) rfl rfl rfl
theorem w4_4 {a : Nat} : W (pj lw) 4 4 L (.ref a :: S) k n H Q ↔ (isO H a = true ∧ W (pj lw) 4 7 L (fld H a 1 :: S) k n H Q) := W_getf (rfl : (pj lw).1 4 4 = some (.getfield 85, 3, 1))
theorem w4_7 {x y : Int32} : W (pj lw) 4 7 L (.int y :: .int x :: S) k n H Q ↔ (if x < y then W (pj lw) 4 10 L S k n H Q else W (pj lw) 4 49 L S k n H Q) := W_icmp_ge (rfl : (pj lw).1 4 7 = some (.if_icmp .ge 42, 3, 0)) rfl
theorem w4_10 : W (pj lw) 4 10 L S k n H Q ↔ W (pj lw) 4 11 L (.int 0 :: S) k n H Q := W_s (rfl : (pj lw).1 4 10 = some (.iconst 0, 1, 0)) rfl rfl rfl
theorem w4_11i {y : Int32} {x : Int32} {l0 l1 : Slot} : W (pj lw) 4 11 (l0 :: l1 :: .val (.int y) :: L) (.int x :: S) k n H Q ↔ W (pj lw) 4 12 (l0 :: l1 :: .val (.int x) :: L) S k n H Q := W_istn (rfl : (pj lw).1 4 11 = some (.istore_n 2, 1, 0)) rfl rfl
theorem w4_11 {x : Int32} {l0 l1 : Slot} : W (pj lw) 4 11 (l0 :: l1 :: .unset :: L) (.int x :: S) k n H Q ↔ W (pj lw) 4 12 (l0 :: l1 :: .val (.int x) :: L) S k n H Q := W_istn (rfl : (pj lw).1 4 11 = some (.istore_n 2, 1, 0)) rfl rfl
theorem w4_12 {x : Int32} {l0 l1 : Slot} : W (pj lw) 4 12 (l0 :: l1 :: .val (.int x) :: L) S k n H Q ↔ W (pj lw) 4 13 (l0 :: l1 :: .val (.int x) :: L) (.int x :: S) k n H Q := W_s (rfl : (pj lw).1 4 12 = some (.iload_n 2, 1, 0)) rfl rfl rfl
theorem w4_13 {x : Nat} : W (pj lw) 4 13 (.val (.ref x) :: L) S k n H Q ↔ W (pj lw) 4 14 (.val (.ref x) :: L) (.ref x :: S) k n H Q := W_s (rfl : (pj lw).1 4 13 = some (.aload_n 0, 1, 0)) rfl rfl rfl
theorem w4_14 {a : Nat} : W (pj lw) 4 14 L (.ref a :: S) k n H Q ↔ (isO H a = true ∧ W (pj lw) 4 17 L (fld H a 1 :: S) k n H Q) := W_getf (rfl : (pj lw).1 4 14 = some (.getfield 85, 3, 1))
theorem w4_17 {x y : Int32} : W (pj lw) 4 17 L (.int y :: .int x :: S) k n H Q ↔ (if x < y then W (pj lw) 4 20 L S k n H Q else W (pj lw) 4 43 L S k n H Q) := W_icmp_ge (rfl : (pj lw).1 4 17 = some (.if_icmp .ge 26, 3, 0)) rfl
theorem w4_20 {x : Nat} : W (pj lw) 4 20 (.val (.ref x) :: L) S k n H Q ↔ W (pj lw) 4 21 (.val (.ref x) :: L) (.ref x :: S) k n H Q := W_s (rfl : (pj lw).1 4 20 = some (.aload_n 0, 1, 0)) rfl rfl rfl
theorem w4_21 {a : Nat} : W (pj lw) 4 21 L (.ref a :: S) k n H Q ↔ (isO H a = true ∧ W (pj lw) 4 24 L (fld H a 19 :: S) k n H Q) := W_getf (rfl : (pj lw).1 4 21 = some (.getfield 40, 3, 19))
theorem w4_24 {x : Int32} {l0 : Slot} : W (pj lw) 4 24 (l0 :: .val (.int x) :: L) S k n H Q ↔ W (pj lw) 4 25 (l0 :: .val (.int x) :: L) (.int x :: S) k n H Q := W_s (rfl : (pj lw).1 4 24 = some (.iload_n 1, 1, 0)) rfl rfl rfl
theorem w4_25 : W (pj lw) 4 25 L S k n H Q ↔ W (pj lw) 4 27 L (.int 10 :: S) k n H Q := W_s (rfl : (pj lw).1 4 25 = some (.bipush 10, 2, 0)) rfl rfl rfl
theorem w4_27 {x y : Int32} : W (pj lw) 4 27 L (.int y :: .int x :: S) k n H Q ↔ W (pj lw) 4 28 L (.int (x * y) :: S) k n H Q := W_s (rfl : (pj lw).1 4 27 = some (.imul, 1, 0)) rfl rfl rfl
theorem w4_28 {x : Int32} {l0 l1 : Slot} : W (pj lw) 4 28 (l0 :: l1 :: .val (.int x) :: L) S k n H Q ↔ W (pj lw) 4 29 (l0 :: l1 :: .val (.int x) :: L) (.int x :: S) k n H Q := W_s (rfl : (pj lw).1 4 28 = some (.iload_n 2, 1, 0)) rfl rfl rfl
theorem w4_29 {x y : Int32} : W (pj lw) 4 29 L (.int y :: .int x :: S) k n H Q ↔ W (pj lw) 4 30 L (.int (x + y) :: S) k n H Q := W_s (rfl : (pj lw).1 4 29 = some (.iadd, 1, 0)) rfl rfl rfl
theorem w4_30 {x : Nat} : W (pj lw) 4 30 (.val (.ref x) :: L) S k n H Q ↔ W (pj lw) 4 31 (.val (.ref x) :: L) (.ref x :: S) k n H Q := W_s (rfl : (pj lw).1 4 30 = some (.aload_n 0, 1, 0)) rfl rfl rfl
theorem w4_31 {x : Int32} {l0 : Slot} : W (pj lw) 4 31 (l0 :: .val (.int x) :: L) S k n H Q ↔ W (pj lw) 4 32 (l0 :: .val (.int x) :: L) (.int x :: S) k n H Q := W_s (rfl : (pj lw).1 4 31 = some (.iload_n 1, 1, 0)) rfl rfl rfl
theorem w4_32 {x : Int32} {l0 l1 : Slot} : W (pj lw) 4 32 (l0 :: l1 :: .val (.int x) :: L) S k n H Q ↔ W (pj lw) 4 33 (l0 :: l1 :: .val (.int x) :: L) (.int x :: S) k n H Q := W_s (rfl : (pj lw).1 4 32 = some (.iload_n 2, 1, 0)) rfl rfl rfl
theorem w4_33 {a : Nat} {x0 : Int32} {x1 : Int32} : W (pj lw) 4 33 L (.int x1 :: .int x0 :: .ref a :: S) k n H Q ↔ ((isO H a = true ∧ cs S + (5 + 11) + 25 ≤ 43) ∧ Cl (pj lw) 5 [.ref a, .int x0, .int x1] H (fun v H => W (pj lw) 4 36 L (v.toList ++ S) k n H Q)) := W_inst (as := [.int x0, .int x1]) (rfl : (pj lw).1 4 33 = some (.invokevirtual 91, 3, 5)) rfl rfl rfl (Nat.le_of_ble_eq_true rfl) (Nat.le_of_ble_eq_true rfl) ⟨rfl, rfl⟩
theorem w4_36 {x i : Int32} {a : Nat} : W (pj lw) 4 36 L (.int x :: .int i :: .ref a :: S) k n H Q ↔ (inAw H a .int i = true ∧ W (pj lw) 4 37 L S k n (wr H a i.toNatClampNeg (.int x)) Q) := W_iastore (rfl : (pj lw).1 4 36 = some (.iastore, 1, 0))
theorem w4_37 {x : Int32} {l0 l1 : Slot} : W (pj lw) 4 37 (l0 :: l1 :: .val (.int x) :: L) S k n H Q ↔ W (pj lw) 4 40 (l0 :: l1 :: .val (.int (x + 1)) :: L) S k n H Q := W_s (rfl : (pj lw).1 4 37 = some (.iinc 2 1, 3, 0)) rfl rfl rfl
theorem w4_40 : W (pj lw) 4 40 L S k n H Q ↔ W (pj lw) 4 12 L S k n H Q := W_goto (rfl : (pj lw).1 4 40 = some (.goto (-28), 3, 0)) rfl
theorem w4_43 {x : Int32} {l0 : Slot} : W (pj lw) 4 43 (l0 :: .val (.int x) :: L) S k n H Q ↔ W (pj lw) 4 46 (l0 :: .val (.int (x + 1)) :: L) S k n H Q := W_s (rfl : (pj lw).1 4 43 = some (.iinc 1 1, 3, 0)) rfl rfl rfl
theorem w4_46 : W (pj lw) 4 46 L S k n H Q ↔ W (pj lw) 4 2 L S k n H Q := W_goto (rfl : (pj lw).1 4 46 = some (.goto (-44), 3, 0)) rfl
theorem w4_49 : W (pj lw) 4 49 L [] k n H Q ↔ Q none H := W_r (rfl : (pj lw).1 4 49 = some (.return_, 1, 0)) rfl
theorem c5 {x0 : Nat} {x1 : Int32} {x2 : Int32} : Cl (pj lw) 5 [.ref x0, .int x1, .int x2] H Q ↔ W (pj lw) 5 0 [.val (.ref x0), .val (.int x1), .val (.int x2), .unset, .unset] [] 0 0 H Q := cl_unf rfl
theorem w5_0 : W (pj lw) 5 0 L S k n H Q ↔ W (pj lw) 5 1 L (.int 0 :: S) k n H Q := W_s (rfl : (pj lw).1 5 0 = some (.iconst 0, 1, 0)) rfl rfl rfl
theorem w5_1 {x : Int32} {l0 l1 l2 : Slot} : W (pj lw) 5 1 (l0 :: l1 :: l2 :: .unset :: L) (.int x :: S) k n H Q ↔ W (pj lw) 5 2 (l0 :: l1 :: l2 :: .val (.int x) :: L) S k n H Q := W_istn (rfl : (pj lw).1 5 1 = some (.istore_n 3, 1, 0)) rfl rfl
theorem w5_2 : W (pj lw) 5 2 L S k n H Q ↔ W (pj lw) 5 3 L (.int 0 :: S) k n H Q := W_s (rfl : (pj lw).1 5 2 = some (.iconst 0, 1, 0)) rfl rfl rfl
theorem w5_3 {x : Int32} {l0 l1 l2 l3 : Slot} : W (pj lw) 5 3 (l0 :: l1 :: l2 :: l3 :: .unset :: L) (.int x :: S) k n H Q ↔ W (pj lw) 5 5 (l0 :: l1 :: l2 :: l3 :: .val (.int x) :: L) S k n H Q := W_ist (rfl : (pj lw).1 5 3 = some (.istore 4, 2, 0)) rfl rfl
theorem w5_5 {x : Int32} {l0 l1 l2 l3 : Slot} : W (pj lw) 5 5 (l0 :: l1 :: l2 :: l3 :: .val (.int x) :: L) S k n H Q ↔ W (pj lw) 5 7 (l0 :: l1 :: l2 :: l3 :: .val (.int x) :: L) (.int x :: S) k n H Q := W_s (rfl : (pj lw).1 5 5 = some (.iload 4, 2, 0)) rfl rfl rfl
theorem w5_7 {x : Nat} : W (pj lw) 5 7 (.val (.ref x) :: L) S k n H Q ↔ W (pj lw) 5 8 (.val (.ref x) :: L) (.ref x :: S) k n H Q := W_s (rfl : (pj lw).1 5 7 = some (.aload_n 0, 1, 0)) rfl rfl rfl
theorem w5_8 {a : Nat} : W (pj lw) 5 8 L (.ref a :: S) k n H Q ↔ (isO H a = true ∧ W (pj lw) 5 11 L (fld H a 1 :: S) k n H Q) := W_getf (rfl : (pj lw).1 5 8 = some (.getfield 85, 3, 1))
theorem w5_11 {x y : Int32} : W (pj lw) 5 11 L (.int y :: .int x :: S) k n H Q ↔ (if x < y then W (pj lw) 5 14 L S k n H Q else W (pj lw) 5 38 L S k n H Q) := W_icmp_ge (rfl : (pj lw).1 5 11 = some (.if_icmp .ge 27, 3, 0)) rfl
theorem w5_14 {x : Nat} : W (pj lw) 5 14 (.val (.ref x) :: L) S k n H Q ↔ W (pj lw) 5 15 (.val (.ref x) :: L) (.ref x :: S) k n H Q := W_s (rfl : (pj lw).1 5 14 = some (.aload_n 0, 1, 0)) rfl rfl rfl
theorem w5_15 {x : Int32} {l0 l1 l2 l3 : Slot} : W (pj lw) 5 15 (l0 :: l1 :: l2 :: l3 :: .val (.int x) :: L) S k n H Q ↔ W (pj lw) 5 17 (l0 :: l1 :: l2 :: l3 :: .val (.int x) :: L) (.int x :: S) k n H Q := W_s (rfl : (pj lw).1 5 15 = some (.iload 4, 2, 0)) rfl rfl rfl
theorem w5_17 {x : Int32} {l0 : Slot} : W (pj lw) 5 17 (l0 :: .val (.int x) :: L) S k n H Q ↔ W (pj lw) 5 18 (l0 :: .val (.int x) :: L) (.int x :: S) k n H Q := W_s (rfl : (pj lw).1 5 17 = some (.iload_n 1, 1, 0)) rfl rfl rfl
theorem w5_18 {x : Int32} {l0 l1 : Slot} : W (pj lw) 5 18 (l0 :: l1 :: .val (.int x) :: L) S k n H Q ↔ W (pj lw) 5 19 (l0 :: l1 :: .val (.int x) :: L) (.int x :: S) k n H Q := W_s (rfl : (pj lw).1 5 18 = some (.iload_n 2, 1, 0)) rfl rfl rfl
theorem w5_19 {a : Nat} {x0 : Int32} {x1 : Int32} {x2 : Int32} : W (pj lw) 5 19 L (.int x2 :: .int x1 :: .int x0 :: .ref a :: S) k n H Q ↔ ((isO H a = true ∧ cs S + (14 + 11) + 0 ≤ 25) ∧ Cl (pj lw) 6 [.ref a, .int x0, .int x1, .int x2] H (fun v H => W (pj lw) 5 22 L (v.toList ++ S) k n H Q)) := W_inst (as := [.int x0, .int x1, .int x2]) (rfl : (pj lw).1 5 19 = some (.invokevirtual 95, 3, 6)) rfl rfl rfl (Nat.le_of_ble_eq_true rfl) (Nat.le_of_ble_eq_true rfl) ⟨rfl, rfl⟩
theorem w5_22 {x : Int32} : W (pj lw) 5 22 L (.int x :: S) k n H Q ↔ (if x = 0 then W (pj lw) 5 32 L S k n H Q else W (pj lw) 5 25 L S k n H Q) := W_if_eq (rfl : (pj lw).1 5 22 = some (.ifCond .eq 10, 3, 0)) rfl
theorem w5_25 {x : Int32} {l0 l1 l2 : Slot} : W (pj lw) 5 25 (l0 :: l1 :: l2 :: .val (.int x) :: L) S k n H Q ↔ W (pj lw) 5 26 (l0 :: l1 :: l2 :: .val (.int x) :: L) (.int x :: S) k n H Q := W_s (rfl : (pj lw).1 5 25 = some (.iload_n 3, 1, 0)) rfl rfl rfl
theorem w5_26 : W (pj lw) 5 26 L S k n H Q ↔ W (pj lw) 5 27 L (.int 1 :: S) k n H Q := W_s (rfl : (pj lw).1 5 26 = some (.iconst 1, 1, 0)) rfl rfl rfl
theorem w5_27 {x : Int32} {l0 l1 l2 l3 : Slot} : W (pj lw) 5 27 (l0 :: l1 :: l2 :: l3 :: .val (.int x) :: L) S k n H Q ↔ W (pj lw) 5 29 (l0 :: l1 :: l2 :: l3 :: .val (.int x) :: L) (.int x :: S) k n H Q := W_s (rfl : (pj lw).1 5 27 = some (.iload 4, 2, 0)) rfl rfl rfl
theorem w5_29 {x y : Int32} : W (pj lw) 5 29 L (.int y :: .int x :: S) k n H Q ↔ W (pj lw) 5 30 L (.int (x <<< (y &&& 31)) :: S) k n H Q := W_s (rfl : (pj lw).1 5 29 = some (.ishl, 1, 0)) rfl rfl rfl
theorem w5_30 {x y : Int32} : W (pj lw) 5 30 L (.int y :: .int x :: S) k n H Q ↔ W (pj lw) 5 31 L (.int (x ||| y) :: S) k n H Q := W_s (rfl : (pj lw).1 5 30 = some (.ior, 1, 0)) rfl rfl rfl
theorem w5_31i {y : Int32} {x : Int32} {l0 l1 l2 : Slot} : W (pj lw) 5 31 (l0 :: l1 :: l2 :: .val (.int y) :: L) (.int x :: S) k n H Q ↔ W (pj lw) 5 32 (l0 :: l1 :: l2 :: .val (.int x) :: L) S k n H Q := W_istn (rfl : (pj lw).1 5 31 = some (.istore_n 3, 1, 0)) rfl rfl
theorem w5_32 {x : Int32} {l0 l1 l2 l3 : Slot} : W (pj lw) 5 32 (l0 :: l1 :: l2 :: l3 :: .val (.int x) :: L) S k n H Q ↔ W (pj lw) 5 35 (l0 :: l1 :: l2 :: l3 :: .val (.int (x + 1)) :: L) S k n H Q := W_s (rfl : (pj lw).1 5 32 = some (.iinc 4 1, 3, 0)) rfl rfl rfl
theorem w5_35 : W (pj lw) 5 35 L S k n H Q ↔ W (pj lw) 5 5 L S k n H Q := W_goto (rfl : (pj lw).1 5 35 = some (.goto (-30), 3, 0)) rfl
theorem w5_38 {x : Int32} {l0 l1 l2 : Slot} : W (pj lw) 5 38 (l0 :: l1 :: l2 :: .val (.int x) :: L) S k n H Q ↔ W (pj lw) 5 39 (l0 :: l1 :: l2 :: .val (.int x) :: L) (.int x :: S) k n H Q := W_s (rfl : (pj lw).1 5 38 = some (.iload_n 3, 1, 0)) rfl rfl rfl
theorem w5_39 {x : Int32} : W (pj lw) 5 39 L (.int x :: S) k n H Q ↔ Q (some (.int x)) H := W_r (rfl : (pj lw).1 5 39 = some (.ireturn, 1, 0)) rfl
theorem c6 {x0 : Nat} {x1 : Int32} {x2 : Int32} {x3 : Int32} : Cl (pj lw) 6 [.ref x0, .int x1, .int x2, .int x3] H Q ↔ W (pj lw) 6 0 [.val (.ref x0), .val (.int x1), .val (.int x2), .val (.int x3), .unset, .unset, .unset, .unset, .unset, .unset, .unset, .unset, .unset, .unset] [] 0 0 H Q := cl_unf rfl
theorem w6_0 {x : Nat} : W (pj lw) 6 0 (.val (.ref x) :: L) S k n H Q ↔ W (pj lw) 6 1 (.val (.ref x) :: L) (.ref x :: S) k n H Q := W_s (rfl : (pj lw).1 6 0 = some (.aload_n 0, 1, 0)) rfl rfl rfl
theorem w6_1 {a : Nat} : W (pj lw) 6 1 L (.ref a :: S) k n H Q ↔ (isO H a = true ∧ W (pj lw) 6 4 L (fld H a 16 :: S) k n H Q) := W_getf (rfl : (pj lw).1 6 1 = some (.getfield 31, 3, 16))
theorem w6_4 {x : Int32} {l0 : Slot} : W (pj lw) 6 4 (l0 :: .val (.int x) :: L) S k n H Q ↔ W (pj lw) 6 5 (l0 :: .val (.int x) :: L) (.int x :: S) k n H Q := W_s (rfl : (pj lw).1 6 4 = some (.iload_n 1, 1, 0)) rfl rfl rfl
theorem w6_5 {i : Int32} {a : Nat} : W (pj lw) 6 5 L (.int i :: .ref a :: S) k n H Q ↔ (inA H a .int i = true ∧ W (pj lw) 6 6 L (elt H a i :: S) k n H Q) := W_iaload (rfl : (pj lw).1 6 5 = some (.iaload, 1, 0))
theorem w6_6 {x : Int32} {l0 l1 l2 l3 : Slot} : W (pj lw) 6 6 (l0 :: l1 :: l2 :: l3 :: .unset :: L) (.int x :: S) k n H Q ↔ W (pj lw) 6 8 (l0 :: l1 :: l2 :: l3 :: .val (.int x) :: L) S k n H Q := W_ist (rfl : (pj lw).1 6 6 = some (.istore 4, 2, 0)) rfl rfl
theorem w6_8 {x : Nat} : W (pj lw) 6 8 (.val (.ref x) :: L) S k n H Q ↔ W (pj lw) 6 9 (.val (.ref x) :: L) (.ref x :: S) k n H Q := W_s (rfl : (pj lw).1 6 8 = some (.aload_n 0, 1, 0)) rfl rfl rfl
theorem w6_9 {a : Nat} : W (pj lw) 6 9 L (.ref a :: S) k n H Q ↔ (isO H a = true ∧ W (pj lw) 6 12 L (fld H a 17 :: S) k n H Q) := W_getf (rfl : (pj lw).1 6 9 = some (.getfield 34, 3, 17))
theorem w6_12 {x : Int32} {l0 : Slot} : W (pj lw) 6 12 (l0 :: .val (.int x) :: L) S k n H Q ↔ W (pj lw) 6 13 (l0 :: .val (.int x) :: L) (.int x :: S) k n H Q := W_s (rfl : (pj lw).1 6 12 = some (.iload_n 1, 1, 0)) rfl rfl rfl
theorem w6_13 {i : Int32} {a : Nat} : W (pj lw) 6 13 L (.int i :: .ref a :: S) k n H Q ↔ (inA H a .int i = true ∧ W (pj lw) 6 14 L (elt H a i :: S) k n H Q) := W_iaload (rfl : (pj lw).1 6 13 = some (.iaload, 1, 0))
theorem w6_14 {x : Int32} {l0 l1 l2 l3 l4 : Slot} : W (pj lw) 6 14 (l0 :: l1 :: l2 :: l3 :: l4 :: .unset :: L) (.int x :: S) k n H Q ↔ W (pj lw) 6 16 (l0 :: l1 :: l2 :: l3 :: l4 :: .val (.int x) :: L) S k n H Q := W_ist (rfl : (pj lw).1 6 14 = some (.istore 5, 2, 0)) rfl rfl
theorem w6_16 {x : Nat} : W (pj lw) 6 16 (.val (.ref x) :: L) S k n H Q ↔ W (pj lw) 6 17 (.val (.ref x) :: L) (.ref x :: S) k n H Q := W_s (rfl : (pj lw).1 6 16 = some (.aload_n 0, 1, 0)) rfl rfl rfl
theorem w6_17 {a : Nat} : W (pj lw) 6 17 L (.ref a :: S) k n H Q ↔ (isO H a = true ∧ W (pj lw) 6 20 L (fld H a 16 :: S) k n H Q) := W_getf (rfl : (pj lw).1 6 17 = some (.getfield 31, 3, 16))
theorem w6_20 {x : Int32} {l0 l1 : Slot} : W (pj lw) 6 20 (l0 :: l1 :: .val (.int x) :: L) S k n H Q ↔ W (pj lw) 6 21 (l0 :: l1 :: .val (.int x) :: L) (.int x :: S) k n H Q := W_s (rfl : (pj lw).1 6 20 = some (.iload_n 2, 1, 0)) rfl rfl rfl
theorem w6_21 {i : Int32} {a : Nat} : W (pj lw) 6 21 L (.int i :: .ref a :: S) k n H Q ↔ (inA H a .int i = true ∧ W (pj lw) 6 22 L (elt H a i :: S) k n H Q) := W_iaload (rfl : (pj lw).1 6 21 = some (.iaload, 1, 0))
theorem w6_22 {x : Int32} {l0 l1 l2 l3 l4 l5 : Slot} : W (pj lw) 6 22 (l0 :: l1 :: l2 :: l3 :: l4 :: l5 :: .unset :: L) (.int x :: S) k n H Q ↔ W (pj lw) 6 24 (l0 :: l1 :: l2 :: l3 :: l4 :: l5 :: .val (.int x) :: L) S k n H Q := W_ist (rfl : (pj lw).1 6 22 = some (.istore 6, 2, 0)) rfl rfl
theorem w6_24 {x : Nat} : W (pj lw) 6 24 (.val (.ref x) :: L) S k n H Q ↔ W (pj lw) 6 25 (.val (.ref x) :: L) (.ref x :: S) k n H Q := W_s (rfl : (pj lw).1 6 24 = some (.aload_n 0, 1, 0)) rfl rfl rfl
theorem w6_25 {a : Nat} : W (pj lw) 6 25 L (.ref a :: S) k n H Q ↔ (isO H a = true ∧ W (pj lw) 6 28 L (fld H a 17 :: S) k n H Q) := W_getf (rfl : (pj lw).1 6 25 = some (.getfield 34, 3, 17))
theorem w6_28 {x : Int32} {l0 l1 : Slot} : W (pj lw) 6 28 (l0 :: l1 :: .val (.int x) :: L) S k n H Q ↔ W (pj lw) 6 29 (l0 :: l1 :: .val (.int x) :: L) (.int x :: S) k n H Q := W_s (rfl : (pj lw).1 6 28 = some (.iload_n 2, 1, 0)) rfl rfl rfl
theorem w6_29 {i : Int32} {a : Nat} : W (pj lw) 6 29 L (.int i :: .ref a :: S) k n H Q ↔ (inA H a .int i = true ∧ W (pj lw) 6 30 L (elt H a i :: S) k n H Q) := W_iaload (rfl : (pj lw).1 6 29 = some (.iaload, 1, 0))
theorem w6_30 {x : Int32} {l0 l1 l2 l3 l4 l5 l6 : Slot} : W (pj lw) 6 30 (l0 :: l1 :: l2 :: l3 :: l4 :: l5 :: l6 :: .unset :: L) (.int x :: S) k n H Q ↔ W (pj lw) 6 32 (l0 :: l1 :: l2 :: l3 :: l4 :: l5 :: l6 :: .val (.int x) :: L) S k n H Q := W_ist (rfl : (pj lw).1 6 30 = some (.istore 7, 2, 0)) rfl rfl
theorem w6_32 {x : Nat} : W (pj lw) 6 32 (.val (.ref x) :: L) S k n H Q ↔ W (pj lw) 6 33 (.val (.ref x) :: L) (.ref x :: S) k n H Q := W_s (rfl : (pj lw).1 6 32 = some (.aload_n 0, 1, 0)) rfl rfl rfl
theorem w6_33 {a : Nat} : W (pj lw) 6 33 L (.ref a :: S) k n H Q ↔ (isO H a = true ∧ W (pj lw) 6 36 L (fld H a 16 :: S) k n H Q) := W_getf (rfl : (pj lw).1 6 33 = some (.getfield 31, 3, 16))
theorem w6_36 {x : Int32} {l0 l1 l2 : Slot} : W (pj lw) 6 36 (l0 :: l1 :: l2 :: .val (.int x) :: L) S k n H Q ↔ W (pj lw) 6 37 (l0 :: l1 :: l2 :: .val (.int x) :: L) (.int x :: S) k n H Q := W_s (rfl : (pj lw).1 6 36 = some (.iload_n 3, 1, 0)) rfl rfl rfl
theorem w6_37 {i : Int32} {a : Nat} : W (pj lw) 6 37 L (.int i :: .ref a :: S) k n H Q ↔ (inA H a .int i = true ∧ W (pj lw) 6 38 L (elt H a i :: S) k n H Q) := W_iaload (rfl : (pj lw).1 6 37 = some (.iaload, 1, 0))
theorem w6_38 {x : Int32} {l0 l1 l2 l3 l4 l5 l6 l7 : Slot} : W (pj lw) 6 38 (l0 :: l1 :: l2 :: l3 :: l4 :: l5 :: l6 :: l7 :: .unset :: L) (.int x :: S) k n H Q ↔ W (pj lw) 6 40 (l0 :: l1 :: l2 :: l3 :: l4 :: l5 :: l6 :: l7 :: .val (.int x) :: L) S k n H Q := W_ist (rfl : (pj lw).1 6 38 = some (.istore 8, 2, 0)) rfl rfl
theorem w6_40 {x : Nat} : W (pj lw) 6 40 (.val (.ref x) :: L) S k n H Q ↔ W (pj lw) 6 41 (.val (.ref x) :: L) (.ref x :: S) k n H Q := W_s (rfl : (pj lw).1 6 40 = some (.aload_n 0, 1, 0)) rfl rfl rfl
theorem w6_41 {a : Nat} : W (pj lw) 6 41 L (.ref a :: S) k n H Q ↔ (isO H a = true ∧ W (pj lw) 6 44 L (fld H a 17 :: S) k n H Q) := W_getf (rfl : (pj lw).1 6 41 = some (.getfield 34, 3, 17))
theorem w6_44 {x : Int32} {l0 l1 l2 : Slot} : W (pj lw) 6 44 (l0 :: l1 :: l2 :: .val (.int x) :: L) S k n H Q ↔ W (pj lw) 6 45 (l0 :: l1 :: l2 :: .val (.int x) :: L) (.int x :: S) k n H Q := W_s (rfl : (pj lw).1 6 44 = some (.iload_n 3, 1, 0)) rfl rfl rfl
theorem w6_45 {i : Int32} {a : Nat} : W (pj lw) 6 45 L (.int i :: .ref a :: S) k n H Q ↔ (inA H a .int i = true ∧ W (pj lw) 6 46 L (elt H a i :: S) k n H Q) := W_iaload (rfl : (pj lw).1 6 45 = some (.iaload, 1, 0))
theorem w6_46 {x : Int32} {l0 l1 l2 l3 l4 l5 l6 l7 l8 : Slot} : W (pj lw) 6 46 (l0 :: l1 :: l2 :: l3 :: l4 :: l5 :: l6 :: l7 :: l8 :: .unset :: L) (.int x :: S) k n H Q ↔ W (pj lw) 6 48 (l0 :: l1 :: l2 :: l3 :: l4 :: l5 :: l6 :: l7 :: l8 :: .val (.int x) :: L) S k n H Q := W_ist (rfl : (pj lw).1 6 46 = some (.istore 9, 2, 0)) rfl rfl
theorem w6_48 {x : Int32} {l0 l1 l2 l3 : Slot} : W (pj lw) 6 48 (l0 :: l1 :: l2 :: l3 :: .val (.int x) :: L) S k n H Q ↔ W (pj lw) 6 50 (l0 :: l1 :: l2 :: l3 :: .val (.int x) :: L) (.int x :: S) k n H Q := W_s (rfl : (pj lw).1 6 48 = some (.iload 4, 2, 0)) rfl rfl rfl
theorem w6_50 {x : Int32} {l0 l1 l2 l3 l4 l5 : Slot} : W (pj lw) 6 50 (l0 :: l1 :: l2 :: l3 :: l4 :: l5 :: .val (.int x) :: L) S k n H Q ↔ W (pj lw) 6 52 (l0 :: l1 :: l2 :: l3 :: l4 :: l5 :: .val (.int x) :: L) (.int x :: S) k n H Q := W_s (rfl : (pj lw).1 6 50 = some (.iload 6, 2, 0)) rfl rfl rfl
theorem w6_52 {x y : Int32} : W (pj lw) 6 52 L (.int y :: .int x :: S) k n H Q ↔ (if x = y then W (pj lw) 6 62 L S k n H Q else W (pj lw) 6 55 L S k n H Q) := W_icmp_eq (rfl : (pj lw).1 6 52 = some (.if_icmp .eq 10, 3, 0)) rfl
theorem w6_55 {x : Int32} {l0 l1 l2 l3 : Slot} : W (pj lw) 6 55 (l0 :: l1 :: l2 :: l3 :: .val (.int x) :: L) S k n H Q ↔ W (pj lw) 6 57 (l0 :: l1 :: l2 :: l3 :: .val (.int x) :: L) (.int x :: S) k n H Q := W_s (rfl : (pj lw).1 6 55 = some (.iload 4, 2, 0)) rfl rfl rfl
theorem w6_57 {x : Int32} {l0 l1 l2 l3 l4 l5 l6 : Slot} : W (pj lw) 6 57 (l0 :: l1 :: l2 :: l3 :: l4 :: l5 :: l6 :: .val (.int x) :: L) S k n H Q ↔ W (pj lw) 6 59 (l0 :: l1 :: l2 :: l3 :: l4 :: l5 :: l6 :: .val (.int x) :: L) (.int x :: S) k n H Q := W_s (rfl : (pj lw).1 6 57 = some (.iload 7, 2, 0)) rfl rfl rfl
theorem w6_59 {x y : Int32} : W (pj lw) 6 59 L (.int y :: .int x :: S) k n H Q ↔ (if x = y then W (pj lw) 6 62 L S k n H Q else W (pj lw) 6 66 L S k n H Q) := W_icmp_ne (rfl : (pj lw).1 6 59 = some (.if_icmp .ne 7, 3, 0)) rfl
theorem w6_62 : W (pj lw) 6 62 L S k n H Q ↔ W (pj lw) 6 63 L (.int 1 :: S) k n H Q := W_s (rfl : (pj lw).1 6 62 = some (.iconst 1, 1, 0)) rfl rfl rfl
theorem w6_63 : W (pj lw) 6 63 L S k n H Q ↔ W (pj lw) 6 67 L S k n H Q := W_goto (rfl : (pj lw).1 6 63 = some (.goto 4, 3, 0)) rfl
theorem w6_66 : W (pj lw) 6 66 L S k n H Q ↔ W (pj lw) 6 67 L (.int 0 :: S) k n H Q := W_s (rfl : (pj lw).1 6 66 = some (.iconst 0, 1, 0)) rfl rfl rfl
theorem w6_67 {x : Int32} {l0 l1 l2 l3 l4 l5 l6 l7 l8 l9 : Slot} : W (pj lw) 6 67 (l0 :: l1 :: l2 :: l3 :: l4 :: l5 :: l6 :: l7 :: l8 :: l9 :: .unset :: L) (.int x :: S) k n H Q ↔ W (pj lw) 6 69 (l0 :: l1 :: l2 :: l3 :: l4 :: l5 :: l6 :: l7 :: l8 :: l9 :: .val (.int x) :: L) S k n H Q := W_ist (rfl : (pj lw).1 6 67 = some (.istore 10, 2, 0)) rfl rfl
theorem w6_69 {x : Int32} {l0 l1 l2 l3 l4 : Slot} : W (pj lw) 6 69 (l0 :: l1 :: l2 :: l3 :: l4 :: .val (.int x) :: L) S k n H Q ↔ W (pj lw) 6 71 (l0 :: l1 :: l2 :: l3 :: l4 :: .val (.int x) :: L) (.int x :: S) k n H Q := W_s (rfl : (pj lw).1 6 69 = some (.iload 5, 2, 0)) rfl rfl rfl
theorem w6_71 {x : Int32} {l0 l1 l2 l3 l4 l5 : Slot} : W (pj lw) 6 71 (l0 :: l1 :: l2 :: l3 :: l4 :: l5 :: .val (.int x) :: L) S k n H Q ↔ W (pj lw) 6 73 (l0 :: l1 :: l2 :: l3 :: l4 :: l5 :: .val (.int x) :: L) (.int x :: S) k n H Q := W_s (rfl : (pj lw).1 6 71 = some (.iload 6, 2, 0)) rfl rfl rfl
theorem w6_73 {x y : Int32} : W (pj lw) 6 73 L (.int y :: .int x :: S) k n H Q ↔ (if x = y then W (pj lw) 6 83 L S k n H Q else W (pj lw) 6 76 L S k n H Q) := W_icmp_eq (rfl : (pj lw).1 6 73 = some (.if_icmp .eq 10, 3, 0)) rfl
theorem w6_76 {x : Int32} {l0 l1 l2 l3 l4 : Slot} : W (pj lw) 6 76 (l0 :: l1 :: l2 :: l3 :: l4 :: .val (.int x) :: L) S k n H Q ↔ W (pj lw) 6 78 (l0 :: l1 :: l2 :: l3 :: l4 :: .val (.int x) :: L) (.int x :: S) k n H Q := W_s (rfl : (pj lw).1 6 76 = some (.iload 5, 2, 0)) rfl rfl rfl
theorem w6_78 {x : Int32} {l0 l1 l2 l3 l4 l5 l6 : Slot} : W (pj lw) 6 78 (l0 :: l1 :: l2 :: l3 :: l4 :: l5 :: l6 :: .val (.int x) :: L) S k n H Q ↔ W (pj lw) 6 80 (l0 :: l1 :: l2 :: l3 :: l4 :: l5 :: l6 :: .val (.int x) :: L) (.int x :: S) k n H Q := W_s (rfl : (pj lw).1 6 78 = some (.iload 7, 2, 0)) rfl rfl rfl
theorem w6_80 {x y : Int32} : W (pj lw) 6 80 L (.int y :: .int x :: S) k n H Q ↔ (if x = y then W (pj lw) 6 83 L S k n H Q else W (pj lw) 6 87 L S k n H Q) := W_icmp_ne (rfl : (pj lw).1 6 80 = some (.if_icmp .ne 7, 3, 0)) rfl
theorem w6_83 : W (pj lw) 6 83 L S k n H Q ↔ W (pj lw) 6 84 L (.int 1 :: S) k n H Q := W_s (rfl : (pj lw).1 6 83 = some (.iconst 1, 1, 0)) rfl rfl rfl
theorem w6_84 : W (pj lw) 6 84 L S k n H Q ↔ W (pj lw) 6 88 L S k n H Q := W_goto (rfl : (pj lw).1 6 84 = some (.goto 4, 3, 0)) rfl
theorem w6_87 : W (pj lw) 6 87 L S k n H Q ↔ W (pj lw) 6 88 L (.int 0 :: S) k n H Q := W_s (rfl : (pj lw).1 6 87 = some (.iconst 0, 1, 0)) rfl rfl rfl
theorem w6_88 {x : Int32} {l0 l1 l2 l3 l4 l5 l6 l7 l8 l9 l10 : Slot} : W (pj lw) 6 88 (l0 :: l1 :: l2 :: l3 :: l4 :: l5 :: l6 :: l7 :: l8 :: l9 :: l10 :: .unset :: L) (.int x :: S) k n H Q ↔ W (pj lw) 6 90 (l0 :: l1 :: l2 :: l3 :: l4 :: l5 :: l6 :: l7 :: l8 :: l9 :: l10 :: .val (.int x) :: L) S k n H Q := W_ist (rfl : (pj lw).1 6 88 = some (.istore 11, 2, 0)) rfl rfl
theorem w6_90 {x : Int32} {l0 l1 l2 l3 : Slot} : W (pj lw) 6 90 (l0 :: l1 :: l2 :: l3 :: .val (.int x) :: L) S k n H Q ↔ W (pj lw) 6 92 (l0 :: l1 :: l2 :: l3 :: .val (.int x) :: L) (.int x :: S) k n H Q := W_s (rfl : (pj lw).1 6 90 = some (.iload 4, 2, 0)) rfl rfl rfl
theorem w6_92 {x : Int32} {l0 l1 l2 l3 l4 l5 l6 l7 : Slot} : W (pj lw) 6 92 (l0 :: l1 :: l2 :: l3 :: l4 :: l5 :: l6 :: l7 :: .val (.int x) :: L) S k n H Q ↔ W (pj lw) 6 94 (l0 :: l1 :: l2 :: l3 :: l4 :: l5 :: l6 :: l7 :: .val (.int x) :: L) (.int x :: S) k n H Q := W_s (rfl : (pj lw).1 6 92 = some (.iload 8, 2, 0)) rfl rfl rfl
theorem w6_94 {x y : Int32} : W (pj lw) 6 94 L (.int y :: .int x :: S) k n H Q ↔ (if x = y then W (pj lw) 6 104 L S k n H Q else W (pj lw) 6 97 L S k n H Q) := W_icmp_eq (rfl : (pj lw).1 6 94 = some (.if_icmp .eq 10, 3, 0)) rfl
theorem w6_97 {x : Int32} {l0 l1 l2 l3 : Slot} : W (pj lw) 6 97 (l0 :: l1 :: l2 :: l3 :: .val (.int x) :: L) S k n H Q ↔ W (pj lw) 6 99 (l0 :: l1 :: l2 :: l3 :: .val (.int x) :: L) (.int x :: S) k n H Q := W_s (rfl : (pj lw).1 6 97 = some (.iload 4, 2, 0)) rfl rfl rfl
theorem w6_99 {x : Int32} {l0 l1 l2 l3 l4 l5 l6 l7 l8 : Slot} : W (pj lw) 6 99 (l0 :: l1 :: l2 :: l3 :: l4 :: l5 :: l6 :: l7 :: l8 :: .val (.int x) :: L) S k n H Q ↔ W (pj lw) 6 101 (l0 :: l1 :: l2 :: l3 :: l4 :: l5 :: l6 :: l7 :: l8 :: .val (.int x) :: L) (.int x :: S) k n H Q := W_s (rfl : (pj lw).1 6 99 = some (.iload 9, 2, 0)) rfl rfl rfl
theorem w6_101 {x y : Int32} : W (pj lw) 6 101 L (.int y :: .int x :: S) k n H Q ↔ (if x = y then W (pj lw) 6 104 L S k n H Q else W (pj lw) 6 108 L S k n H Q) := W_icmp_ne (rfl : (pj lw).1 6 101 = some (.if_icmp .ne 7, 3, 0)) rfl
theorem w6_104 : W (pj lw) 6 104 L S k n H Q ↔ W (pj lw) 6 105 L (.int 1 :: S) k n H Q := W_s (rfl : (pj lw).1 6 104 = some (.iconst 1, 1, 0)) rfl rfl rfl
theorem w6_105 : W (pj lw) 6 105 L S k n H Q ↔ W (pj lw) 6 109 L S k n H Q := W_goto (rfl : (pj lw).1 6 105 = some (.goto 4, 3, 0)) rfl
theorem w6_108 : W (pj lw) 6 108 L S k n H Q ↔ W (pj lw) 6 109 L (.int 0 :: S) k n H Q := W_s (rfl : (pj lw).1 6 108 = some (.iconst 0, 1, 0)) rfl rfl rfl
theorem w6_109 {x : Int32} {l0 l1 l2 l3 l4 l5 l6 l7 l8 l9 l10 l11 : Slot} : W (pj lw) 6 109 (l0 :: l1 :: l2 :: l3 :: l4 :: l5 :: l6 :: l7 :: l8 :: l9 :: l10 :: l11 :: .unset :: L) (.int x :: S) k n H Q ↔ W (pj lw) 6 111 (l0 :: l1 :: l2 :: l3 :: l4 :: l5 :: l6 :: l7 :: l8 :: l9 :: l10 :: l11 :: .val (.int x) :: L) S k n H Q := W_ist (rfl : (pj lw).1 6 109 = some (.istore 12, 2, 0)) rfl rfl
theorem w6_111 {x : Int32} {l0 l1 l2 l3 l4 : Slot} : W (pj lw) 6 111 (l0 :: l1 :: l2 :: l3 :: l4 :: .val (.int x) :: L) S k n H Q ↔ W (pj lw) 6 113 (l0 :: l1 :: l2 :: l3 :: l4 :: .val (.int x) :: L) (.int x :: S) k n H Q := W_s (rfl : (pj lw).1 6 111 = some (.iload 5, 2, 0)) rfl rfl rfl
theorem w6_113 {x : Int32} {l0 l1 l2 l3 l4 l5 l6 l7 : Slot} : W (pj lw) 6 113 (l0 :: l1 :: l2 :: l3 :: l4 :: l5 :: l6 :: l7 :: .val (.int x) :: L) S k n H Q ↔ W (pj lw) 6 115 (l0 :: l1 :: l2 :: l3 :: l4 :: l5 :: l6 :: l7 :: .val (.int x) :: L) (.int x :: S) k n H Q := W_s (rfl : (pj lw).1 6 113 = some (.iload 8, 2, 0)) rfl rfl rfl
theorem w6_115 {x y : Int32} : W (pj lw) 6 115 L (.int y :: .int x :: S) k n H Q ↔ (if x = y then W (pj lw) 6 125 L S k n H Q else W (pj lw) 6 118 L S k n H Q) := W_icmp_eq (rfl : (pj lw).1 6 115 = some (.if_icmp .eq 10, 3, 0)) rfl
theorem w6_118 {x : Int32} {l0 l1 l2 l3 l4 : Slot} : W (pj lw) 6 118 (l0 :: l1 :: l2 :: l3 :: l4 :: .val (.int x) :: L) S k n H Q ↔ W (pj lw) 6 120 (l0 :: l1 :: l2 :: l3 :: l4 :: .val (.int x) :: L) (.int x :: S) k n H Q := W_s (rfl : (pj lw).1 6 118 = some (.iload 5, 2, 0)) rfl rfl rfl
theorem w6_120 {x : Int32} {l0 l1 l2 l3 l4 l5 l6 l7 l8 : Slot} : W (pj lw) 6 120 (l0 :: l1 :: l2 :: l3 :: l4 :: l5 :: l6 :: l7 :: l8 :: .val (.int x) :: L) S k n H Q ↔ W (pj lw) 6 122 (l0 :: l1 :: l2 :: l3 :: l4 :: l5 :: l6 :: l7 :: l8 :: .val (.int x) :: L) (.int x :: S) k n H Q := W_s (rfl : (pj lw).1 6 120 = some (.iload 9, 2, 0)) rfl rfl rfl
theorem w6_122 {x y : Int32} : W (pj lw) 6 122 L (.int y :: .int x :: S) k n H Q ↔ (if x = y then W (pj lw) 6 125 L S k n H Q else W (pj lw) 6 129 L S k n H Q) := W_icmp_ne (rfl : (pj lw).1 6 122 = some (.if_icmp .ne 7, 3, 0)) rfl
theorem w6_125 : W (pj lw) 6 125 L S k n H Q ↔ W (pj lw) 6 126 L (.int 1 :: S) k n H Q := W_s (rfl : (pj lw).1 6 125 = some (.iconst 1, 1, 0)) rfl rfl rfl
theorem w6_126 : W (pj lw) 6 126 L S k n H Q ↔ W (pj lw) 6 130 L S k n H Q := W_goto (rfl : (pj lw).1 6 126 = some (.goto 4, 3, 0)) rfl
theorem w6_129 : W (pj lw) 6 129 L S k n H Q ↔ W (pj lw) 6 130 L (.int 0 :: S) k n H Q := W_s (rfl : (pj lw).1 6 129 = some (.iconst 0, 1, 0)) rfl rfl rfl
theorem w6_130 {x : Int32} {l0 l1 l2 l3 l4 l5 l6 l7 l8 l9 l10 l11 l12 : Slot} : W (pj lw) 6 130 (l0 :: l1 :: l2 :: l3 :: l4 :: l5 :: l6 :: l7 :: l8 :: l9 :: l10 :: l11 :: l12 :: .unset :: L) (.int x :: S) k n H Q ↔ W (pj lw) 6 132 (l0 :: l1 :: l2 :: l3 :: l4 :: l5 :: l6 :: l7 :: l8 :: l9 :: l10 :: l11 :: l12 :: .val (.int x) :: L) S k n H Q := W_ist (rfl : (pj lw).1 6 130 = some (.istore 13, 2, 0)) rfl rfl
theorem w6_132 {x : Int32} {l0 l1 l2 l3 l4 l5 l6 l7 l8 l9 : Slot} : W (pj lw) 6 132 (l0 :: l1 :: l2 :: l3 :: l4 :: l5 :: l6 :: l7 :: l8 :: l9 :: .val (.int x) :: L) S k n H Q ↔ W (pj lw) 6 134 (l0 :: l1 :: l2 :: l3 :: l4 :: l5 :: l6 :: l7 :: l8 :: l9 :: .val (.int x) :: L) (.int x :: S) k n H Q := W_s (rfl : (pj lw).1 6 132 = some (.iload 10, 2, 0)) rfl rfl rfl
theorem w6_134 {x : Int32} : W (pj lw) 6 134 L (.int x :: S) k n H Q ↔ (if x = 0 then W (pj lw) 6 142 L S k n H Q else W (pj lw) 6 137 L S k n H Q) := W_if_eq (rfl : (pj lw).1 6 134 = some (.ifCond .eq 8, 3, 0)) rfl
theorem w6_137 {x : Int32} {l0 l1 l2 l3 l4 l5 l6 l7 l8 l9 l10 l11 l12 : Slot} : W (pj lw) 6 137 (l0 :: l1 :: l2 :: l3 :: l4 :: l5 :: l6 :: l7 :: l8 :: l9 :: l10 :: l11 :: l12 :: .val (.int x) :: L) S k n H Q ↔ W (pj lw) 6 139 (l0 :: l1 :: l2 :: l3 :: l4 :: l5 :: l6 :: l7 :: l8 :: l9 :: l10 :: l11 :: l12 :: .val (.int x) :: L) (.int x :: S) k n H Q := W_s (rfl : (pj lw).1 6 137 = some (.iload 13, 2, 0)) rfl rfl rfl
theorem w6_139 {x : Int32} : W (pj lw) 6 139 L (.int x :: S) k n H Q ↔ (if x = 0 then W (pj lw) 6 142 L S k n H Q else W (pj lw) 6 152 L S k n H Q) := W_if_ne (rfl : (pj lw).1 6 139 = some (.ifCond .ne 13, 3, 0)) rfl
theorem w6_142 {x : Int32} {l0 l1 l2 l3 l4 l5 l6 l7 l8 l9 l10 : Slot} : W (pj lw) 6 142 (l0 :: l1 :: l2 :: l3 :: l4 :: l5 :: l6 :: l7 :: l8 :: l9 :: l10 :: .val (.int x) :: L) S k n H Q ↔ W (pj lw) 6 144 (l0 :: l1 :: l2 :: l3 :: l4 :: l5 :: l6 :: l7 :: l8 :: l9 :: l10 :: .val (.int x) :: L) (.int x :: S) k n H Q := W_s (rfl : (pj lw).1 6 142 = some (.iload 11, 2, 0)) rfl rfl rfl
theorem w6_144 {x : Int32} : W (pj lw) 6 144 L (.int x :: S) k n H Q ↔ (if x = 0 then W (pj lw) 6 156 L S k n H Q else W (pj lw) 6 147 L S k n H Q) := W_if_eq (rfl : (pj lw).1 6 144 = some (.ifCond .eq 12, 3, 0)) rfl
theorem w6_147 {x : Int32} {l0 l1 l2 l3 l4 l5 l6 l7 l8 l9 l10 l11 : Slot} : W (pj lw) 6 147 (l0 :: l1 :: l2 :: l3 :: l4 :: l5 :: l6 :: l7 :: l8 :: l9 :: l10 :: l11 :: .val (.int x) :: L) S k n H Q ↔ W (pj lw) 6 149 (l0 :: l1 :: l2 :: l3 :: l4 :: l5 :: l6 :: l7 :: l8 :: l9 :: l10 :: l11 :: .val (.int x) :: L) (.int x :: S) k n H Q := W_s (rfl : (pj lw).1 6 147 = some (.iload 12, 2, 0)) rfl rfl rfl
theorem w6_149 {x : Int32} : W (pj lw) 6 149 L (.int x :: S) k n H Q ↔ (if x = 0 then W (pj lw) 6 156 L S k n H Q else W (pj lw) 6 152 L S k n H Q) := W_if_eq (rfl : (pj lw).1 6 149 = some (.ifCond .eq 7, 3, 0)) rfl
theorem w6_152 : W (pj lw) 6 152 L S k n H Q ↔ W (pj lw) 6 153 L (.int 1 :: S) k n H Q := W_s (rfl : (pj lw).1 6 152 = some (.iconst 1, 1, 0)) rfl rfl rfl
theorem w6_153 : W (pj lw) 6 153 L S k n H Q ↔ W (pj lw) 6 157 L S k n H Q := W_goto (rfl : (pj lw).1 6 153 = some (.goto 4, 3, 0)) rfl
theorem w6_156 : W (pj lw) 6 156 L S k n H Q ↔ W (pj lw) 6 157 L (.int 0 :: S) k n H Q := W_s (rfl : (pj lw).1 6 156 = some (.iconst 0, 1, 0)) rfl rfl rfl
theorem w6_157 {x : Int32} : W (pj lw) 6 157 L (.int x :: S) k n H Q ↔ ((x = 0 ∨ x = 1) ∧ Q (some (.int x)) H) := W_rz (rfl : (pj lw).1 6 157 = some (.ireturn, 1, 0)) rfl
theorem c7 {x0 : Nat} {x1 : Int32} : Cl (pj lw) 7 [.ref x0, .int x1] H Q ↔ W (pj lw) 7 0 [.val (.ref x0), .val (.int x1)] [] 0 0 H Q := cl_unf rfl
theorem w7_0 {x : Int32} {l0 : Slot} : W (pj lw) 7 0 (l0 :: .val (.int x) :: L) S k n H Q ↔ W (pj lw) 7 1 (l0 :: .val (.int x) :: L) (.int x :: S) k n H Q := W_s (rfl : (pj lw).1 7 0 = some (.iload_n 1, 1, 0)) rfl rfl rfl
theorem w7_1 : W (pj lw) 7 1 L S k n H Q ↔ W (pj lw) 7 2 L (.int 1 :: S) k n H Q := W_s (rfl : (pj lw).1 7 1 = some (.iconst 1, 1, 0)) rfl rfl rfl
theorem w7_2 {x y : Int32} : W (pj lw) 7 2 L (.int y :: .int x :: S) k n H Q ↔ (if x < y then W (pj lw) 7 17 L S k n H Q else W (pj lw) 7 5 L S k n H Q) := W_icmp_lt (rfl : (pj lw).1 7 2 = some (.if_icmp .lt 15, 3, 0)) rfl
theorem w7_5 {x : Int32} {l0 : Slot} : W (pj lw) 7 5 (l0 :: .val (.int x) :: L) S k n H Q ↔ W (pj lw) 7 6 (l0 :: .val (.int x) :: L) (.int x :: S) k n H Q := W_s (rfl : (pj lw).1 7 5 = some (.iload_n 1, 1, 0)) rfl rfl rfl
theorem w7_6 {x : Nat} : W (pj lw) 7 6 (.val (.ref x) :: L) S k n H Q ↔ W (pj lw) 7 7 (.val (.ref x) :: L) (.ref x :: S) k n H Q := W_s (rfl : (pj lw).1 7 6 = some (.aload_n 0, 1, 0)) rfl rfl rfl
theorem w7_7 {a : Nat} : W (pj lw) 7 7 L (.ref a :: S) k n H Q ↔ (isO H a = true ∧ W (pj lw) 7 10 L (fld H a 4 :: S) k n H Q) := W_getf (rfl : (pj lw).1 7 7 = some (.getfield 66, 3, 4))
theorem w7_10 {x y : Int32} : W (pj lw) 7 10 L (.int y :: .int x :: S) k n H Q ↔ (if y < x then W (pj lw) 7 17 L S k n H Q else W (pj lw) 7 13 L S k n H Q) := W_icmp_gt (rfl : (pj lw).1 7 10 = some (.if_icmp .gt 7, 3, 0)) rfl
theorem w7_13 : W (pj lw) 7 13 L S k n H Q ↔ W (pj lw) 7 14 L (.int 1 :: S) k n H Q := W_s (rfl : (pj lw).1 7 13 = some (.iconst 1, 1, 0)) rfl rfl rfl
theorem w7_14 : W (pj lw) 7 14 L S k n H Q ↔ W (pj lw) 7 18 L S k n H Q := W_goto (rfl : (pj lw).1 7 14 = some (.goto 4, 3, 0)) rfl
theorem w7_17 : W (pj lw) 7 17 L S k n H Q ↔ W (pj lw) 7 18 L (.int 0 :: S) k n H Q := W_s (rfl : (pj lw).1 7 17 = some (.iconst 0, 1, 0)) rfl rfl rfl
theorem w7_18 {x : Int32} : W (pj lw) 7 18 L (.int x :: S) k n H Q ↔ ((x = 0 ∨ x = 1) ∧ Q (some (.int x)) H) := W_rz (rfl : (pj lw).1 7 18 = some (.ireturn, 1, 0)) rfl
theorem c8 {x0 : Nat} {x1 : Int32} : Cl (pj lw) 8 [.ref x0, .int x1] H Q ↔ W (pj lw) 8 0 [.val (.ref x0), .val (.int x1)] [] 0 0 H Q := cl_unf rfl
theorem w8_0 {x : Int32} {l0 : Slot} : W (pj lw) 8 0 (l0 :: .val (.int x) :: L) S k n H Q ↔ W (pj lw) 8 1 (l0 :: .val (.int x) :: L) (.int x :: S) k n H Q := W_s (rfl : (pj lw).1 8 0 = some (.iload_n 1, 1, 0)) rfl rfl rfl
theorem w8_1 : W (pj lw) 8 1 L S k n H Q ↔ W (pj lw) 8 2 L (.int 1 :: S) k n H Q := W_s (rfl : (pj lw).1 8 1 = some (.iconst 1, 1, 0)) rfl rfl rfl
theorem w8_2 {x y : Int32} : W (pj lw) 8 2 L (.int y :: .int x :: S) k n H Q ↔ (if x < y then W (pj lw) 8 17 L S k n H Q else W (pj lw) 8 5 L S k n H Q) := W_icmp_lt (rfl : (pj lw).1 8 2 = some (.if_icmp .lt 15, 3, 0)) rfl
theorem w8_5 {x : Int32} {l0 : Slot} : W (pj lw) 8 5 (l0 :: .val (.int x) :: L) S k n H Q ↔ W (pj lw) 8 6 (l0 :: .val (.int x) :: L) (.int x :: S) k n H Q := W_s (rfl : (pj lw).1 8 5 = some (.iload_n 1, 1, 0)) rfl rfl rfl
theorem w8_6 {x : Nat} : W (pj lw) 8 6 (.val (.ref x) :: L) S k n H Q ↔ W (pj lw) 8 7 (.val (.ref x) :: L) (.ref x :: S) k n H Q := W_s (rfl : (pj lw).1 8 6 = some (.aload_n 0, 1, 0)) rfl rfl rfl
theorem w8_7 {a : Nat} : W (pj lw) 8 7 L (.ref a :: S) k n H Q ↔ (isO H a = true ∧ W (pj lw) 8 10 L (fld H a 0 :: S) k n H Q) := W_getf (rfl : (pj lw).1 8 7 = some (.getfield 49, 3, 0))
theorem w8_10 {x y : Int32} : W (pj lw) 8 10 L (.int y :: .int x :: S) k n H Q ↔ (if y < x then W (pj lw) 8 17 L S k n H Q else W (pj lw) 8 13 L S k n H Q) := W_icmp_gt (rfl : (pj lw).1 8 10 = some (.if_icmp .gt 7, 3, 0)) rfl
theorem w8_13 : W (pj lw) 8 13 L S k n H Q ↔ W (pj lw) 8 14 L (.int 1 :: S) k n H Q := W_s (rfl : (pj lw).1 8 13 = some (.iconst 1, 1, 0)) rfl rfl rfl
theorem w8_14 : W (pj lw) 8 14 L S k n H Q ↔ W (pj lw) 8 18 L S k n H Q := W_goto (rfl : (pj lw).1 8 14 = some (.goto 4, 3, 0)) rfl
theorem w8_17 : W (pj lw) 8 17 L S k n H Q ↔ W (pj lw) 8 18 L (.int 0 :: S) k n H Q := W_s (rfl : (pj lw).1 8 17 = some (.iconst 0, 1, 0)) rfl rfl rfl
theorem w8_18 {x : Int32} : W (pj lw) 8 18 L (.int x :: S) k n H Q ↔ ((x = 0 ∨ x = 1) ∧ Q (some (.int x)) H) := W_rz (rfl : (pj lw).1 8 18 = some (.ireturn, 1, 0)) rfl
theorem c9 {x0 : Nat} {x1 : Int32} {x2 : Int32} {x3 : Int32} : Cl (pj lw) 9 [.ref x0, .int x1, .int x2, .int x3] H Q ↔ W (pj lw) 9 0 [.val (.ref x0), .val (.int x1), .val (.int x2), .val (.int x3)] [] 0 0 H Q := cl_unf rfl
theorem w9_0 {x : Nat} : W (pj lw) 9 0 (.val (.ref x) :: L) S k n H Q ↔ W (pj lw) 9 1 (.val (.ref x) :: L) (.ref x :: S) k n H Q := W_s (rfl : (pj lw).1 9 0 = some (.aload_n 0, 1, 0)) rfl rfl rfl
theorem w9_1 {a : Nat} : W (pj lw) 9 1 L (.ref a :: S) k n H Q ↔ (isO H a = true ∧ W (pj lw) 9 4 L (fld H a 4 :: S) k n H Q) := W_getf (rfl : (pj lw).1 9 1 = some (.getfield 66, 3, 4))
theorem w9_4 : W (pj lw) 9 4 L S k n H Q ↔ W (pj lw) 9 6 L (.int 32 :: S) k n H Q := W_s (rfl : (pj lw).1 9 4 = some (.bipush 32, 2, 0)) rfl rfl rfl
theorem w9_6 {x y : Int32} : W (pj lw) 9 6 L (.int y :: .int x :: S) k n H Q ↔ (if x < y then W (pj lw) 9 11 L S k n H Q else W (pj lw) 9 9 L S k n H Q) := W_icmp_lt (rfl : (pj lw).1 9 6 = some (.if_icmp .lt 5, 3, 0)) rfl
theorem w9_9 : W (pj lw) 9 9 L S k n H Q ↔ W (pj lw) 9 10 L (.int (-1) :: S) k n H Q := W_s (rfl : (pj lw).1 9 9 = some (.iconst (-1), 1, 0)) rfl rfl rfl
theorem w9_10 {x : Int32} : W (pj lw) 9 10 L (.int x :: S) k n H Q ↔ Q (some (.int x)) H := W_r (rfl : (pj lw).1 9 10 = some (.ireturn, 1, 0)) rfl
theorem w9_11 {x : Int32} {l0 : Slot} : W (pj lw) 9 11 (l0 :: .val (.int x) :: L) S k n H Q ↔ W (pj lw) 9 12 (l0 :: .val (.int x) :: L) (.int x :: S) k n H Q := W_s (rfl : (pj lw).1 9 11 = some (.iload_n 1, 1, 0)) rfl rfl rfl
theorem w9_12 : W (pj lw) 9 12 L S k n H Q ↔ W (pj lw) 9 13 L (.int 1 :: S) k n H Q := W_s (rfl : (pj lw).1 9 12 = some (.iconst 1, 1, 0)) rfl rfl rfl
theorem w9_13 {x y : Int32} : W (pj lw) 9 13 L (.int y :: .int x :: S) k n H Q ↔ (if x = y then W (pj lw) 9 24 L S k n H Q else W (pj lw) 9 16 L S k n H Q) := W_icmp_eq (rfl : (pj lw).1 9 13 = some (.if_icmp .eq 11, 3, 0)) rfl
theorem w9_16 {x : Int32} {l0 : Slot} : W (pj lw) 9 16 (l0 :: .val (.int x) :: L) S k n H Q ↔ W (pj lw) 9 17 (l0 :: .val (.int x) :: L) (.int x :: S) k n H Q := W_s (rfl : (pj lw).1 9 16 = some (.iload_n 1, 1, 0)) rfl rfl rfl
theorem w9_17 : W (pj lw) 9 17 L S k n H Q ↔ W (pj lw) 9 18 L (.int 2 :: S) k n H Q := W_s (rfl : (pj lw).1 9 17 = some (.iconst 2, 1, 0)) rfl rfl rfl
theorem w9_18 {x y : Int32} : W (pj lw) 9 18 L (.int y :: .int x :: S) k n H Q ↔ (if x = y then W (pj lw) 9 24 L S k n H Q else W (pj lw) 9 21 L S k n H Q) := W_icmp_eq (rfl : (pj lw).1 9 18 = some (.if_icmp .eq 6, 3, 0)) rfl
theorem w9_21 : W (pj lw) 9 21 L S k n H Q ↔ W (pj lw) 9 23 L (.int (-2) :: S) k n H Q := W_s (rfl : (pj lw).1 9 21 = some (.bipush (-2), 2, 0)) rfl rfl rfl
theorem w9_23 {x : Int32} : W (pj lw) 9 23 L (.int x :: S) k n H Q ↔ Q (some (.int x)) H := W_r (rfl : (pj lw).1 9 23 = some (.ireturn, 1, 0)) rfl
theorem w9_24 {x : Int32} {l0 l1 : Slot} : W (pj lw) 9 24 (l0 :: l1 :: .val (.int x) :: L) S k n H Q ↔ W (pj lw) 9 25 (l0 :: l1 :: .val (.int x) :: L) (.int x :: S) k n H Q := W_s (rfl : (pj lw).1 9 24 = some (.iload_n 2, 1, 0)) rfl rfl rfl
theorem w9_25 {x : Int32} : W (pj lw) 9 25 L (.int x :: S) k n H Q ↔ (if x = 0 then W (pj lw) 9 28 L S k n H Q else W (pj lw) 9 32 L S k n H Q) := W_if_ne (rfl : (pj lw).1 9 25 = some (.ifCond .ne 7, 3, 0)) rfl
theorem w9_28 : W (pj lw) 9 28 L S k n H Q ↔ W (pj lw) 9 29 L (.int 1 :: S) k n H Q := W_s (rfl : (pj lw).1 9 28 = some (.iconst 1, 1, 0)) rfl rfl rfl
theorem w9_29 : W (pj lw) 9 29 L S k n H Q ↔ W (pj lw) 9 33 L S k n H Q := W_goto (rfl : (pj lw).1 9 29 = some (.goto 4, 3, 0)) rfl
theorem w9_32 : W (pj lw) 9 32 L S k n H Q ↔ W (pj lw) 9 33 L (.int 0 :: S) k n H Q := W_s (rfl : (pj lw).1 9 32 = some (.iconst 0, 1, 0)) rfl rfl rfl
theorem w9_33 {x : Int32} {l0 l1 l2 : Slot} : W (pj lw) 9 33 (l0 :: l1 :: l2 :: .val (.int x) :: L) S k n H Q ↔ W (pj lw) 9 34 (l0 :: l1 :: l2 :: .val (.int x) :: L) (.int x :: S) k n H Q := W_s (rfl : (pj lw).1 9 33 = some (.iload_n 3, 1, 0)) rfl rfl rfl
theorem w9_34 {x : Int32} : W (pj lw) 9 34 L (.int x :: S) k n H Q ↔ (if x = 0 then W (pj lw) 9 37 L S k n H Q else W (pj lw) 9 41 L S k n H Q) := W_if_ne (rfl : (pj lw).1 9 34 = some (.ifCond .ne 7, 3, 0)) rfl
theorem w9_37 : W (pj lw) 9 37 L S k n H Q ↔ W (pj lw) 9 38 L (.int 1 :: S) k n H Q := W_s (rfl : (pj lw).1 9 37 = some (.iconst 1, 1, 0)) rfl rfl rfl
theorem w9_38 : W (pj lw) 9 38 L S k n H Q ↔ W (pj lw) 9 42 L S k n H Q := W_goto (rfl : (pj lw).1 9 38 = some (.goto 4, 3, 0)) rfl
theorem w9_41 : W (pj lw) 9 41 L S k n H Q ↔ W (pj lw) 9 42 L (.int 0 :: S) k n H Q := W_s (rfl : (pj lw).1 9 41 = some (.iconst 0, 1, 0)) rfl rfl rfl
theorem w9_42 {x y : Int32} : W (pj lw) 9 42 L (.int y :: .int x :: S) k n H Q ↔ (if x = y then W (pj lw) 9 48 L S k n H Q else W (pj lw) 9 45 L S k n H Q) := W_icmp_eq (rfl : (pj lw).1 9 42 = some (.if_icmp .eq 6, 3, 0)) rfl
theorem w9_45 : W (pj lw) 9 45 L S k n H Q ↔ W (pj lw) 9 47 L (.int (-2) :: S) k n H Q := W_s (rfl : (pj lw).1 9 45 = some (.bipush (-2), 2, 0)) rfl rfl rfl
theorem w9_47 {x : Int32} : W (pj lw) 9 47 L (.int x :: S) k n H Q ↔ Q (some (.int x)) H := W_r (rfl : (pj lw).1 9 47 = some (.ireturn, 1, 0)) rfl
theorem w9_48 {x : Int32} {l0 l1 : Slot} : W (pj lw) 9 48 (l0 :: l1 :: .val (.int x) :: L) S k n H Q ↔ W (pj lw) 9 49 (l0 :: l1 :: .val (.int x) :: L) (.int x :: S) k n H Q := W_s (rfl : (pj lw).1 9 48 = some (.iload_n 2, 1, 0)) rfl rfl rfl
theorem w9_49 {x : Int32} : W (pj lw) 9 49 L (.int x :: S) k n H Q ↔ (if x = 0 then W (pj lw) 9 100 L S k n H Q else W (pj lw) 9 52 L S k n H Q) := W_if_eq (rfl : (pj lw).1 9 49 = some (.ifCond .eq 51, 3, 0)) rfl
theorem w9_52 {x : Nat} : W (pj lw) 9 52 (.val (.ref x) :: L) S k n H Q ↔ W (pj lw) 9 53 (.val (.ref x) :: L) (.ref x :: S) k n H Q := W_s (rfl : (pj lw).1 9 52 = some (.aload_n 0, 1, 0)) rfl rfl rfl
theorem w9_53 {x : Int32} {l0 l1 : Slot} : W (pj lw) 9 53 (l0 :: l1 :: .val (.int x) :: L) S k n H Q ↔ W (pj lw) 9 54 (l0 :: l1 :: .val (.int x) :: L) (.int x :: S) k n H Q := W_s (rfl : (pj lw).1 9 53 = some (.iload_n 2, 1, 0)) rfl rfl rfl
theorem w9_54 {a : Nat} {x0 : Int32} : W (pj lw) 9 54 L (.int x0 :: .ref a :: S) k n H Q ↔ ((isO H a = true ∧ cs S + (2 + 11) + 0 ≤ 13) ∧ Cl (pj lw) 7 [.ref a, .int x0] H (fun v H => W (pj lw) 9 57 L (v.toList ++ S) k n H Q)) := W_inst (as := [.int x0]) (rfl : (pj lw).1 9 54 = some (.invokevirtual 99, 3, 7)) rfl rfl rfl (Nat.le_of_ble_eq_true rfl) (Nat.le_of_ble_eq_true rfl) ⟨rfl, rfl⟩
theorem w9_57 {x : Int32} : W (pj lw) 9 57 L (.int x :: S) k n H Q ↔ (if x = 0 then W (pj lw) 9 60 L S k n H Q else W (pj lw) 9 63 L S k n H Q) := W_if_ne (rfl : (pj lw).1 9 57 = some (.ifCond .ne 6, 3, 0)) rfl
theorem w9_60 : W (pj lw) 9 60 L S k n H Q ↔ W (pj lw) 9 62 L (.int (-3) :: S) k n H Q := W_s (rfl : (pj lw).1 9 60 = some (.bipush (-3), 2, 0)) rfl rfl rfl
theorem w9_62 {x : Int32} : W (pj lw) 9 62 L (.int x :: S) k n H Q ↔ Q (some (.int x)) H := W_r (rfl : (pj lw).1 9 62 = some (.ireturn, 1, 0)) rfl
theorem w9_63 {x : Nat} : W (pj lw) 9 63 (.val (.ref x) :: L) S k n H Q ↔ W (pj lw) 9 64 (.val (.ref x) :: L) (.ref x :: S) k n H Q := W_s (rfl : (pj lw).1 9 63 = some (.aload_n 0, 1, 0)) rfl rfl rfl
theorem w9_64 {x : Int32} {l0 l1 l2 : Slot} : W (pj lw) 9 64 (l0 :: l1 :: l2 :: .val (.int x) :: L) S k n H Q ↔ W (pj lw) 9 65 (l0 :: l1 :: l2 :: .val (.int x) :: L) (.int x :: S) k n H Q := W_s (rfl : (pj lw).1 9 64 = some (.iload_n 3, 1, 0)) rfl rfl rfl
theorem w9_65 {a : Nat} {x0 : Int32} : W (pj lw) 9 65 L (.int x0 :: .ref a :: S) k n H Q ↔ ((isO H a = true ∧ cs S + (2 + 11) + 0 ≤ 13) ∧ Cl (pj lw) 7 [.ref a, .int x0] H (fun v H => W (pj lw) 9 68 L (v.toList ++ S) k n H Q)) := W_inst (as := [.int x0]) (rfl : (pj lw).1 9 65 = some (.invokevirtual 99, 3, 7)) rfl rfl rfl (Nat.le_of_ble_eq_true rfl) (Nat.le_of_ble_eq_true rfl) ⟨rfl, rfl⟩
theorem w9_68 {x : Int32} : W (pj lw) 9 68 L (.int x :: S) k n H Q ↔ (if x = 0 then W (pj lw) 9 71 L S k n H Q else W (pj lw) 9 74 L S k n H Q) := W_if_ne (rfl : (pj lw).1 9 68 = some (.ifCond .ne 6, 3, 0)) rfl
theorem w9_71 : W (pj lw) 9 71 L S k n H Q ↔ W (pj lw) 9 73 L (.int (-3) :: S) k n H Q := W_s (rfl : (pj lw).1 9 71 = some (.bipush (-3), 2, 0)) rfl rfl rfl
theorem w9_73 {x : Int32} : W (pj lw) 9 73 L (.int x :: S) k n H Q ↔ Q (some (.int x)) H := W_r (rfl : (pj lw).1 9 73 = some (.ireturn, 1, 0)) rfl
theorem w9_74 {x : Nat} : W (pj lw) 9 74 (.val (.ref x) :: L) S k n H Q ↔ W (pj lw) 9 75 (.val (.ref x) :: L) (.ref x :: S) k n H Q := W_s (rfl : (pj lw).1 9 74 = some (.aload_n 0, 1, 0)) rfl rfl rfl
theorem w9_75 {a : Nat} : W (pj lw) 9 75 L (.ref a :: S) k n H Q ↔ (isO H a = true ∧ W (pj lw) 9 78 L (fld H a 5 :: S) k n H Q) := W_getf (rfl : (pj lw).1 9 75 = some (.getfield 7, 3, 5))
theorem w9_78 {x : Int32} {l0 l1 : Slot} : W (pj lw) 9 78 (l0 :: l1 :: .val (.int x) :: L) S k n H Q ↔ W (pj lw) 9 79 (l0 :: l1 :: .val (.int x) :: L) (.int x :: S) k n H Q := W_s (rfl : (pj lw).1 9 78 = some (.iload_n 2, 1, 0)) rfl rfl rfl
theorem w9_79 {i : Int32} {a : Nat} : W (pj lw) 9 79 L (.int i :: .ref a :: S) k n H Q ↔ (inA H a .int i = true ∧ W (pj lw) 9 80 L (elt H a i :: S) k n H Q) := W_iaload (rfl : (pj lw).1 9 79 = some (.iaload, 1, 0))
theorem w9_80 : W (pj lw) 9 80 L S k n H Q ↔ W (pj lw) 9 81 L (.int 1 :: S) k n H Q := W_s (rfl : (pj lw).1 9 80 = some (.iconst 1, 1, 0)) rfl rfl rfl
theorem w9_81 {x y : Int32} : W (pj lw) 9 81 L (.int y :: .int x :: S) k n H Q ↔ (if x = y then W (pj lw) 9 87 L S k n H Q else W (pj lw) 9 84 L S k n H Q) := W_icmp_eq (rfl : (pj lw).1 9 81 = some (.if_icmp .eq 6, 3, 0)) rfl
theorem w9_84 : W (pj lw) 9 84 L S k n H Q ↔ W (pj lw) 9 86 L (.int (-4) :: S) k n H Q := W_s (rfl : (pj lw).1 9 84 = some (.bipush (-4), 2, 0)) rfl rfl rfl
theorem w9_86 {x : Int32} : W (pj lw) 9 86 L (.int x :: S) k n H Q ↔ Q (some (.int x)) H := W_r (rfl : (pj lw).1 9 86 = some (.ireturn, 1, 0)) rfl
theorem w9_87 {x : Nat} : W (pj lw) 9 87 (.val (.ref x) :: L) S k n H Q ↔ W (pj lw) 9 88 (.val (.ref x) :: L) (.ref x :: S) k n H Q := W_s (rfl : (pj lw).1 9 87 = some (.aload_n 0, 1, 0)) rfl rfl rfl
theorem w9_88 {a : Nat} : W (pj lw) 9 88 L (.ref a :: S) k n H Q ↔ (isO H a = true ∧ W (pj lw) 9 91 L (fld H a 5 :: S) k n H Q) := W_getf (rfl : (pj lw).1 9 88 = some (.getfield 7, 3, 5))
theorem w9_91 {x : Int32} {l0 l1 l2 : Slot} : W (pj lw) 9 91 (l0 :: l1 :: l2 :: .val (.int x) :: L) S k n H Q ↔ W (pj lw) 9 92 (l0 :: l1 :: l2 :: .val (.int x) :: L) (.int x :: S) k n H Q := W_s (rfl : (pj lw).1 9 91 = some (.iload_n 3, 1, 0)) rfl rfl rfl
theorem w9_92 {i : Int32} {a : Nat} : W (pj lw) 9 92 L (.int i :: .ref a :: S) k n H Q ↔ (inA H a .int i = true ∧ W (pj lw) 9 93 L (elt H a i :: S) k n H Q) := W_iaload (rfl : (pj lw).1 9 92 = some (.iaload, 1, 0))
theorem w9_93 : W (pj lw) 9 93 L S k n H Q ↔ W (pj lw) 9 94 L (.int 2 :: S) k n H Q := W_s (rfl : (pj lw).1 9 93 = some (.iconst 2, 1, 0)) rfl rfl rfl
theorem w9_94 {x y : Int32} : W (pj lw) 9 94 L (.int y :: .int x :: S) k n H Q ↔ (if x = y then W (pj lw) 9 100 L S k n H Q else W (pj lw) 9 97 L S k n H Q) := W_icmp_eq (rfl : (pj lw).1 9 94 = some (.if_icmp .eq 6, 3, 0)) rfl
theorem w9_97 : W (pj lw) 9 97 L S k n H Q ↔ W (pj lw) 9 99 L (.int (-4) :: S) k n H Q := W_s (rfl : (pj lw).1 9 97 = some (.bipush (-4), 2, 0)) rfl rfl rfl
theorem w9_99 {x : Int32} : W (pj lw) 9 99 L (.int x :: S) k n H Q ↔ Q (some (.int x)) H := W_r (rfl : (pj lw).1 9 99 = some (.ireturn, 1, 0)) rfl
theorem w9_100 {x : Nat} : W (pj lw) 9 100 (.val (.ref x) :: L) S k n H Q ↔ W (pj lw) 9 101 (.val (.ref x) :: L) (.ref x :: S) k n H Q := W_s (rfl : (pj lw).1 9 100 = some (.aload_n 0, 1, 0)) rfl rfl rfl
theorem w9_101 {x : Nat} : W (pj lw) 9 101 L (.ref x :: S) k n H Q ↔ W (pj lw) 9 102 L (.ref x :: .ref x :: S) k n H Q := W_s (rfl : (pj lw).1 9 101 = some (.dup, 1, 0)) rfl rfl rfl
theorem w9_102 {a : Nat} : W (pj lw) 9 102 L (.ref a :: S) k n H Q ↔ (isO H a = true ∧ W (pj lw) 9 105 L (fld H a 4 :: S) k n H Q) := W_getf (rfl : (pj lw).1 9 102 = some (.getfield 66, 3, 4))
theorem w9_105 : W (pj lw) 9 105 L S k n H Q ↔ W (pj lw) 9 106 L (.int 1 :: S) k n H Q := W_s (rfl : (pj lw).1 9 105 = some (.iconst 1, 1, 0)) rfl rfl rfl
theorem w9_106 {x y : Int32} : W (pj lw) 9 106 L (.int y :: .int x :: S) k n H Q ↔ W (pj lw) 9 107 L (.int (x + y) :: S) k n H Q := W_s (rfl : (pj lw).1 9 106 = some (.iadd, 1, 0)) rfl rfl rfl
theorem w9_107 {a : Nat} {v : Value} : W (pj lw) 9 107 L (v :: .ref a :: S) k n H Q ↔ ((isOw H a = true ∧ okv (.int) v = true) ∧ W (pj lw) 9 110 L S k n (wr H a 4 v) Q) := W_putf (rfl : (pj lw).1 9 107 = some (.putfield 66, 3, 4))
theorem w9_110 {x : Nat} : W (pj lw) 9 110 (.val (.ref x) :: L) S k n H Q ↔ W (pj lw) 9 111 (.val (.ref x) :: L) (.ref x :: S) k n H Q := W_s (rfl : (pj lw).1 9 110 = some (.aload_n 0, 1, 0)) rfl rfl rfl
theorem w9_111 {a : Nat} : W (pj lw) 9 111 L (.ref a :: S) k n H Q ↔ (isO H a = true ∧ W (pj lw) 9 114 L (fld H a 5 :: S) k n H Q) := W_getf (rfl : (pj lw).1 9 111 = some (.getfield 7, 3, 5))
theorem w9_114 {x : Nat} : W (pj lw) 9 114 (.val (.ref x) :: L) S k n H Q ↔ W (pj lw) 9 115 (.val (.ref x) :: L) (.ref x :: S) k n H Q := W_s (rfl : (pj lw).1 9 114 = some (.aload_n 0, 1, 0)) rfl rfl rfl
theorem w9_115 {a : Nat} : W (pj lw) 9 115 L (.ref a :: S) k n H Q ↔ (isO H a = true ∧ W (pj lw) 9 118 L (fld H a 4 :: S) k n H Q) := W_getf (rfl : (pj lw).1 9 115 = some (.getfield 66, 3, 4))
theorem w9_118 {x : Int32} {l0 : Slot} : W (pj lw) 9 118 (l0 :: .val (.int x) :: L) S k n H Q ↔ W (pj lw) 9 119 (l0 :: .val (.int x) :: L) (.int x :: S) k n H Q := W_s (rfl : (pj lw).1 9 118 = some (.iload_n 1, 1, 0)) rfl rfl rfl
theorem w9_119 {x i : Int32} {a : Nat} : W (pj lw) 9 119 L (.int x :: .int i :: .ref a :: S) k n H Q ↔ (inAw H a .int i = true ∧ W (pj lw) 9 120 L S k n (wr H a i.toNatClampNeg (.int x)) Q) := W_iastore (rfl : (pj lw).1 9 119 = some (.iastore, 1, 0))
theorem w9_120 {x : Nat} : W (pj lw) 9 120 (.val (.ref x) :: L) S k n H Q ↔ W (pj lw) 9 121 (.val (.ref x) :: L) (.ref x :: S) k n H Q := W_s (rfl : (pj lw).1 9 120 = some (.aload_n 0, 1, 0)) rfl rfl rfl
theorem w9_121 {a : Nat} : W (pj lw) 9 121 L (.ref a :: S) k n H Q ↔ (isO H a = true ∧ W (pj lw) 9 124 L (fld H a 6 :: S) k n H Q) := W_getf (rfl : (pj lw).1 9 121 = some (.getfield 13, 3, 6))
theorem w9_124 {x : Nat} : W (pj lw) 9 124 (.val (.ref x) :: L) S k n H Q ↔ W (pj lw) 9 125 (.val (.ref x) :: L) (.ref x :: S) k n H Q := W_s (rfl : (pj lw).1 9 124 = some (.aload_n 0, 1, 0)) rfl rfl rfl
theorem w9_125 {a : Nat} : W (pj lw) 9 125 L (.ref a :: S) k n H Q ↔ (isO H a = true ∧ W (pj lw) 9 128 L (fld H a 4 :: S) k n H Q) := W_getf (rfl : (pj lw).1 9 125 = some (.getfield 66, 3, 4))
theorem w9_128 {x : Int32} {l0 l1 : Slot} : W (pj lw) 9 128 (l0 :: l1 :: .val (.int x) :: L) S k n H Q ↔ W (pj lw) 9 129 (l0 :: l1 :: .val (.int x) :: L) (.int x :: S) k n H Q := W_s (rfl : (pj lw).1 9 128 = some (.iload_n 2, 1, 0)) rfl rfl rfl
theorem w9_129 {x i : Int32} {a : Nat} : W (pj lw) 9 129 L (.int x :: .int i :: .ref a :: S) k n H Q ↔ (inAw H a .int i = true ∧ W (pj lw) 9 130 L S k n (wr H a i.toNatClampNeg (.int x)) Q) := W_iastore (rfl : (pj lw).1 9 129 = some (.iastore, 1, 0))
theorem w9_130 {x : Nat} : W (pj lw) 9 130 (.val (.ref x) :: L) S k n H Q ↔ W (pj lw) 9 131 (.val (.ref x) :: L) (.ref x :: S) k n H Q := W_s (rfl : (pj lw).1 9 130 = some (.aload_n 0, 1, 0)) rfl rfl rfl
theorem w9_131 {a : Nat} : W (pj lw) 9 131 L (.ref a :: S) k n H Q ↔ (isO H a = true ∧ W (pj lw) 9 134 L (fld H a 7 :: S) k n H Q) := W_getf (rfl : (pj lw).1 9 131 = some (.getfield 16, 3, 7))
theorem w9_134 {x : Nat} : W (pj lw) 9 134 (.val (.ref x) :: L) S k n H Q ↔ W (pj lw) 9 135 (.val (.ref x) :: L) (.ref x :: S) k n H Q := W_s (rfl : (pj lw).1 9 134 = some (.aload_n 0, 1, 0)) rfl rfl rfl
theorem w9_135 {a : Nat} : W (pj lw) 9 135 L (.ref a :: S) k n H Q ↔ (isO H a = true ∧ W (pj lw) 9 138 L (fld H a 4 :: S) k n H Q) := W_getf (rfl : (pj lw).1 9 135 = some (.getfield 66, 3, 4))
theorem w9_138 {x : Int32} {l0 l1 l2 : Slot} : W (pj lw) 9 138 (l0 :: l1 :: l2 :: .val (.int x) :: L) S k n H Q ↔ W (pj lw) 9 139 (l0 :: l1 :: l2 :: .val (.int x) :: L) (.int x :: S) k n H Q := W_s (rfl : (pj lw).1 9 138 = some (.iload_n 3, 1, 0)) rfl rfl rfl
theorem w9_139 {x i : Int32} {a : Nat} : W (pj lw) 9 139 L (.int x :: .int i :: .ref a :: S) k n H Q ↔ (inAw H a .int i = true ∧ W (pj lw) 9 140 L S k n (wr H a i.toNatClampNeg (.int x)) Q) := W_iastore (rfl : (pj lw).1 9 139 = some (.iastore, 1, 0))
theorem w9_140 {x : Nat} : W (pj lw) 9 140 (.val (.ref x) :: L) S k n H Q ↔ W (pj lw) 9 141 (.val (.ref x) :: L) (.ref x :: S) k n H Q := W_s (rfl : (pj lw).1 9 140 = some (.aload_n 0, 1, 0)) rfl rfl rfl
theorem w9_141 {a : Nat} : W (pj lw) 9 141 L (.ref a :: S) k n H Q ↔ (isO H a = true ∧ W (pj lw) 9 144 L (fld H a 8 :: S) k n H Q) := W_getf (rfl : (pj lw).1 9 141 = some (.getfield 19, 3, 8))
theorem w9_144 {x : Nat} : W (pj lw) 9 144 (.val (.ref x) :: L) S k n H Q ↔ W (pj lw) 9 145 (.val (.ref x) :: L) (.ref x :: S) k n H Q := W_s (rfl : (pj lw).1 9 144 = some (.aload_n 0, 1, 0)) rfl rfl rfl
theorem w9_145 {a : Nat} : W (pj lw) 9 145 L (.ref a :: S) k n H Q ↔ (isO H a = true ∧ W (pj lw) 9 148 L (fld H a 4 :: S) k n H Q) := W_getf (rfl : (pj lw).1 9 145 = some (.getfield 66, 3, 4))
theorem w9_148 : W (pj lw) 9 148 L S k n H Q ↔ W (pj lw) 9 149 L (.int (-1) :: S) k n H Q := W_s (rfl : (pj lw).1 9 148 = some (.iconst (-1), 1, 0)) rfl rfl rfl
theorem w9_149 {x i : Int32} {a : Nat} : W (pj lw) 9 149 L (.int x :: .int i :: .ref a :: S) k n H Q ↔ (inAw H a .int i = true ∧ W (pj lw) 9 150 L S k n (wr H a i.toNatClampNeg (.int x)) Q) := W_iastore (rfl : (pj lw).1 9 149 = some (.iastore, 1, 0))
theorem w9_150 {x : Nat} : W (pj lw) 9 150 (.val (.ref x) :: L) S k n H Q ↔ W (pj lw) 9 151 (.val (.ref x) :: L) (.ref x :: S) k n H Q := W_s (rfl : (pj lw).1 9 150 = some (.aload_n 0, 1, 0)) rfl rfl rfl
theorem w9_151 {a : Nat} : W (pj lw) 9 151 L (.ref a :: S) k n H Q ↔ (isO H a = true ∧ W (pj lw) 9 154 L (fld H a 9 :: S) k n H Q) := W_getf (rfl : (pj lw).1 9 151 = some (.getfield 22, 3, 9))
theorem w9_154 {x : Nat} : W (pj lw) 9 154 (.val (.ref x) :: L) S k n H Q ↔ W (pj lw) 9 155 (.val (.ref x) :: L) (.ref x :: S) k n H Q := W_s (rfl : (pj lw).1 9 154 = some (.aload_n 0, 1, 0)) rfl rfl rfl
theorem w9_155 {a : Nat} : W (pj lw) 9 155 L (.ref a :: S) k n H Q ↔ (isO H a = true ∧ W (pj lw) 9 158 L (fld H a 4 :: S) k n H Q) := W_getf (rfl : (pj lw).1 9 155 = some (.getfield 66, 3, 4))
theorem w9_158 : W (pj lw) 9 158 L S k n H Q ↔ W (pj lw) 9 159 L (.int 0 :: S) k n H Q := W_s (rfl : (pj lw).1 9 158 = some (.iconst 0, 1, 0)) rfl rfl rfl
theorem w9_159 {x i : Int32} {a : Nat} : W (pj lw) 9 159 L (.int x :: .int i :: .ref a :: S) k n H Q ↔ (inAw H a .int i = true ∧ W (pj lw) 9 160 L S k n (wr H a i.toNatClampNeg (.int x)) Q) := W_iastore (rfl : (pj lw).1 9 159 = some (.iastore, 1, 0))
theorem w9_160 {x : Nat} : W (pj lw) 9 160 (.val (.ref x) :: L) S k n H Q ↔ W (pj lw) 9 161 (.val (.ref x) :: L) (.ref x :: S) k n H Q := W_s (rfl : (pj lw).1 9 160 = some (.aload_n 0, 1, 0)) rfl rfl rfl
theorem w9_161 {a : Nat} : W (pj lw) 9 161 L (.ref a :: S) k n H Q ↔ (isO H a = true ∧ W (pj lw) 9 164 L (fld H a 10 :: S) k n H Q) := W_getf (rfl : (pj lw).1 9 161 = some (.getfield 25, 3, 10))
theorem w9_164 {x : Nat} : W (pj lw) 9 164 (.val (.ref x) :: L) S k n H Q ↔ W (pj lw) 9 165 (.val (.ref x) :: L) (.ref x :: S) k n H Q := W_s (rfl : (pj lw).1 9 164 = some (.aload_n 0, 1, 0)) rfl rfl rfl
theorem w9_165 {a : Nat} : W (pj lw) 9 165 L (.ref a :: S) k n H Q ↔ (isO H a = true ∧ W (pj lw) 9 168 L (fld H a 4 :: S) k n H Q) := W_getf (rfl : (pj lw).1 9 165 = some (.getfield 66, 3, 4))
theorem w9_168 : W (pj lw) 9 168 L S k n H Q ↔ W (pj lw) 9 169 L (.int 0 :: S) k n H Q := W_s (rfl : (pj lw).1 9 168 = some (.iconst 0, 1, 0)) rfl rfl rfl
theorem w9_169 {x i : Int32} {a : Nat} : W (pj lw) 9 169 L (.int x :: .int i :: .ref a :: S) k n H Q ↔ (inAw H a .int i = true ∧ W (pj lw) 9 170 L S k n (wr H a i.toNatClampNeg (.int x)) Q) := W_iastore (rfl : (pj lw).1 9 169 = some (.iastore, 1, 0))
theorem w9_170 {x : Nat} : W (pj lw) 9 170 (.val (.ref x) :: L) S k n H Q ↔ W (pj lw) 9 171 (.val (.ref x) :: L) (.ref x :: S) k n H Q := W_s (rfl : (pj lw).1 9 170 = some (.aload_n 0, 1, 0)) rfl rfl rfl
theorem w9_171 : W (pj lw) 9 171 L S k n H Q ↔ W (pj lw) 9 172 L (.int 0 :: S) k n H Q := W_s (rfl : (pj lw).1 9 171 = some (.iconst 0, 1, 0)) rfl rfl rfl
theorem w9_172 {a : Nat} {v : Value} : W (pj lw) 9 172 L (v :: .ref a :: S) k n H Q ↔ ((isOw H a = true ∧ okv (.boolean) v = true) ∧ W (pj lw) 9 175 L S k n (wr H a 13 v) Q) := W_putf (rfl : (pj lw).1 9 172 = some (.putfield 73, 3, 13))
theorem w9_175 {x : Nat} : W (pj lw) 9 175 (.val (.ref x) :: L) S k n H Q ↔ W (pj lw) 9 176 (.val (.ref x) :: L) (.ref x :: S) k n H Q := W_s (rfl : (pj lw).1 9 175 = some (.aload_n 0, 1, 0)) rfl rfl rfl
theorem w9_176 : W (pj lw) 9 176 L S k n H Q ↔ W (pj lw) 9 177 L (.int 0 :: S) k n H Q := W_s (rfl : (pj lw).1 9 176 = some (.iconst 0, 1, 0)) rfl rfl rfl
theorem w9_177 {a : Nat} {v : Value} : W (pj lw) 9 177 L (v :: .ref a :: S) k n H Q ↔ ((isOw H a = true ∧ okv (.boolean) v = true) ∧ W (pj lw) 9 180 L S k n (wr H a 12 v) Q) := W_putf (rfl : (pj lw).1 9 177 = some (.putfield 69, 3, 12))
theorem w9_180 {x : Nat} : W (pj lw) 9 180 (.val (.ref x) :: L) S k n H Q ↔ W (pj lw) 9 181 (.val (.ref x) :: L) (.ref x :: S) k n H Q := W_s (rfl : (pj lw).1 9 180 = some (.aload_n 0, 1, 0)) rfl rfl rfl
theorem w9_181 {a : Nat} : W (pj lw) 9 181 L (.ref a :: S) k n H Q ↔ (isO H a = true ∧ W (pj lw) 9 184 L (fld H a 4 :: S) k n H Q) := W_getf (rfl : (pj lw).1 9 181 = some (.getfield 66, 3, 4))
theorem w9_184 {x : Int32} : W (pj lw) 9 184 L (.int x :: S) k n H Q ↔ Q (some (.int x)) H := W_r (rfl : (pj lw).1 9 184 = some (.ireturn, 1, 0)) rfl
theorem c10 {x0 : Nat} {x1 : Int32} {x2 : Int32} {x3 : Int32} : Cl (pj lw) 10 [.ref x0, .int x1, .int x2, .int x3] H Q ↔ W (pj lw) 10 0 [.val (.ref x0), .val (.int x1), .val (.int x2), .val (.int x3)] [] 0 0 H Q := cl_unf rfl
theorem w10_0 {x : Nat} : W (pj lw) 10 0 (.val (.ref x) :: L) S k n H Q ↔ W (pj lw) 10 1 (.val (.ref x) :: L) (.ref x :: S) k n H Q := W_s (rfl : (pj lw).1 10 0 = some (.aload_n 0, 1, 0)) rfl rfl rfl
theorem w10_1 {x : Int32} {l0 : Slot} : W (pj lw) 10 1 (l0 :: .val (.int x) :: L) S k n H Q ↔ W (pj lw) 10 2 (l0 :: .val (.int x) :: L) (.int x :: S) k n H Q := W_s (rfl : (pj lw).1 10 1 = some (.iload_n 1, 1, 0)) rfl rfl rfl
theorem w10_2 {a : Nat} {x0 : Int32} : W (pj lw) 10 2 L (.int x0 :: .ref a :: S) k n H Q ↔ ((isO H a = true ∧ cs S + (2 + 11) + 0 ≤ 13) ∧ Cl (pj lw) 7 [.ref a, .int x0] H (fun v H => W (pj lw) 10 5 L (v.toList ++ S) k n H Q)) := W_inst (as := [.int x0]) (rfl : (pj lw).1 10 2 = some (.invokevirtual 99, 3, 7)) rfl rfl rfl (Nat.le_of_ble_eq_true rfl) (Nat.le_of_ble_eq_true rfl) ⟨rfl, rfl⟩
theorem w10_5 {x : Int32} : W (pj lw) 10 5 L (.int x :: S) k n H Q ↔ (if x = 0 then W (pj lw) 10 8 L S k n H Q else W (pj lw) 10 11 L S k n H Q) := W_if_ne (rfl : (pj lw).1 10 5 = some (.ifCond .ne 6, 3, 0)) rfl
theorem w10_8 : W (pj lw) 10 8 L S k n H Q ↔ W (pj lw) 10 10 L (.int (-5) :: S) k n H Q := W_s (rfl : (pj lw).1 10 8 = some (.bipush (-5), 2, 0)) rfl rfl rfl
theorem w10_10 {x : Int32} : W (pj lw) 10 10 L (.int x :: S) k n H Q ↔ Q (some (.int x)) H := W_r (rfl : (pj lw).1 10 10 = some (.ireturn, 1, 0)) rfl
theorem w10_11 {x : Nat} : W (pj lw) 10 11 (.val (.ref x) :: L) S k n H Q ↔ W (pj lw) 10 12 (.val (.ref x) :: L) (.ref x :: S) k n H Q := W_s (rfl : (pj lw).1 10 11 = some (.aload_n 0, 1, 0)) rfl rfl rfl
theorem w10_12 {x : Int32} {l0 l1 : Slot} : W (pj lw) 10 12 (l0 :: l1 :: .val (.int x) :: L) S k n H Q ↔ W (pj lw) 10 13 (l0 :: l1 :: .val (.int x) :: L) (.int x :: S) k n H Q := W_s (rfl : (pj lw).1 10 12 = some (.iload_n 2, 1, 0)) rfl rfl rfl
theorem w10_13 {a : Nat} {x0 : Int32} : W (pj lw) 10 13 L (.int x0 :: .ref a :: S) k n H Q ↔ ((isO H a = true ∧ cs S + (2 + 11) + 0 ≤ 13) ∧ Cl (pj lw) 8 [.ref a, .int x0] H (fun v H => W (pj lw) 10 16 L (v.toList ++ S) k n H Q)) := W_inst (as := [.int x0]) (rfl : (pj lw).1 10 13 = some (.invokevirtual 103, 3, 8)) rfl rfl rfl (Nat.le_of_ble_eq_true rfl) (Nat.le_of_ble_eq_true rfl) ⟨rfl, rfl⟩
theorem w10_16 {x : Int32} : W (pj lw) 10 16 L (.int x :: S) k n H Q ↔ (if x = 0 then W (pj lw) 10 27 L S k n H Q else W (pj lw) 10 19 L S k n H Q) := W_if_eq (rfl : (pj lw).1 10 16 = some (.ifCond .eq 11, 3, 0)) rfl
theorem w10_19 {x : Nat} : W (pj lw) 10 19 (.val (.ref x) :: L) S k n H Q ↔ W (pj lw) 10 20 (.val (.ref x) :: L) (.ref x :: S) k n H Q := W_s (rfl : (pj lw).1 10 19 = some (.aload_n 0, 1, 0)) rfl rfl rfl
theorem w10_20 {x : Int32} {l0 l1 l2 : Slot} : W (pj lw) 10 20 (l0 :: l1 :: l2 :: .val (.int x) :: L) S k n H Q ↔ W (pj lw) 10 21 (l0 :: l1 :: l2 :: .val (.int x) :: L) (.int x :: S) k n H Q := W_s (rfl : (pj lw).1 10 20 = some (.iload_n 3, 1, 0)) rfl rfl rfl
theorem w10_21 {a : Nat} {x0 : Int32} : W (pj lw) 10 21 L (.int x0 :: .ref a :: S) k n H Q ↔ ((isO H a = true ∧ cs S + (2 + 11) + 0 ≤ 13) ∧ Cl (pj lw) 8 [.ref a, .int x0] H (fun v H => W (pj lw) 10 24 L (v.toList ++ S) k n H Q)) := W_inst (as := [.int x0]) (rfl : (pj lw).1 10 21 = some (.invokevirtual 103, 3, 8)) rfl rfl rfl (Nat.le_of_ble_eq_true rfl) (Nat.le_of_ble_eq_true rfl) ⟨rfl, rfl⟩
theorem w10_24 {x : Int32} : W (pj lw) 10 24 L (.int x :: S) k n H Q ↔ (if x = 0 then W (pj lw) 10 27 L S k n H Q else W (pj lw) 10 30 L S k n H Q) := W_if_ne (rfl : (pj lw).1 10 24 = some (.ifCond .ne 6, 3, 0)) rfl
theorem w10_27 : W (pj lw) 10 27 L S k n H Q ↔ W (pj lw) 10 29 L (.int (-6) :: S) k n H Q := W_s (rfl : (pj lw).1 10 27 = some (.bipush (-6), 2, 0)) rfl rfl rfl
theorem w10_29 {x : Int32} : W (pj lw) 10 29 L (.int x :: S) k n H Q ↔ Q (some (.int x)) H := W_r (rfl : (pj lw).1 10 29 = some (.ireturn, 1, 0)) rfl
theorem w10_30 {x : Nat} : W (pj lw) 10 30 (.val (.ref x) :: L) S k n H Q ↔ W (pj lw) 10 31 (.val (.ref x) :: L) (.ref x :: S) k n H Q := W_s (rfl : (pj lw).1 10 30 = some (.aload_n 0, 1, 0)) rfl rfl rfl
theorem w10_31 {a : Nat} : W (pj lw) 10 31 L (.ref a :: S) k n H Q ↔ (isO H a = true ∧ W (pj lw) 10 34 L (fld H a 8 :: S) k n H Q) := W_getf (rfl : (pj lw).1 10 31 = some (.getfield 19, 3, 8))
theorem w10_34 {x : Int32} {l0 : Slot} : W (pj lw) 10 34 (l0 :: .val (.int x) :: L) S k n H Q ↔ W (pj lw) 10 35 (l0 :: .val (.int x) :: L) (.int x :: S) k n H Q := W_s (rfl : (pj lw).1 10 34 = some (.iload_n 1, 1, 0)) rfl rfl rfl
theorem w10_35 {x : Nat} : W (pj lw) 10 35 (.val (.ref x) :: L) S k n H Q ↔ W (pj lw) 10 36 (.val (.ref x) :: L) (.ref x :: S) k n H Q := W_s (rfl : (pj lw).1 10 35 = some (.aload_n 0, 1, 0)) rfl rfl rfl
theorem w10_36 {a : Nat} : W (pj lw) 10 36 L (.ref a :: S) k n H Q ↔ (isO H a = true ∧ W (pj lw) 10 39 L (fld H a 18 :: S) k n H Q) := W_getf (rfl : (pj lw).1 10 36 = some (.getfield 37, 3, 18))
theorem w10_39 {x : Int32} {l0 l1 : Slot} : W (pj lw) 10 39 (l0 :: l1 :: .val (.int x) :: L) S k n H Q ↔ W (pj lw) 10 40 (l0 :: l1 :: .val (.int x) :: L) (.int x :: S) k n H Q := W_s (rfl : (pj lw).1 10 39 = some (.iload_n 2, 1, 0)) rfl rfl rfl
theorem w10_40 : W (pj lw) 10 40 L S k n H Q ↔ W (pj lw) 10 41 L (.int 5 :: S) k n H Q := W_s (rfl : (pj lw).1 10 40 = some (.iconst 5, 1, 0)) rfl rfl rfl
theorem w10_41 {x y : Int32} : W (pj lw) 10 41 L (.int y :: .int x :: S) k n H Q ↔ W (pj lw) 10 42 L (.int (x * y) :: S) k n H Q := W_s (rfl : (pj lw).1 10 41 = some (.imul, 1, 0)) rfl rfl rfl
theorem w10_42 {x : Int32} {l0 l1 l2 : Slot} : W (pj lw) 10 42 (l0 :: l1 :: l2 :: .val (.int x) :: L) S k n H Q ↔ W (pj lw) 10 43 (l0 :: l1 :: l2 :: .val (.int x) :: L) (.int x :: S) k n H Q := W_s (rfl : (pj lw).1 10 42 = some (.iload_n 3, 1, 0)) rfl rfl rfl
theorem w10_43 {x y : Int32} : W (pj lw) 10 43 L (.int y :: .int x :: S) k n H Q ↔ W (pj lw) 10 44 L (.int (x + y) :: S) k n H Q := W_s (rfl : (pj lw).1 10 43 = some (.iadd, 1, 0)) rfl rfl rfl
theorem w10_44 {i : Int32} {a : Nat} : W (pj lw) 10 44 L (.int i :: .ref a :: S) k n H Q ↔ (inA H a .int i = true ∧ W (pj lw) 10 45 L (elt H a i :: S) k n H Q) := W_iaload (rfl : (pj lw).1 10 44 = some (.iaload, 1, 0))
theorem w10_45 {x i : Int32} {a : Nat} : W (pj lw) 10 45 L (.int x :: .int i :: .ref a :: S) k n H Q ↔ (inAw H a .int i = true ∧ W (pj lw) 10 46 L S k n (wr H a i.toNatClampNeg (.int x)) Q) := W_iastore (rfl : (pj lw).1 10 45 = some (.iastore, 1, 0))
theorem w10_46 {x : Nat} : W (pj lw) 10 46 (.val (.ref x) :: L) S k n H Q ↔ W (pj lw) 10 47 (.val (.ref x) :: L) (.ref x :: S) k n H Q := W_s (rfl : (pj lw).1 10 46 = some (.aload_n 0, 1, 0)) rfl rfl rfl
theorem w10_47 : W (pj lw) 10 47 L S k n H Q ↔ W (pj lw) 10 48 L (.int 0 :: S) k n H Q := W_s (rfl : (pj lw).1 10 47 = some (.iconst 0, 1, 0)) rfl rfl rfl
theorem w10_48 {a : Nat} {v : Value} : W (pj lw) 10 48 L (v :: .ref a :: S) k n H Q ↔ ((isOw H a = true ∧ okv (.boolean) v = true) ∧ W (pj lw) 10 51 L S k n (wr H a 13 v) Q) := W_putf (rfl : (pj lw).1 10 48 = some (.putfield 73, 3, 13))
theorem w10_51 : W (pj lw) 10 51 L S k n H Q ↔ W (pj lw) 10 52 L (.int 0 :: S) k n H Q := W_s (rfl : (pj lw).1 10 51 = some (.iconst 0, 1, 0)) rfl rfl rfl
theorem w10_52 {x : Int32} : W (pj lw) 10 52 L (.int x :: S) k n H Q ↔ Q (some (.int x)) H := W_r (rfl : (pj lw).1 10 52 = some (.ireturn, 1, 0)) rfl
theorem c29 {x0 : Nat} : Cl (pj lw) 29 [.ref x0] H Q ↔ W (pj lw) 29 0 [.val (.ref x0)] [] 0 0 H Q := cl_unf rfl
theorem w29_0 {x : Nat} : W (pj lw) 29 0 (.val (.ref x) :: L) S k n H Q ↔ W (pj lw) 29 1 (.val (.ref x) :: L) (.ref x :: S) k n H Q := W_s (rfl : (pj lw).1 29 0 = some (.aload_n 0, 1, 0)) rfl rfl rfl
theorem w29_1 {a : Nat} : W (pj lw) 29 1 L (.ref a :: S) k n H Q ↔ (isO H a = true ∧ W (pj lw) 29 4 L (fld H a 13 :: S) k n H Q) := W_getf (rfl : (pj lw).1 29 1 = some (.getfield 73, 3, 13))
theorem w29_4 {x : Int32} : W (pj lw) 29 4 L (.int x :: S) k n H Q ↔ (if x = 0 then W (pj lw) 29 14 L S k n H Q else W (pj lw) 29 7 L S k n H Q) := W_if_eq (rfl : (pj lw).1 29 4 = some (.ifCond .eq 10, 3, 0)) rfl
theorem w29_7 {x : Nat} : W (pj lw) 29 7 (.val (.ref x) :: L) S k n H Q ↔ W (pj lw) 29 8 (.val (.ref x) :: L) (.ref x :: S) k n H Q := W_s (rfl : (pj lw).1 29 7 = some (.aload_n 0, 1, 0)) rfl rfl rfl
theorem w29_8 {a : Nat} : W (pj lw) 29 8 L (.ref a :: S) k n H Q ↔ (isO H a = true ∧ W (pj lw) 29 11 L (fld H a 14 :: S) k n H Q) := W_getf (rfl : (pj lw).1 29 8 = some (.getfield 76, 3, 14))
theorem w29_11 : W (pj lw) 29 11 L S k n H Q ↔ W (pj lw) 29 15 L S k n H Q := W_goto (rfl : (pj lw).1 29 11 = some (.goto 4, 3, 0)) rfl
theorem w29_14 : W (pj lw) 29 14 L S k n H Q ↔ W (pj lw) 29 15 L (.int 0 :: S) k n H Q := W_s (rfl : (pj lw).1 29 14 = some (.iconst 0, 1, 0)) rfl rfl rfl
theorem w29_15 {x : Int32} : W (pj lw) 29 15 L (.int x :: S) k n H Q ↔ Q (some (.int x)) H := W_r (rfl : (pj lw).1 29 15 = some (.ireturn, 1, 0)) rfl
theorem c31 {x0 : Nat} {x1 : Int32} : Cl (pj lw) 31 [.ref x0, .int x1] H Q ↔ W (pj lw) 31 0 [.val (.ref x0), .val (.int x1), .unset, .unset, .unset] [] 0 0 H Q := cl_unf rfl
theorem w31_0 {x : Nat} : W (pj lw) 31 0 (.val (.ref x) :: L) S k n H Q ↔ W (pj lw) 31 1 (.val (.ref x) :: L) (.ref x :: S) k n H Q := W_s (rfl : (pj lw).1 31 0 = some (.aload_n 0, 1, 0)) rfl rfl rfl
theorem w31_1 {a : Nat} : W (pj lw) 31 1 L (.ref a :: S) k n H Q ↔ (isO H a = true ∧ W (pj lw) 31 4 L (fld H a 13 :: S) k n H Q) := W_getf (rfl : (pj lw).1 31 1 = some (.getfield 73, 3, 13))
theorem w31_4 {x : Int32} : W (pj lw) 31 4 L (.int x :: S) k n H Q ↔ (if x = 0 then W (pj lw) 31 15 L S k n H Q else W (pj lw) 31 7 L S k n H Q) := W_if_eq (rfl : (pj lw).1 31 4 = some (.ifCond .eq 11, 3, 0)) rfl
theorem w31_7 {x : Nat} : W (pj lw) 31 7 (.val (.ref x) :: L) S k n H Q ↔ W (pj lw) 31 8 (.val (.ref x) :: L) (.ref x :: S) k n H Q := W_s (rfl : (pj lw).1 31 7 = some (.aload_n 0, 1, 0)) rfl rfl rfl
theorem w31_8 {x : Int32} {l0 : Slot} : W (pj lw) 31 8 (l0 :: .val (.int x) :: L) S k n H Q ↔ W (pj lw) 31 9 (l0 :: .val (.int x) :: L) (.int x :: S) k n H Q := W_s (rfl : (pj lw).1 31 8 = some (.iload_n 1, 1, 0)) rfl rfl rfl
theorem w31_9 {a : Nat} {x0 : Int32} : W (pj lw) 31 9 L (.int x0 :: .ref a :: S) k n H Q ↔ ((isO H a = true ∧ cs S + (2 + 11) + 0 ≤ 13) ∧ Cl (pj lw) 7 [.ref a, .int x0] H (fun v H => W (pj lw) 31 12 L (v.toList ++ S) k n H Q)) := W_inst (as := [.int x0]) (rfl : (pj lw).1 31 9 = some (.invokevirtual 99, 3, 7)) rfl rfl rfl (Nat.le_of_ble_eq_true rfl) (Nat.le_of_ble_eq_true rfl) ⟨rfl, rfl⟩
theorem w31_12 {x : Int32} : W (pj lw) 31 12 L (.int x :: S) k n H Q ↔ (if x = 0 then W (pj lw) 31 15 L S k n H Q else W (pj lw) 31 17 L S k n H Q) := W_if_ne (rfl : (pj lw).1 31 12 = some (.ifCond .ne 5, 3, 0)) rfl
theorem w31_15 : W (pj lw) 31 15 L S k n H Q ↔ W (pj lw) 31 16 L (.int (-1) :: S) k n H Q := W_s (rfl : (pj lw).1 31 15 = some (.iconst (-1), 1, 0)) rfl rfl rfl
theorem w31_16 {x : Int32} : W (pj lw) 31 16 L (.int x :: S) k n H Q ↔ Q (some (.int x)) H := W_r (rfl : (pj lw).1 31 16 = some (.ireturn, 1, 0)) rfl
theorem w31_17 {x : Nat} : W (pj lw) 31 17 (.val (.ref x) :: L) S k n H Q ↔ W (pj lw) 31 18 (.val (.ref x) :: L) (.ref x :: S) k n H Q := W_s (rfl : (pj lw).1 31 17 = some (.aload_n 0, 1, 0)) rfl rfl rfl
theorem w31_18 {a : Nat} : W (pj lw) 31 18 L (.ref a :: S) k n H Q ↔ (isO H a = true ∧ W (pj lw) 31 21 L (fld H a 11 :: S) k n H Q) := W_getf (rfl : (pj lw).1 31 18 = some (.getfield 28, 3, 11))
theorem w31_21 {x : Int32} {l0 : Slot} : W (pj lw) 31 21 (l0 :: .val (.int x) :: L) S k n H Q ↔ W (pj lw) 31 22 (l0 :: .val (.int x) :: L) (.int x :: S) k n H Q := W_s (rfl : (pj lw).1 31 21 = some (.iload_n 1, 1, 0)) rfl rfl rfl
theorem w31_22 {i : Int32} {a : Nat} : W (pj lw) 31 22 L (.int i :: .ref a :: S) k n H Q ↔ (inA H a .int i = true ∧ W (pj lw) 31 23 L (elt H a i :: S) k n H Q) := W_iaload (rfl : (pj lw).1 31 22 = some (.iaload, 1, 0))
theorem w31_23 {x : Int32} {l0 l1 : Slot} : W (pj lw) 31 23 (l0 :: l1 :: .unset :: L) (.int x :: S) k n H Q ↔ W (pj lw) 31 24 (l0 :: l1 :: .val (.int x) :: L) S k n H Q := W_istn (rfl : (pj lw).1 31 23 = some (.istore_n 2, 1, 0)) rfl rfl
theorem w31_24 : W (pj lw) 31 24 L S k n H Q ↔ W (pj lw) 31 25 L (.int 0 :: S) k n H Q := W_s (rfl : (pj lw).1 31 24 = some (.iconst 0, 1, 0)) rfl rfl rfl
theorem w31_25 {x : Int32} {l0 l1 l2 : Slot} : W (pj lw) 31 25 (l0 :: l1 :: l2 :: .unset :: L) (.int x :: S) k n H Q ↔ W (pj lw) 31 26 (l0 :: l1 :: l2 :: .val (.int x) :: L) S k n H Q := W_istn (rfl : (pj lw).1 31 25 = some (.istore_n 3, 1, 0)) rfl rfl
theorem w31_26 : W (pj lw) 31 26 L S k n H Q ↔ W (pj lw) 31 27 L (.int 0 :: S) k n H Q := W_s (rfl : (pj lw).1 31 26 = some (.iconst 0, 1, 0)) rfl rfl rfl
theorem w31_27 {x : Int32} {l0 l1 l2 l3 : Slot} : W (pj lw) 31 27 (l0 :: l1 :: l2 :: l3 :: .unset :: L) (.int x :: S) k n H Q ↔ W (pj lw) 31 29 (l0 :: l1 :: l2 :: l3 :: .val (.int x) :: L) S k n H Q := W_ist (rfl : (pj lw).1 31 27 = some (.istore 4, 2, 0)) rfl rfl
theorem w31_29 {x : Int32} {l0 l1 l2 l3 : Slot} : W (pj lw) 31 29 (l0 :: l1 :: l2 :: l3 :: .val (.int x) :: L) S k n H Q ↔ W (pj lw) 31 31 (l0 :: l1 :: l2 :: l3 :: .val (.int x) :: L) (.int x :: S) k n H Q := W_s (rfl : (pj lw).1 31 29 = some (.iload 4, 2, 0)) rfl rfl rfl
theorem w31_31 : W (pj lw) 31 31 L S k n H Q ↔ W (pj lw) 31 33 L (.int 10 :: S) k n H Q := W_s (rfl : (pj lw).1 31 31 = some (.bipush 10, 2, 0)) rfl rfl rfl
theorem w31_33 {x y : Int32} : W (pj lw) 31 33 L (.int y :: .int x :: S) k n H Q ↔ (if x < y then W (pj lw) 31 36 L S k n H Q else W (pj lw) 31 54 L S k n H Q) := W_icmp_ge (rfl : (pj lw).1 31 33 = some (.if_icmp .ge 21, 3, 0)) rfl
theorem w31_36 {x : Int32} {l0 l1 : Slot} : W (pj lw) 31 36 (l0 :: l1 :: .val (.int x) :: L) S k n H Q ↔ W (pj lw) 31 37 (l0 :: l1 :: .val (.int x) :: L) (.int x :: S) k n H Q := W_s (rfl : (pj lw).1 31 36 = some (.iload_n 2, 1, 0)) rfl rfl rfl
theorem w31_37 {x : Int32} {l0 l1 l2 l3 : Slot} : W (pj lw) 31 37 (l0 :: l1 :: l2 :: l3 :: .val (.int x) :: L) S k n H Q ↔ W (pj lw) 31 39 (l0 :: l1 :: l2 :: l3 :: .val (.int x) :: L) (.int x :: S) k n H Q := W_s (rfl : (pj lw).1 31 37 = some (.iload 4, 2, 0)) rfl rfl rfl
theorem w31_39 {x y : Int32} : W (pj lw) 31 39 L (.int y :: .int x :: S) k n H Q ↔ W (pj lw) 31 40 L (.int (x >>> (y &&& 31)) :: S) k n H Q := W_s (rfl : (pj lw).1 31 39 = some (.ishr, 1, 0)) rfl rfl rfl
theorem w31_40 : W (pj lw) 31 40 L S k n H Q ↔ W (pj lw) 31 41 L (.int 1 :: S) k n H Q := W_s (rfl : (pj lw).1 31 40 = some (.iconst 1, 1, 0)) rfl rfl rfl
theorem w31_41 {x y : Int32} : W (pj lw) 31 41 L (.int y :: .int x :: S) k n H Q ↔ W (pj lw) 31 42 L (.int (x &&& y) :: S) k n H Q := W_s (rfl : (pj lw).1 31 41 = some (.iand, 1, 0)) rfl rfl rfl
theorem w31_42 {x : Int32} : W (pj lw) 31 42 L (.int x :: S) k n H Q ↔ (if x = 0 then W (pj lw) 31 48 L S k n H Q else W (pj lw) 31 45 L S k n H Q) := W_if_eq (rfl : (pj lw).1 31 42 = some (.ifCond .eq 6, 3, 0)) rfl
theorem w31_45 {x : Int32} {l0 l1 l2 : Slot} : W (pj lw) 31 45 (l0 :: l1 :: l2 :: .val (.int x) :: L) S k n H Q ↔ W (pj lw) 31 48 (l0 :: l1 :: l2 :: .val (.int (x + 1)) :: L) S k n H Q := W_s (rfl : (pj lw).1 31 45 = some (.iinc 3 1, 3, 0)) rfl rfl rfl
theorem w31_48 {x : Int32} {l0 l1 l2 l3 : Slot} : W (pj lw) 31 48 (l0 :: l1 :: l2 :: l3 :: .val (.int x) :: L) S k n H Q ↔ W (pj lw) 31 51 (l0 :: l1 :: l2 :: l3 :: .val (.int (x + 1)) :: L) S k n H Q := W_s (rfl : (pj lw).1 31 48 = some (.iinc 4 1, 3, 0)) rfl rfl rfl
theorem w31_51 : W (pj lw) 31 51 L S k n H Q ↔ W (pj lw) 31 29 L S k n H Q := W_goto (rfl : (pj lw).1 31 51 = some (.goto (-22), 3, 0)) rfl
theorem w31_54 {x : Int32} {l0 l1 l2 : Slot} : W (pj lw) 31 54 (l0 :: l1 :: l2 :: .val (.int x) :: L) S k n H Q ↔ W (pj lw) 31 55 (l0 :: l1 :: l2 :: .val (.int x) :: L) (.int x :: S) k n H Q := W_s (rfl : (pj lw).1 31 54 = some (.iload_n 3, 1, 0)) rfl rfl rfl
theorem w31_55 {x : Int32} : W (pj lw) 31 55 L (.int x :: S) k n H Q ↔ Q (some (.int x)) H := W_r (rfl : (pj lw).1 31 55 = some (.ireturn, 1, 0)) rfl
theorem c32 {x0 : Nat} : Cl (pj lw) 32 [.ref x0] H Q ↔ W (pj lw) 32 0 [.val (.ref x0)] [] 0 0 H Q := cl_unf rfl
theorem w32_0 {x : Nat} : W (pj lw) 32 0 (.val (.ref x) :: L) S k n H Q ↔ W (pj lw) 32 1 (.val (.ref x) :: L) (.ref x :: S) k n H Q := W_s (rfl : (pj lw).1 32 0 = some (.aload_n 0, 1, 0)) rfl rfl rfl
theorem w32_1 {a : Nat} : W (pj lw) 32 1 L (.ref a :: S) k n H Q ↔ (isO H a = true ∧ W (pj lw) 32 4 L (fld H a 13 :: S) k n H Q) := W_getf (rfl : (pj lw).1 32 1 = some (.getfield 73, 3, 13))
theorem w32_4 {x : Int32} : W (pj lw) 32 4 L (.int x :: S) k n H Q ↔ (if x = 0 then W (pj lw) 32 14 L S k n H Q else W (pj lw) 32 7 L S k n H Q) := W_if_eq (rfl : (pj lw).1 32 4 = some (.ifCond .eq 10, 3, 0)) rfl
theorem w32_7 {x : Nat} : W (pj lw) 32 7 (.val (.ref x) :: L) S k n H Q ↔ W (pj lw) 32 8 (.val (.ref x) :: L) (.ref x :: S) k n H Q := W_s (rfl : (pj lw).1 32 7 = some (.aload_n 0, 1, 0)) rfl rfl rfl
theorem w32_8 {a : Nat} : W (pj lw) 32 8 L (.ref a :: S) k n H Q ↔ (isO H a = true ∧ W (pj lw) 32 11 L (fld H a 15 :: S) k n H Q) := W_getf (rfl : (pj lw).1 32 8 = some (.getfield 79, 3, 15))
theorem w32_11 : W (pj lw) 32 11 L S k n H Q ↔ W (pj lw) 32 15 L S k n H Q := W_goto (rfl : (pj lw).1 32 11 = some (.goto 4, 3, 0)) rfl
theorem w32_14 : W (pj lw) 32 14 L S k n H Q ↔ W (pj lw) 32 15 L (.int (-1) :: S) k n H Q := W_s (rfl : (pj lw).1 32 14 = some (.iconst (-1), 1, 0)) rfl rfl rfl
theorem w32_15 {x : Int32} : W (pj lw) 32 15 L (.int x :: S) k n H Q ↔ Q (some (.int x)) H := W_r (rfl : (pj lw).1 32 15 = some (.ireturn, 1, 0)) rfl
theorem c34 {x0 : Nat} : Cl (pj lw) 34 [.ref x0] H Q ↔ W (pj lw) 34 0 [.val (.ref x0)] [] 0 0 H Q := cl_unf rfl
theorem w34_0 {x : Nat} : W (pj lw) 34 0 (.val (.ref x) :: L) S k n H Q ↔ W (pj lw) 34 1 (.val (.ref x) :: L) (.ref x :: S) k n H Q := W_s (rfl : (pj lw).1 34 0 = some (.aload_n 0, 1, 0)) rfl rfl rfl
theorem w34_1 {a : Nat} : W (pj lw) 34 1 L (.ref a :: S) k n H Q ↔ (isO H a = true ∧ W (pj lw) 34 4 L (fld H a 4 :: S) k n H Q) := W_getf (rfl : (pj lw).1 34 1 = some (.getfield 66, 3, 4))
theorem w34_4 {x : Int32} : W (pj lw) 34 4 L (.int x :: S) k n H Q ↔ Q (some (.int x)) H := W_r (rfl : (pj lw).1 34 4 = some (.ireturn, 1, 0)) rfl
end Pc
section A
variable {lw : LW} {H : AH} {p j : Nat} {s : St} {Q : Option Value → AH → Prop} {a b c d : Int32} {h : Nat → Cel} {k n : Nat}
def eb (x a b : Int32) : Int32 := if x = a then 1 else if x = b then 1 else 0
theorem fold_eb {x a b : Int32} : (if x = a then 1 else if x = b then 1 else 0) = eb x a b := by simp only [eb]
def cp (x y a b c d : Int32) : Bool := decide ((¬ eb x a b = 0 ∧ ¬ eb y c d = 0) ∨ (¬ eb y a b = 0 ∧ ¬ eb x c d = 0))
set_option maxRecDepth 100000 in
set_option maxHeartbeats 2000000 in
theorem t6 (h1 : 0 ≤ a.toInt ∧ a.toInt < 10) (h2 : 0 ≤ b.toInt ∧ b.toInt < 10) (h3 : 0 ≤ c.toInt ∧ c.toInt < 10) : Cl (pj lw) 6 [.ref p, .int a, .int b, .int c] (ob H p s) Q ↔
    (if cp (sA s 8 a.toNatClampNeg) (sA s 9 a.toNatClampNeg) (sA s 8 b.toNatClampNeg) (sA s 9 b.toNatClampNeg) (sA s 8 c.toNatClampNeg) (sA s 9 c.toNatClampNeg) = true then Q (some (.int 1)) (ob H p s) else Q (some (.int 0)) (ob H p s)) := by
  rw [c6]
  simp +decide only [w6_0, w6_1, w6_4, w6_5, w6_6, w6_8, w6_9, w6_12, w6_13, w6_14, w6_16, w6_17, w6_20, w6_21, w6_22, w6_24, w6_25, w6_28, w6_29, w6_30, w6_32, w6_33, w6_36, w6_37, w6_38, w6_40, w6_41, w6_44, w6_45, w6_46, w6_48, w6_50, w6_52, w6_55, w6_57, w6_59, w6_62, w6_63, w6_66, w6_69, w6_71, w6_73, w6_76, w6_78, w6_80, w6_83, w6_84, w6_87, w6_90, w6_92, w6_94, w6_97, w6_99, w6_101, w6_104, w6_105, w6_108, w6_111, w6_113, w6_115, w6_118, w6_120, w6_122, w6_125, w6_126, w6_129, w6_132, w6_134, w6_137, w6_139, w6_142, w6_144, w6_147, w6_149, w6_152, w6_153, w6_156, zr_z0, zr_uI, zr_uJ, isO_put, isOw_put, put_fst, okv_int, okv_long, okv_ref, okv_bool, okv_byte, cat1_unset, cat1_int, cat1_ref, cs_nil, cs_int, cs_ref, cs_long, cmpL_lt, cmpL_gt, cmpL_eq, sI_uI, sI_uJ, sI_uA, sI_uB, sJ_uI, sJ_uJ, sJ_uA, sJ_uB, sA_uI, sA_uJ, sA_uA, sA_uB, sB_uI, sB_uJ, sB_uA, sB_uB, sI_fA, sJ_fA, sA_fA, sB_fA, sI_z0, sJ_z0, sA_z0, sB_z0, Option.toList_some, Option.toList_none, List.cons_append, List.nil_append, true_and, and_true, false_and, and_false, or_false, false_or, or_true, true_or, not_true_eq_false, not_false_eq_true, ↓reduceIte, Nat.reduceAdd, Nat.reduceLeDiff, Nat.reduceEqDiff, Nat.reduceSub, Int32.reduceAdd, Int32.reduceSub, Int32.reduceMul, Int32.reduceToNatClampNeg, Int64.reduceAdd, Int64.reduceSub, Int64.reduceMul, Int64.reduceLT, Int32.reduceLT, Int32.reduceToInt, Nat.add_zero, Nat.zero_add, Nat.le_refl, eq_self, implies_true, ne_eq, g0, s0, g1, s1, g2, s2, g3, s3, g4, s4, g5, g6, g7, g8, g9, g10, g11, g12, s12, g13, s13, g14, s14, g15, s15, g16, g17, g18, g19, g20, g21, g22, s22, ai1, aw1, ae1, as1, ai2, aw2, ae2, as2, ai3, aw3, ae3, as3, ai4, aw4, ae4, as4, ai5, aw5, ae5, as5, ai6, aw6, ae6, as6, ai7, aw7, ae7, as7, ai8, aw8, ae8, as8, ai9, aw9, ae9, as9, ai10, aw10, ae10, as10, ai11, aw11, ae11, as11, ai12, aw12, ae12, as12, ai13, aw13, ae13, as13, W_ite, h1, h2, h3, fold_eb]
  simp +decide only [w6_0, w6_1, w6_4, w6_5, w6_6, w6_8, w6_9, w6_12, w6_13, w6_14, w6_16, w6_17, w6_20, w6_21, w6_22, w6_24, w6_25, w6_28, w6_29, w6_30, w6_32, w6_33, w6_36, w6_37, w6_38, w6_40, w6_41, w6_44, w6_45, w6_46, w6_48, w6_50, w6_52, w6_55, w6_57, w6_59, w6_62, w6_63, w6_66, w6_69, w6_71, w6_73, w6_76, w6_78, w6_80, w6_83, w6_84, w6_87, w6_90, w6_92, w6_94, w6_97, w6_99, w6_101, w6_104, w6_105, w6_108, w6_111, w6_113, w6_115, w6_118, w6_120, w6_122, w6_125, w6_126, w6_129, w6_132, w6_134, w6_137, w6_139, w6_142, w6_144, w6_147, w6_149, w6_152, w6_153, w6_156, w6_67, zr_z0, zr_uI, zr_uJ, isO_put, isOw_put, put_fst, okv_int, okv_long, okv_ref, okv_bool, okv_byte, cat1_unset, cat1_int, cat1_ref, cs_nil, cs_int, cs_ref, cs_long, cmpL_lt, cmpL_gt, cmpL_eq, sI_uI, sI_uJ, sI_uA, sI_uB, sJ_uI, sJ_uJ, sJ_uA, sJ_uB, sA_uI, sA_uJ, sA_uA, sA_uB, sB_uI, sB_uJ, sB_uA, sB_uB, sI_fA, sJ_fA, sA_fA, sB_fA, sI_z0, sJ_z0, sA_z0, sB_z0, Option.toList_some, Option.toList_none, List.cons_append, List.nil_append, true_and, and_true, false_and, and_false, or_false, false_or, or_true, true_or, not_true_eq_false, not_false_eq_true, ↓reduceIte, Nat.reduceAdd, Nat.reduceLeDiff, Nat.reduceEqDiff, Nat.reduceSub, Int32.reduceAdd, Int32.reduceSub, Int32.reduceMul, Int32.reduceToNatClampNeg, Int64.reduceAdd, Int64.reduceSub, Int64.reduceMul, Int64.reduceLT, Int32.reduceLT, Int32.reduceToInt, Nat.add_zero, Nat.zero_add, Nat.le_refl, eq_self, implies_true, ne_eq, g0, s0, g1, s1, g2, s2, g3, s3, g4, s4, g5, g6, g7, g8, g9, g10, g11, g12, s12, g13, s13, g14, s14, g15, s15, g16, g17, g18, g19, g20, g21, g22, s22, ai1, aw1, ae1, as1, ai2, aw2, ae2, as2, ai3, aw3, ae3, as3, ai4, aw4, ae4, as4, ai5, aw5, ae5, as5, ai6, aw6, ae6, as6, ai7, aw7, ae7, as7, ai8, aw8, ae8, as8, ai9, aw9, ae9, as9, ai10, aw10, ae10, as10, ai11, aw11, ae11, as11, ai12, aw12, ae12, as12, ai13, aw13, ae13, as13, W_ite, h1, h2, h3, fold_eb]
  simp +decide only [w6_0, w6_1, w6_4, w6_5, w6_6, w6_8, w6_9, w6_12, w6_13, w6_14, w6_16, w6_17, w6_20, w6_21, w6_22, w6_24, w6_25, w6_28, w6_29, w6_30, w6_32, w6_33, w6_36, w6_37, w6_38, w6_40, w6_41, w6_44, w6_45, w6_46, w6_48, w6_50, w6_52, w6_55, w6_57, w6_59, w6_62, w6_63, w6_66, w6_69, w6_71, w6_73, w6_76, w6_78, w6_80, w6_83, w6_84, w6_87, w6_90, w6_92, w6_94, w6_97, w6_99, w6_101, w6_104, w6_105, w6_108, w6_111, w6_113, w6_115, w6_118, w6_120, w6_122, w6_125, w6_126, w6_129, w6_132, w6_134, w6_137, w6_139, w6_142, w6_144, w6_147, w6_149, w6_152, w6_153, w6_156, w6_67, w6_88, zr_z0, zr_uI, zr_uJ, isO_put, isOw_put, put_fst, okv_int, okv_long, okv_ref, okv_bool, okv_byte, cat1_unset, cat1_int, cat1_ref, cs_nil, cs_int, cs_ref, cs_long, cmpL_lt, cmpL_gt, cmpL_eq, sI_uI, sI_uJ, sI_uA, sI_uB, sJ_uI, sJ_uJ, sJ_uA, sJ_uB, sA_uI, sA_uJ, sA_uA, sA_uB, sB_uI, sB_uJ, sB_uA, sB_uB, sI_fA, sJ_fA, sA_fA, sB_fA, sI_z0, sJ_z0, sA_z0, sB_z0, Option.toList_some, Option.toList_none, List.cons_append, List.nil_append, true_and, and_true, false_and, and_false, or_false, false_or, or_true, true_or, not_true_eq_false, not_false_eq_true, ↓reduceIte, Nat.reduceAdd, Nat.reduceLeDiff, Nat.reduceEqDiff, Nat.reduceSub, Int32.reduceAdd, Int32.reduceSub, Int32.reduceMul, Int32.reduceToNatClampNeg, Int64.reduceAdd, Int64.reduceSub, Int64.reduceMul, Int64.reduceLT, Int32.reduceLT, Int32.reduceToInt, Nat.add_zero, Nat.zero_add, Nat.le_refl, eq_self, implies_true, ne_eq, g0, s0, g1, s1, g2, s2, g3, s3, g4, s4, g5, g6, g7, g8, g9, g10, g11, g12, s12, g13, s13, g14, s14, g15, s15, g16, g17, g18, g19, g20, g21, g22, s22, ai1, aw1, ae1, as1, ai2, aw2, ae2, as2, ai3, aw3, ae3, as3, ai4, aw4, ae4, as4, ai5, aw5, ae5, as5, ai6, aw6, ae6, as6, ai7, aw7, ae7, as7, ai8, aw8, ae8, as8, ai9, aw9, ae9, as9, ai10, aw10, ae10, as10, ai11, aw11, ae11, as11, ai12, aw12, ae12, as12, ai13, aw13, ae13, as13, W_ite, h1, h2, h3, fold_eb]
  simp +decide only [w6_0, w6_1, w6_4, w6_5, w6_6, w6_8, w6_9, w6_12, w6_13, w6_14, w6_16, w6_17, w6_20, w6_21, w6_22, w6_24, w6_25, w6_28, w6_29, w6_30, w6_32, w6_33, w6_36, w6_37, w6_38, w6_40, w6_41, w6_44, w6_45, w6_46, w6_48, w6_50, w6_52, w6_55, w6_57, w6_59, w6_62, w6_63, w6_66, w6_69, w6_71, w6_73, w6_76, w6_78, w6_80, w6_83, w6_84, w6_87, w6_90, w6_92, w6_94, w6_97, w6_99, w6_101, w6_104, w6_105, w6_108, w6_111, w6_113, w6_115, w6_118, w6_120, w6_122, w6_125, w6_126, w6_129, w6_132, w6_134, w6_137, w6_139, w6_142, w6_144, w6_147, w6_149, w6_152, w6_153, w6_156, w6_67, w6_88, w6_109, zr_z0, zr_uI, zr_uJ, isO_put, isOw_put, put_fst, okv_int, okv_long, okv_ref, okv_bool, okv_byte, cat1_unset, cat1_int, cat1_ref, cs_nil, cs_int, cs_ref, cs_long, cmpL_lt, cmpL_gt, cmpL_eq, sI_uI, sI_uJ, sI_uA, sI_uB, sJ_uI, sJ_uJ, sJ_uA, sJ_uB, sA_uI, sA_uJ, sA_uA, sA_uB, sB_uI, sB_uJ, sB_uA, sB_uB, sI_fA, sJ_fA, sA_fA, sB_fA, sI_z0, sJ_z0, sA_z0, sB_z0, Option.toList_some, Option.toList_none, List.cons_append, List.nil_append, true_and, and_true, false_and, and_false, or_false, false_or, or_true, true_or, not_true_eq_false, not_false_eq_true, ↓reduceIte, Nat.reduceAdd, Nat.reduceLeDiff, Nat.reduceEqDiff, Nat.reduceSub, Int32.reduceAdd, Int32.reduceSub, Int32.reduceMul, Int32.reduceToNatClampNeg, Int64.reduceAdd, Int64.reduceSub, Int64.reduceMul, Int64.reduceLT, Int32.reduceLT, Int32.reduceToInt, Nat.add_zero, Nat.zero_add, Nat.le_refl, eq_self, implies_true, ne_eq, g0, s0, g1, s1, g2, s2, g3, s3, g4, s4, g5, g6, g7, g8, g9, g10, g11, g12, s12, g13, s13, g14, s14, g15, s15, g16, g17, g18, g19, g20, g21, g22, s22, ai1, aw1, ae1, as1, ai2, aw2, ae2, as2, ai3, aw3, ae3, as3, ai4, aw4, ae4, as4, ai5, aw5, ae5, as5, ai6, aw6, ae6, as6, ai7, aw7, ae7, as7, ai8, aw8, ae8, as8, ai9, aw9, ae9, as9, ai10, aw10, ae10, as10, ai11, aw11, ae11, as11, ai12, aw12, ae12, as12, ai13, aw13, ae13, as13, W_ite, h1, h2, h3, fold_eb]
  by_cases e1 : eb (sA s 8 a.toNatClampNeg) (sA s 8 b.toNatClampNeg) (sA s 9 b.toNatClampNeg) = 0 <;>
  by_cases e2 : eb (sA s 9 a.toNatClampNeg) (sA s 8 b.toNatClampNeg) (sA s 9 b.toNatClampNeg) = 0 <;>
  by_cases e3 : eb (sA s 8 a.toNatClampNeg) (sA s 8 c.toNatClampNeg) (sA s 9 c.toNatClampNeg) = 0 <;>
  by_cases e4 : eb (sA s 9 a.toNatClampNeg) (sA s 8 c.toNatClampNeg) (sA s 9 c.toNatClampNeg) = 0 <;>
  simp +decide only [w6_0, w6_1, w6_4, w6_5, w6_6, w6_8, w6_9, w6_12, w6_13, w6_14, w6_16, w6_17, w6_20, w6_21, w6_22, w6_24, w6_25, w6_28, w6_29, w6_30, w6_32, w6_33, w6_36, w6_37, w6_38, w6_40, w6_41, w6_44, w6_45, w6_46, w6_48, w6_50, w6_52, w6_55, w6_57, w6_59, w6_62, w6_63, w6_66, w6_67, w6_69, w6_71, w6_73, w6_76, w6_78, w6_80, w6_83, w6_84, w6_87, w6_88, w6_90, w6_92, w6_94, w6_97, w6_99, w6_101, w6_104, w6_105, w6_108, w6_109, w6_111, w6_113, w6_115, w6_118, w6_120, w6_122, w6_125, w6_126, w6_129, w6_130, w6_132, w6_134, w6_137, w6_139, w6_142, w6_144, w6_147, w6_149, w6_152, w6_153, w6_156, w6_157, zr_z0, zr_uI, zr_uJ, isO_put, isOw_put, put_fst, okv_int, okv_long, okv_ref, okv_bool, okv_byte, cat1_unset, cat1_int, cat1_ref, cs_nil, cs_int, cs_ref, cs_long, cmpL_lt, cmpL_gt, cmpL_eq, sI_uI, sI_uJ, sI_uA, sI_uB, sJ_uI, sJ_uJ, sJ_uA, sJ_uB, sA_uI, sA_uJ, sA_uA, sA_uB, sB_uI, sB_uJ, sB_uA, sB_uB, sI_fA, sJ_fA, sA_fA, sB_fA, sI_z0, sJ_z0, sA_z0, sB_z0, Option.toList_some, Option.toList_none, List.cons_append, List.nil_append, true_and, and_true, false_and, and_false, or_false, false_or, or_true, true_or, not_true_eq_false, not_false_eq_true, ↓reduceIte, Nat.reduceAdd, Nat.reduceLeDiff, Nat.reduceEqDiff, Nat.reduceSub, Int32.reduceAdd, Int32.reduceSub, Int32.reduceMul, Int32.reduceToNatClampNeg, Int64.reduceAdd, Int64.reduceSub, Int64.reduceMul, Int64.reduceLT, Int32.reduceLT, Int32.reduceToInt, Nat.add_zero, Nat.zero_add, Nat.le_refl, eq_self, implies_true, ne_eq, g0, s0, g1, s1, g2, s2, g3, s3, g4, s4, g5, g6, g7, g8, g9, g10, g11, g12, s12, g13, s13, g14, s14, g15, s15, g16, g17, g18, g19, g20, g21, g22, s22, ai1, aw1, ae1, as1, ai2, aw2, ae2, as2, ai3, aw3, ae3, as3, ai4, aw4, ae4, as4, ai5, aw5, ae5, as5, ai6, aw6, ae6, as6, ai7, aw7, ae7, as7, ai8, aw8, ae8, as8, ai9, aw9, ae9, as9, ai10, aw10, ae10, as10, ai11, aw11, ae11, as11, ai12, aw12, ae12, as12, ai13, aw13, ae13, as13, e1, e2, e3, e4, cp, decide_true, decide_false]
def cm (A B : Nat → Int32) (b c : Int32) : Nat → Int32 → Int32 → Int32
  | 0, _, mask => mask
  | m + 1, gc, mask => cm A B b c m (gc + 1) (if cp (A gc.toNatClampNeg) (B gc.toNatClampNeg) (A b.toNatClampNeg) (B b.toNatClampNeg) (A c.toNatClampNeg) (B c.toNatClampNeg) = true then mask ||| 1 <<< (gc &&& 31) else mask)
theorem l5 (hb : 0 ≤ b.toInt ∧ b.toInt < 10) (hc : 0 ≤ c.toInt ∧ c.toInt < 10) (hg : (sI s 1).toInt ≤ 10) (m : Nat) : ∀ (gc mask : Int32), gc.toInt = (sI s 1).toInt - m → 0 ≤ gc.toInt →
    (W (pj lw) 5 5 [.val (.ref p), .val (.int b), .val (.int c), .val (.int mask), .val (.int gc)] [] k n (ob H p s) Q ↔ Q (some (.int (cm (sA s 8) (sA s 9) b c m gc mask))) (ob H p s)) := by
  induction m with
  | zero =>
    intro gc mask h1 h2
    have h3 : ¬ gc < sI s 1 := by rw [lt32]; omega
    rw [w5_5]; simp +decide only [w5_0, w5_1, w5_2, w5_3, w5_7, w5_8, w5_11, w5_14, w5_15, w5_17, w5_18, w5_19, w5_22, w5_25, w5_26, w5_27, w5_29, w5_30, w5_31i, w5_32, w5_35, w5_38, w5_39, zr_z0, zr_uI, zr_uJ, isO_put, isOw_put, put_fst, okv_int, okv_long, okv_ref, okv_bool, okv_byte, cat1_unset, cat1_int, cat1_ref, cs_nil, cs_int, cs_ref, cs_long, cmpL_lt, cmpL_gt, cmpL_eq, sI_uI, sI_uJ, sI_uA, sI_uB, sJ_uI, sJ_uJ, sJ_uA, sJ_uB, sA_uI, sA_uJ, sA_uA, sA_uB, sB_uI, sB_uJ, sB_uA, sB_uB, sI_fA, sJ_fA, sA_fA, sB_fA, sI_z0, sJ_z0, sA_z0, sB_z0, Option.toList_some, Option.toList_none, List.cons_append, List.nil_append, true_and, and_true, false_and, and_false, or_false, false_or, or_true, true_or, not_true_eq_false, not_false_eq_true, ↓reduceIte, Nat.reduceAdd, Nat.reduceLeDiff, Nat.reduceEqDiff, Nat.reduceSub, Int32.reduceAdd, Int32.reduceSub, Int32.reduceMul, Int32.reduceToNatClampNeg, Int64.reduceAdd, Int64.reduceSub, Int64.reduceMul, Int64.reduceLT, Int32.reduceLT, Int32.reduceToInt, Nat.add_zero, Nat.zero_add, Nat.le_refl, eq_self, implies_true, ne_eq, g0, s0, g1, s1, g2, s2, g3, s3, g4, s4, g5, g6, g7, g8, g9, g10, g11, g12, s12, g13, s13, g14, s14, g15, s15, g16, g17, g18, g19, g20, g21, g22, s22, ai1, aw1, ae1, as1, ai2, aw2, ae2, as2, ai3, aw3, ae3, as3, ai4, aw4, ae4, as4, ai5, aw5, ae5, as5, ai6, aw6, ae6, as6, ai7, aw7, ae7, as7, ai8, aw8, ae8, as8, ai9, aw9, ae9, as9, ai10, aw10, ae10, as10, ai11, aw11, ae11, as11, ai12, aw12, ae12, as12, ai13, aw13, ae13, as13, h3, cm]
  | succ m ih =>
    intro gc mask h1 h2
    have h3 : gc < sI s 1 := by rw [lt32]; omega
    have h4 : (gc + 1).toInt = gc.toInt + 1 := ia (by simp only [Int32.reduceToInt]; omega) (by simp only [Int32.reduceToInt]; omega)
    have ha : 0 ≤ gc.toInt ∧ gc.toInt < 10 := by omega
    rw [w5_5]; simp +decide only [w5_0, w5_1, w5_2, w5_3, w5_7, w5_8, w5_11, w5_14, w5_15, w5_17, w5_18, w5_19, w5_22, w5_25, w5_26, w5_27, w5_29, w5_30, w5_31i, w5_32, w5_35, w5_38, w5_39, zr_z0, zr_uI, zr_uJ, isO_put, isOw_put, put_fst, okv_int, okv_long, okv_ref, okv_bool, okv_byte, cat1_unset, cat1_int, cat1_ref, cs_nil, cs_int, cs_ref, cs_long, cmpL_lt, cmpL_gt, cmpL_eq, sI_uI, sI_uJ, sI_uA, sI_uB, sJ_uI, sJ_uJ, sJ_uA, sJ_uB, sA_uI, sA_uJ, sA_uA, sA_uB, sB_uI, sB_uJ, sB_uA, sB_uB, sI_fA, sJ_fA, sA_fA, sB_fA, sI_z0, sJ_z0, sA_z0, sB_z0, Option.toList_some, Option.toList_none, List.cons_append, List.nil_append, true_and, and_true, false_and, and_false, or_false, false_or, or_true, true_or, not_true_eq_false, not_false_eq_true, ↓reduceIte, Nat.reduceAdd, Nat.reduceLeDiff, Nat.reduceEqDiff, Nat.reduceSub, Int32.reduceAdd, Int32.reduceSub, Int32.reduceMul, Int32.reduceToNatClampNeg, Int64.reduceAdd, Int64.reduceSub, Int64.reduceMul, Int64.reduceLT, Int32.reduceLT, Int32.reduceToInt, Nat.add_zero, Nat.zero_add, Nat.le_refl, eq_self, implies_true, ne_eq, g0, s0, g1, s1, g2, s2, g3, s3, g4, s4, g5, g6, g7, g8, g9, g10, g11, g12, s12, g13, s13, g14, s14, g15, s15, g16, g17, g18, g19, g20, g21, g22, s22, ai1, aw1, ae1, as1, ai2, aw2, ae2, as2, ai3, aw3, ae3, as3, ai4, aw4, ae4, as4, ai5, aw5, ae5, as5, ai6, aw6, ae6, as6, ai7, aw7, ae7, as7, ai8, aw8, ae8, as8, ai9, aw9, ae9, as9, ai10, aw10, ae10, as10, ai11, aw11, ae11, as11, ai12, aw12, ae12, as12, ai13, aw13, ae13, as13, h3, t6 ha hb hc]
    rw [cm]
    by_cases e : cp (sA s 8 gc.toNatClampNeg) (sA s 9 gc.toNatClampNeg) (sA s 8 b.toNatClampNeg) (sA s 9 b.toNatClampNeg) (sA s 8 c.toNatClampNeg) (sA s 9 c.toNatClampNeg) = true
    · rw [if_pos e, if_pos e]; exact ih _ _ (by omega) (by omega)
    · rw [if_neg e, if_neg e]; exact ih _ _ (by omega) (by omega)
theorem t5 (hb : 0 ≤ b.toInt ∧ b.toInt < 10) (hc : 0 ≤ c.toInt ∧ c.toInt < 10) (hg : 0 ≤ (sI s 1).toInt ∧ (sI s 1).toInt ≤ 10) :
    Cl (pj lw) 5 [.ref p, .int b, .int c] (ob H p s) Q ↔ Q (some (.int (cm (sA s 8) (sA s 9) b c (sI s 1).toInt.toNat 0 0))) (ob H p s) := by
  rw [c5]; simp +decide only [w5_0, w5_1, w5_2, w5_3, w5_7, w5_8, w5_11, w5_14, w5_15, w5_17, w5_18, w5_19, w5_22, w5_25, w5_26, w5_27, w5_29, w5_30, w5_31i, w5_32, w5_35, w5_38, w5_39, zr_z0, zr_uI, zr_uJ, isO_put, isOw_put, put_fst, okv_int, okv_long, okv_ref, okv_bool, okv_byte, cat1_unset, cat1_int, cat1_ref, cs_nil, cs_int, cs_ref, cs_long, cmpL_lt, cmpL_gt, cmpL_eq, sI_uI, sI_uJ, sI_uA, sI_uB, sJ_uI, sJ_uJ, sJ_uA, sJ_uB, sA_uI, sA_uJ, sA_uA, sA_uB, sB_uI, sB_uJ, sB_uA, sB_uB, sI_fA, sJ_fA, sA_fA, sB_fA, sI_z0, sJ_z0, sA_z0, sB_z0, Option.toList_some, Option.toList_none, List.cons_append, List.nil_append, true_and, and_true, false_and, and_false, or_false, false_or, or_true, true_or, not_true_eq_false, not_false_eq_true, ↓reduceIte, Nat.reduceAdd, Nat.reduceLeDiff, Nat.reduceEqDiff, Nat.reduceSub, Int32.reduceAdd, Int32.reduceSub, Int32.reduceMul, Int32.reduceToNatClampNeg, Int64.reduceAdd, Int64.reduceSub, Int64.reduceMul, Int64.reduceLT, Int32.reduceLT, Int32.reduceToInt, Nat.add_zero, Nat.zero_add, Nat.le_refl, eq_self, implies_true, ne_eq]
  exact l5 hb hc hg.2 _ 0 0 (by simp only [Int32.reduceToInt]; omega) (by decide)
def km (s : St) (gf gm : Nat) : St := (s.1, s.2.1, fun t i => if t = 11 ∧ i < 100 ∧ i / 10 < (sI s 1).toInt.toNat ∧ i % 10 < (sI s 1).toInt.toNat ∧ (gf < i / 10 ∨ (i / 10 = gf ∧ gm ≤ i % 10)) then cm (sA s 8) (sA s 9) (Int32.ofNat (i / 10)) (Int32.ofNat (i % 10)) (sI s 1).toInt.toNat 0 0 else s.2.2.1 t i, s.2.2.2)
theorem sI_km {gf gm x : Nat} : sI (km s gf gm) x = sI s x := by simp [sI, km]
theorem sJ_km {gf gm x : Nat} : sJ (km s gf gm) x = sJ s x := by simp [sJ, km]
theorem sB_km {gf gm t i : Nat} : sB (km s gf gm) t i = sB s t i := by simp [sB, km]
theorem sA_km {gf gm t i : Nat} : sA (km s gf gm) t i = if t = 11 ∧ i < 100 ∧ i / 10 < (sI s 1).toInt.toNat ∧ i % 10 < (sI s 1).toInt.toNat ∧ (gf < i / 10 ∨ (i / 10 = gf ∧ gm ≤ i % 10)) then cm (sA s 8) (sA s 9) (Int32.ofNat (i / 10)) (Int32.ofNat (i % 10)) (sI s 1).toInt.toNat 0 0 else sA s t i := by simp [sA, km]
theorem sA_uA_fun {t t' i : Nat} {v : Int32} (h : t' ≠ t) : sA (uA s t i v) t' = sA s t' := by funext x; rw [sA_uA, if_neg (fun q => h q.1)]
theorem ofNat_clamp {x : Int32} (h : 0 ≤ x.toInt) : Int32.ofNat x.toNatClampNeg = x := by
  have := rg32 x
  rw [eq32, cln, Int32.toInt_ofNat_of_lt (by omega)]; omega
theorem km_step {gf gm : Int32} (h1 : 0 ≤ gf.toInt ∧ gf.toInt < (sI s 1).toInt) (h2 : 0 ≤ gm.toInt ∧ gm.toInt < (sI s 1).toInt) (hg : (sI s 1).toInt ≤ 10) (e : (gf * 10 + gm).toNatClampNeg = gf.toNatClampNeg * 10 + gm.toNatClampNeg) :
    km (uA s 11 (gf * 10 + gm).toNatClampNeg (cm (sA s 8) (sA s 9) gf gm (sI s 1).toInt.toNat 0 0)) gf.toNatClampNeg (gm.toNatClampNeg + 1) = km s gf.toNatClampNeg gm.toNatClampNeg := by
  refine St_ext (fun k => by rw [sI_km, sI_km, sI_uA]) (fun k => by rw [sJ_km, sJ_km, sJ_uA]) (fun t i => ?_) (fun t i => by rw [sB_km, sB_km, sB_uA])
  rw [sA_km, sA_km, sI_uA, sA_uA_fun (by decide), sA_uA_fun (by decide), sA_uA, e]
  have q1 : gf.toNatClampNeg < 10 := by rw [cln]; omega
  have q2 : gm.toNatClampNeg < 10 := by rw [cln]; omega
  by_cases g1 : t = 11 ∧ i < 100 ∧ i / 10 < (sI s 1).toInt.toNat ∧ i % 10 < (sI s 1).toInt.toNat ∧ (gf.toNatClampNeg < i / 10 ∨ (i / 10 = gf.toNatClampNeg ∧ gm.toNatClampNeg + 1 ≤ i % 10))
  · rw [if_pos g1, if_pos (by omega)]
  · rw [if_neg g1]
    by_cases g2 : t = 11 ∧ i = gf.toNatClampNeg * 10 + gm.toNatClampNeg
    · have g3 : i / 10 = gf.toNatClampNeg := by omega
      have g4 : i % 10 = gm.toNatClampNeg := by omega
      have g5 : gf.toNatClampNeg < (sI s 1).toInt.toNat := by rw [cln]; omega
      have g6 : gm.toNatClampNeg < (sI s 1).toInt.toNat := by rw [cln]; omega
      rw [if_pos g2, if_pos (by omega), g3, g4, ofNat_clamp h1.1, ofNat_clamp h2.1]
    · rw [if_neg g2, if_neg (by omega)]
theorem km_end {gf gm : Nat} (h : (sI s 1).toInt.toNat ≤ gf) : km s gf gm = s := by
  refine St_ext (fun k => sI_km) (fun k => sJ_km) (fun t i => ?_) (fun t i => sB_km)
  rw [sA_km, if_neg (by omega)]
theorem km_row {gf gm : Nat} (h : (sI s 1).toInt.toNat ≤ gm) : km s gf gm = km s (gf + 1) 0 := by
  refine St_ext (fun k => by rw [sI_km, sI_km]) (fun k => by rw [sJ_km, sJ_km]) (fun t i => ?_) (fun t i => by rw [sB_km, sB_km])
  rw [sA_km, sA_km]
  by_cases g : t = 11 ∧ i < 100 ∧ i / 10 < (sI s 1).toInt.toNat ∧ i % 10 < (sI s 1).toInt.toNat ∧ (gf < i / 10 ∨ (i / 10 = gf ∧ gm ≤ i % 10))
  · rw [if_pos g, if_pos (by omega)]
  · rw [if_neg g, if_neg (by omega)]
theorem l4 (hg : 0 ≤ (sI s 1).toInt ∧ (sI s 1).toInt ≤ 10) (g : Int32) (eg : sI s 1 = g) (m : Nat) : ∀ (gf gm : Int32) (s : St), sI s 1 = g → (m : Int) = (g.toInt - gf.toInt) * 11 + (g.toInt - gm.toInt) → 0 ≤ gf.toInt → gf.toInt < g.toInt → 0 ≤ gm.toInt → gm.toInt ≤ g.toInt →
    (W (pj lw) 4 12 [.val (.ref p), .val (.int gf), .val (.int gm)] [] k n (ob H p s) Q ↔ Q none (ob H p (km s gf.toNatClampNeg gm.toNatClampNeg))) := by
  subst eg
  revert hg
  generalize sI s 1 = g
  intro hg
  induction m using Nat.strongRecOn with
  | _ m ih =>
    intro gf gm s es hm h1 h2 h3 h4
    have hs : 0 ≤ (sI s 1).toInt ∧ (sI s 1).toInt ≤ 10 := by rw [es]; exact hg
    by_cases e : gm.toInt = g.toInt
    · have q1 : ¬ gm < g := by rw [lt32]; omega
      have q2 : (gf + 1).toInt = gf.toInt + 1 := ia (by simp only [Int32.reduceToInt]; omega) (by simp only [Int32.reduceToInt]; omega)
      have q3 : (gf + 1).toNatClampNeg = gf.toNatClampNeg + 1 := by rw [cln, cln]; omega
      rw [km_row (by rw [es, cln]; omega), ← q3]
      by_cases e2 : gf.toInt + 1 = g.toInt
      · have q4 : ¬ gf + 1 < g := by rw [lt32]; omega
        rw [w4_12]; simp +decide only [w4_0, w4_1, w4_3, w4_4, w4_7, w4_10, w4_11i, w4_11, w4_13, w4_14, w4_17, w4_20, w4_21, w4_24, w4_25, w4_27, w4_28, w4_29, w4_30, w4_31, w4_32, w4_33, w4_36, w4_37, w4_40, w4_43, w4_46, w4_49, w4_2, w4_12, zr_z0, zr_uI, zr_uJ, isO_put, isOw_put, put_fst, okv_int, okv_long, okv_ref, okv_bool, okv_byte, cat1_unset, cat1_int, cat1_ref, cs_nil, cs_int, cs_ref, cs_long, cmpL_lt, cmpL_gt, cmpL_eq, sI_uI, sI_uJ, sI_uA, sI_uB, sJ_uI, sJ_uJ, sJ_uA, sJ_uB, sA_uI, sA_uJ, sA_uA, sA_uB, sB_uI, sB_uJ, sB_uA, sB_uB, sI_fA, sJ_fA, sA_fA, sB_fA, sI_z0, sJ_z0, sA_z0, sB_z0, Option.toList_some, Option.toList_none, List.cons_append, List.nil_append, true_and, and_true, false_and, and_false, or_false, false_or, or_true, true_or, not_true_eq_false, not_false_eq_true, ↓reduceIte, Nat.reduceAdd, Nat.reduceLeDiff, Nat.reduceEqDiff, Nat.reduceSub, Int32.reduceAdd, Int32.reduceSub, Int32.reduceMul, Int32.reduceToNatClampNeg, Int64.reduceAdd, Int64.reduceSub, Int64.reduceMul, Int64.reduceLT, Int32.reduceLT, Int32.reduceToInt, Nat.add_zero, Nat.zero_add, Nat.le_refl, eq_self, implies_true, ne_eq, g0, s0, g1, s1, g2, s2, g3, s3, g4, s4, g5, g6, g7, g8, g9, g10, g11, g12, s12, g13, s13, g14, s14, g15, s15, g16, g17, g18, g19, g20, g21, g22, s22, ai1, aw1, ae1, as1, ai2, aw2, ae2, as2, ai3, aw3, ae3, as3, ai4, aw4, ae4, as4, ai5, aw5, ae5, as5, ai6, aw6, ae6, as6, ai7, aw7, ae7, as7, ai8, aw8, ae8, as8, ai9, aw9, ae9, as9, ai10, aw10, ae10, as10, ai11, aw11, ae11, as11, ai12, aw12, ae12, as12, ai13, aw13, ae13, as13, es, q1, q4]
        rw [km_end (by rw [es, cln]; omega)]
      · have q4 : gf + 1 < g := by rw [lt32]; omega
        rw [w4_12]; simp +decide only [w4_0, w4_1, w4_3, w4_4, w4_7, w4_10, w4_11i, w4_11, w4_13, w4_14, w4_17, w4_20, w4_21, w4_24, w4_25, w4_27, w4_28, w4_29, w4_30, w4_31, w4_32, w4_33, w4_36, w4_37, w4_40, w4_43, w4_46, w4_49, w4_2, zr_z0, zr_uI, zr_uJ, isO_put, isOw_put, put_fst, okv_int, okv_long, okv_ref, okv_bool, okv_byte, cat1_unset, cat1_int, cat1_ref, cs_nil, cs_int, cs_ref, cs_long, cmpL_lt, cmpL_gt, cmpL_eq, sI_uI, sI_uJ, sI_uA, sI_uB, sJ_uI, sJ_uJ, sJ_uA, sJ_uB, sA_uI, sA_uJ, sA_uA, sA_uB, sB_uI, sB_uJ, sB_uA, sB_uB, sI_fA, sJ_fA, sA_fA, sB_fA, sI_z0, sJ_z0, sA_z0, sB_z0, Option.toList_some, Option.toList_none, List.cons_append, List.nil_append, true_and, and_true, false_and, and_false, or_false, false_or, or_true, true_or, not_true_eq_false, not_false_eq_true, ↓reduceIte, Nat.reduceAdd, Nat.reduceLeDiff, Nat.reduceEqDiff, Nat.reduceSub, Int32.reduceAdd, Int32.reduceSub, Int32.reduceMul, Int32.reduceToNatClampNeg, Int64.reduceAdd, Int64.reduceSub, Int64.reduceMul, Int64.reduceLT, Int32.reduceLT, Int32.reduceToInt, Nat.add_zero, Nat.zero_add, Nat.le_refl, eq_self, implies_true, ne_eq, g0, s0, g1, s1, g2, s2, g3, s3, g4, s4, g5, g6, g7, g8, g9, g10, g11, g12, s12, g13, s13, g14, s14, g15, s15, g16, g17, g18, g19, g20, g21, g22, s22, ai1, aw1, ae1, as1, ai2, aw2, ae2, as2, ai3, aw3, ae3, as3, ai4, aw4, ae4, as4, ai5, aw5, ae5, as5, ai6, aw6, ae6, as6, ai7, aw7, ae7, as7, ai8, aw8, ae8, as8, ai9, aw9, ae9, as9, ai10, aw10, ae10, as10, ai11, aw11, ae11, as11, ai12, aw12, ae12, as12, ai13, aw13, ae13, as13, es, q1, q4]
        rw [ih ((g.toInt - (gf + 1).toInt) * 11 + g.toInt).toNat (by omega) (gf + 1) 0 s es (by simp only [Int32.reduceToInt]; omega) (by omega) (by omega) (by decide) (by simp only [Int32.reduceToInt]; omega)]
        simp only [Int32.reduceToNatClampNeg]
    · have q1 : gm < g := by rw [lt32]; omega
      have q2 : (gm + 1).toInt = gm.toInt + 1 := ia (by simp only [Int32.reduceToInt]; omega) (by simp only [Int32.reduceToInt]; omega)
      have q3 : (gm + 1).toNatClampNeg = gm.toNatClampNeg + 1 := by rw [cln, cln]; omega
      have i1 : (gf * 10 + gm).toInt = gf.toInt * 10 + gm.toInt := by
        rw [idx2 (a := 10) (b := 10) 10 (by decide) (by omega) (by omega) (by omega) (by omega)]; simp only [Int32.reduceToInt]
      have i2 : (gf * 10 + gm).toNatClampNeg = gf.toNatClampNeg * 10 + gm.toNatClampNeg := by rw [cln, cln, cln, i1]; omega
      have i3 : 0 ≤ (gf * 10 + gm).toInt ∧ (gf * 10 + gm).toInt < 100 := by omega
      rw [w4_12]; simp +decide only [w4_0, w4_1, w4_3, w4_4, w4_7, w4_10, w4_11i, w4_11, w4_13, w4_14, w4_17, w4_20, w4_21, w4_24, w4_25, w4_27, w4_28, w4_29, w4_30, w4_31, w4_32, w4_33, w4_36, w4_37, w4_40, w4_43, w4_46, w4_49, zr_z0, zr_uI, zr_uJ, isO_put, isOw_put, put_fst, okv_int, okv_long, okv_ref, okv_bool, okv_byte, cat1_unset, cat1_int, cat1_ref, cs_nil, cs_int, cs_ref, cs_long, cmpL_lt, cmpL_gt, cmpL_eq, sI_uI, sI_uJ, sI_uA, sI_uB, sJ_uI, sJ_uJ, sJ_uA, sJ_uB, sA_uI, sA_uJ, sA_uA, sA_uB, sB_uI, sB_uJ, sB_uA, sB_uB, sI_fA, sJ_fA, sA_fA, sB_fA, sI_z0, sJ_z0, sA_z0, sB_z0, Option.toList_some, Option.toList_none, List.cons_append, List.nil_append, true_and, and_true, false_and, and_false, or_false, false_or, or_true, true_or, not_true_eq_false, not_false_eq_true, ↓reduceIte, Nat.reduceAdd, Nat.reduceLeDiff, Nat.reduceEqDiff, Nat.reduceSub, Int32.reduceAdd, Int32.reduceSub, Int32.reduceMul, Int32.reduceToNatClampNeg, Int64.reduceAdd, Int64.reduceSub, Int64.reduceMul, Int64.reduceLT, Int32.reduceLT, Int32.reduceToInt, Nat.add_zero, Nat.zero_add, Nat.le_refl, eq_self, implies_true, ne_eq, g0, s0, g1, s1, g2, s2, g3, s3, g4, s4, g5, g6, g7, g8, g9, g10, g11, g12, s12, g13, s13, g14, s14, g15, s15, g16, g17, g18, g19, g20, g21, g22, s22, ai1, aw1, ae1, as1, ai2, aw2, ae2, as2, ai3, aw3, ae3, as3, ai4, aw4, ae4, as4, ai5, aw5, ae5, as5, ai6, aw6, ae6, as6, ai7, aw7, ae7, as7, ai8, aw8, ae8, as8, ai9, aw9, ae9, as9, ai10, aw10, ae10, as10, ai11, aw11, ae11, as11, ai12, aw12, ae12, as12, ai13, aw13, ae13, as13, es, q1, i3, t5 (b := gf) (c := gm) (by omega) (by omega) hs]
      rw [ih (m - 1) (by omega) gf (gm + 1) _ (by rw [sI_uA]; exact es) (by omega) h1 h2 (by omega) (by omega), q3]
      rw [← es, km_step (by rw [es]; omega) (by rw [es]; omega) hs.2 i2]
theorem t4 (hg : 0 < (sI s 1).toInt ∧ (sI s 1).toInt ≤ 10) : Cl (pj lw) 4 [.ref p] (ob H p s) Q ↔ Q none (ob H p (km s 0 0)) := by
  have q : (0 : Int32) < sI s 1 := by rw [lt32]; simp only [Int32.reduceToInt]; omega
  rw [c4]; simp +decide only [w4_0, w4_1, w4_3, w4_4, w4_7, w4_10, w4_11i, w4_11, w4_13, w4_14, w4_17, w4_20, w4_21, w4_24, w4_25, w4_27, w4_28, w4_29, w4_30, w4_31, w4_32, w4_33, w4_36, w4_37, w4_40, w4_43, w4_46, w4_49, w4_2, zr_z0, zr_uI, zr_uJ, isO_put, isOw_put, put_fst, okv_int, okv_long, okv_ref, okv_bool, okv_byte, cat1_unset, cat1_int, cat1_ref, cs_nil, cs_int, cs_ref, cs_long, cmpL_lt, cmpL_gt, cmpL_eq, sI_uI, sI_uJ, sI_uA, sI_uB, sJ_uI, sJ_uJ, sJ_uA, sJ_uB, sA_uI, sA_uJ, sA_uA, sA_uB, sB_uI, sB_uJ, sB_uA, sB_uB, sI_fA, sJ_fA, sA_fA, sB_fA, sI_z0, sJ_z0, sA_z0, sB_z0, Option.toList_some, Option.toList_none, List.cons_append, List.nil_append, true_and, and_true, false_and, and_false, or_false, false_or, or_true, true_or, not_true_eq_false, not_false_eq_true, ↓reduceIte, Nat.reduceAdd, Nat.reduceLeDiff, Nat.reduceEqDiff, Nat.reduceSub, Int32.reduceAdd, Int32.reduceSub, Int32.reduceMul, Int32.reduceToNatClampNeg, Int64.reduceAdd, Int64.reduceSub, Int64.reduceMul, Int64.reduceLT, Int32.reduceLT, Int32.reduceToInt, Nat.add_zero, Nat.zero_add, Nat.le_refl, eq_self, implies_true, ne_eq, g0, s0, g1, s1, g2, s2, g3, s3, g4, s4, g5, g6, g7, g8, g9, g10, g11, g12, s12, g13, s13, g14, s14, g15, s15, g16, g17, g18, g19, g20, g21, g22, s22, ai1, aw1, ae1, as1, ai2, aw2, ae2, as2, ai3, aw3, ae3, as3, ai4, aw4, ae4, as4, ai5, aw5, ae5, as5, ai6, aw6, ae6, as6, ai7, aw7, ae7, as7, ai8, aw8, ae8, as8, ai9, aw9, ae9, as9, ai10, aw10, ae10, as10, ai11, aw11, ae11, as11, ai12, aw12, ae12, as12, ai13, aw13, ae13, as13, q]
  rw [l4 (s := s) (by omega) (sI s 1) rfl ((sI s 1).toInt * 11 + (sI s 1).toInt).toNat 0 0 s rfl (by simp only [Int32.reduceToInt]; omega) (by decide) (by simp only [Int32.reduceToInt]; omega) (by decide) (by simp only [Int32.reduceToInt]; omega)]
  simp only [Int32.reduceToNatClampNeg]
def wr4 (s : St) (k a b : Int32) : St := uA (uA (uA (uA s 8 k.toNatClampNeg a) 9 k.toNatClampNeg b) 10 (a * 5 + b).toNatClampNeg k) 10 (b * 5 + a).toNatClampNeg k
def bg2 (s : St) : St := uI (uI (wr4 (wr4 (wr4 s 0 1 1) 1 1 2) 2 2 2) 1 3) 2 ((1 : Int32) <<< ((3 : Int32) &&& 31) - 1)
def bg3 (s : St) : St := uI (uI (wr4 (wr4 (wr4 (wr4 (wr4 (wr4 s 0 1 1) 1 1 2) 2 1 3) 3 2 2) 4 2 3) 5 3 3) 1 6) 2 ((1 : Int32) <<< ((6 : Int32) &&& 31) - 1)
def bg4 (s : St) : St := uI (uI (wr4 (wr4 (wr4 (wr4 (wr4 (wr4 (wr4 (wr4 (wr4 (wr4 s 0 1 1) 1 1 2) 2 1 3) 3 1 4) 4 2 2) 5 2 3) 6 2 4) 7 3 3) 8 3 4) 9 4 4) 1 10) 2 ((1 : Int32) <<< ((10 : Int32) &&& 31) - 1)
set_option maxRecDepth 100000 in
set_option maxHeartbeats 2000000 in
theorem t3_2 (h0 : sI s 0 = 2) : Cl (pj lw) 3 [.ref p] (ob H p s) Q ↔ Q none (ob H p (bg2 s)) := by
  rw [c3]; simp +decide only [w3_0, w3_1, w3_2, w3_3, w3_5, w3_6, w3_9, w3_12, w3_13i, w3_13, w3_15, w3_16, w3_19, w3_22, w3_23, w3_26, w3_27, w3_28, w3_29, w3_30, w3_33, w3_34, w3_35, w3_36, w3_37, w3_40, w3_41, w3_42, w3_43, w3_44, w3_45, w3_46, w3_47, w3_48, w3_51, w3_52, w3_53, w3_54, w3_55, w3_56, w3_57, w3_58, w3_61, w3_64, w3_67, w3_70, w3_73, w3_74, w3_75, w3_78, w3_79, w3_80, w3_81, w3_82, w3_83, w3_84, w3_87, w3_4, w3_14, zr_z0, zr_uI, zr_uJ, isO_put, isOw_put, put_fst, okv_int, okv_long, okv_ref, okv_bool, okv_byte, cat1_unset, cat1_int, cat1_ref, cs_nil, cs_int, cs_ref, cs_long, cmpL_lt, cmpL_gt, cmpL_eq, sI_uI, sI_uJ, sI_uA, sI_uB, sJ_uI, sJ_uJ, sJ_uA, sJ_uB, sA_uI, sA_uJ, sA_uA, sA_uB, sB_uI, sB_uJ, sB_uA, sB_uB, sI_fA, sJ_fA, sA_fA, sB_fA, sI_z0, sJ_z0, sA_z0, sB_z0, Option.toList_some, Option.toList_none, List.cons_append, List.nil_append, true_and, and_true, false_and, and_false, or_false, false_or, or_true, true_or, not_true_eq_false, not_false_eq_true, ↓reduceIte, Nat.reduceAdd, Nat.reduceLeDiff, Nat.reduceEqDiff, Nat.reduceSub, Int32.reduceAdd, Int32.reduceSub, Int32.reduceMul, Int32.reduceToNatClampNeg, Int64.reduceAdd, Int64.reduceSub, Int64.reduceMul, Int64.reduceLT, Int32.reduceLT, Int32.reduceToInt, Nat.add_zero, Nat.zero_add, Nat.le_refl, eq_self, implies_true, ne_eq, g0, s0, g1, s1, g2, s2, g3, s3, g4, s4, g5, g6, g7, g8, g9, g10, g11, g12, s12, g13, s13, g14, s14, g15, s15, g16, g17, g18, g19, g20, g21, g22, s22, ai1, aw1, ae1, as1, ai2, aw2, ae2, as2, ai3, aw3, ae3, as3, ai4, aw4, ae4, as4, ai5, aw5, ae5, as5, ai6, aw6, ae6, as6, ai7, aw7, ae7, as7, ai8, aw8, ae8, as8, ai9, aw9, ae9, as9, ai10, aw10, ae10, as10, ai11, aw11, ae11, as11, ai12, aw12, ae12, as12, ai13, aw13, ae13, as13, h0, bg2, wr4]
set_option maxRecDepth 100000 in
set_option maxHeartbeats 2000000 in
theorem t3_3 (h0 : sI s 0 = 3) : Cl (pj lw) 3 [.ref p] (ob H p s) Q ↔ Q none (ob H p (bg3 s)) := by
  rw [c3]; simp +decide only [w3_0, w3_1, w3_2, w3_3, w3_5, w3_6, w3_9, w3_12, w3_13i, w3_13, w3_15, w3_16, w3_19, w3_22, w3_23, w3_26, w3_27, w3_28, w3_29, w3_30, w3_33, w3_34, w3_35, w3_36, w3_37, w3_40, w3_41, w3_42, w3_43, w3_44, w3_45, w3_46, w3_47, w3_48, w3_51, w3_52, w3_53, w3_54, w3_55, w3_56, w3_57, w3_58, w3_61, w3_64, w3_67, w3_70, w3_73, w3_74, w3_75, w3_78, w3_79, w3_80, w3_81, w3_82, w3_83, w3_84, w3_87, w3_4, w3_14, zr_z0, zr_uI, zr_uJ, isO_put, isOw_put, put_fst, okv_int, okv_long, okv_ref, okv_bool, okv_byte, cat1_unset, cat1_int, cat1_ref, cs_nil, cs_int, cs_ref, cs_long, cmpL_lt, cmpL_gt, cmpL_eq, sI_uI, sI_uJ, sI_uA, sI_uB, sJ_uI, sJ_uJ, sJ_uA, sJ_uB, sA_uI, sA_uJ, sA_uA, sA_uB, sB_uI, sB_uJ, sB_uA, sB_uB, sI_fA, sJ_fA, sA_fA, sB_fA, sI_z0, sJ_z0, sA_z0, sB_z0, Option.toList_some, Option.toList_none, List.cons_append, List.nil_append, true_and, and_true, false_and, and_false, or_false, false_or, or_true, true_or, not_true_eq_false, not_false_eq_true, ↓reduceIte, Nat.reduceAdd, Nat.reduceLeDiff, Nat.reduceEqDiff, Nat.reduceSub, Int32.reduceAdd, Int32.reduceSub, Int32.reduceMul, Int32.reduceToNatClampNeg, Int64.reduceAdd, Int64.reduceSub, Int64.reduceMul, Int64.reduceLT, Int32.reduceLT, Int32.reduceToInt, Nat.add_zero, Nat.zero_add, Nat.le_refl, eq_self, implies_true, ne_eq, g0, s0, g1, s1, g2, s2, g3, s3, g4, s4, g5, g6, g7, g8, g9, g10, g11, g12, s12, g13, s13, g14, s14, g15, s15, g16, g17, g18, g19, g20, g21, g22, s22, ai1, aw1, ae1, as1, ai2, aw2, ae2, as2, ai3, aw3, ae3, as3, ai4, aw4, ae4, as4, ai5, aw5, ae5, as5, ai6, aw6, ae6, as6, ai7, aw7, ae7, as7, ai8, aw8, ae8, as8, ai9, aw9, ae9, as9, ai10, aw10, ae10, as10, ai11, aw11, ae11, as11, ai12, aw12, ae12, as12, ai13, aw13, ae13, as13, h0, bg3, wr4]
set_option maxRecDepth 100000 in
set_option maxHeartbeats 2000000 in
theorem t3_4 (h0 : sI s 0 = 4) : Cl (pj lw) 3 [.ref p] (ob H p s) Q ↔ Q none (ob H p (bg4 s)) := by
  rw [c3]; simp +decide only [w3_0, w3_1, w3_2, w3_3, w3_5, w3_6, w3_9, w3_12, w3_13i, w3_13, w3_15, w3_16, w3_19, w3_22, w3_23, w3_26, w3_27, w3_28, w3_29, w3_30, w3_33, w3_34, w3_35, w3_36, w3_37, w3_40, w3_41, w3_42, w3_43, w3_44, w3_45, w3_46, w3_47, w3_48, w3_51, w3_52, w3_53, w3_54, w3_55, w3_56, w3_57, w3_58, w3_61, w3_64, w3_67, w3_70, w3_73, w3_74, w3_75, w3_78, w3_79, w3_80, w3_81, w3_82, w3_83, w3_84, w3_87, w3_4, w3_14, zr_z0, zr_uI, zr_uJ, isO_put, isOw_put, put_fst, okv_int, okv_long, okv_ref, okv_bool, okv_byte, cat1_unset, cat1_int, cat1_ref, cs_nil, cs_int, cs_ref, cs_long, cmpL_lt, cmpL_gt, cmpL_eq, sI_uI, sI_uJ, sI_uA, sI_uB, sJ_uI, sJ_uJ, sJ_uA, sJ_uB, sA_uI, sA_uJ, sA_uA, sA_uB, sB_uI, sB_uJ, sB_uA, sB_uB, sI_fA, sJ_fA, sA_fA, sB_fA, sI_z0, sJ_z0, sA_z0, sB_z0, Option.toList_some, Option.toList_none, List.cons_append, List.nil_append, true_and, and_true, false_and, and_false, or_false, false_or, or_true, true_or, not_true_eq_false, not_false_eq_true, ↓reduceIte, Nat.reduceAdd, Nat.reduceLeDiff, Nat.reduceEqDiff, Nat.reduceSub, Int32.reduceAdd, Int32.reduceSub, Int32.reduceMul, Int32.reduceToNatClampNeg, Int64.reduceAdd, Int64.reduceSub, Int64.reduceMul, Int64.reduceLT, Int32.reduceLT, Int32.reduceToInt, Nat.add_zero, Nat.zero_add, Nat.le_refl, eq_self, implies_true, ne_eq, g0, s0, g1, s1, g2, s2, g3, s3, g4, s4, g5, g6, g7, g8, g9, g10, g11, g12, s12, g13, s13, g14, s14, g15, s15, g16, g17, g18, g19, g20, g21, g22, s22, ai1, aw1, ae1, as1, ai2, aw2, ae2, as2, ai3, aw3, ae3, as3, ai4, aw4, ae4, as4, ai5, aw5, ae5, as5, ai6, aw6, ae6, as6, ai7, aw7, ae7, as7, ai8, aw8, ae8, as8, ai9, aw9, ae9, as9, ai10, aw10, ae10, as10, ai11, aw11, ae11, as11, ai12, aw12, ae12, as12, ai13, aw13, ae13, as13, h0, bg4, wr4]
def bg (a : Int32) (s : St) : St := if a = 2 then bg2 s else if a = 3 then bg3 s else bg4 s
def ini0 (a g : Int32) : St := uI (uI (uI (uI (uI (uI (km (bg a (uI (uI z0 0 a) 3 g)) 0 0) 4 0) 12 0) 13 0) 14 0) 15 0) 22 0
set_option maxRecDepth 100000 in
set_option maxHeartbeats 4000000 in
theorem t1 : Cl (pj lw) 1 [.ref p, .int a, .int b] (put lay 0 (p + 1, h) p z0) Q ↔ Q none (ob (p + 14, h) p (ini0 (cl 2 4 a) (if b < 1 then 1 else b))) := by
  rw [c1]
  have key : (a < 2 ∧ ¬ 4 < a) ∨ (¬ a < 2 ∧ 4 < a) ∨ a = 2 ∨ a = 3 ∨ a = 4 := by
    rcases cl3 (lo := 2) (hi := 4) a (by decide) with q | q | q
    · exact Or.inl q
    · exact Or.inr (Or.inl q)
    · refine Or.inr (Or.inr ?_); simp only [lt32, eq32, Int32.reduceToInt] at *; omega
  rcases key with ⟨h1, h2⟩ | ⟨h1, h2⟩ | rfl | rfl | rfl
  · have ec : cl 2 4 a = 2 := by simp +decide only [cl, h1, h2, ↓reduceIte]
    by_cases hb : b < 1
    all_goals
      simp +decide only [w1_0, w1_1, w1_4, w1_5, w1_7, w1_9, w1_12, w1_13, w1_15, w1_17, w1_20, w1_21, w1_23, w1_25, w1_28, w1_29, w1_31, w1_33, w1_36, w1_37, w1_39, w1_41, w1_44, w1_45, w1_47, w1_49, w1_52, w1_53, w1_55, w1_57, w1_60, w1_61, w1_63, w1_65, w1_68, w1_69, w1_71, w1_73, w1_76, w1_77, w1_79, w1_81, w1_84, w1_85, w1_87, w1_89, w1_92, w1_93, w1_95, w1_97, w1_100, w1_101, w1_103, w1_105, w1_108, w1_109, w1_110, w1_111, w1_112, w1_115, w1_116i, w1_117, w1_118, w1_119, w1_122, w1_123i, w1_124, w1_125, w1_126, w1_129, w1_130, w1_131, w1_132, w1_135, w1_138, w1_139, w1_142, w1_143, w1_146, w1_147, w1_148, w1_151, w1_152, w1_153, w1_156, w1_157, w1_158, w1_161, w1_162, w1_163, w1_166, w1_167, w1_168, w1_171, w1_172, w1_173, w1_176, zr_z0, zr_uI, zr_uJ, isO_put, isOw_put, put_fst, okv_int, okv_long, okv_ref, okv_bool, okv_byte, cat1_unset, cat1_int, cat1_ref, cs_nil, cs_int, cs_ref, cs_long, cmpL_lt, cmpL_gt, cmpL_eq, sI_uI, sI_uJ, sI_uA, sI_uB, sJ_uI, sJ_uJ, sJ_uA, sJ_uB, sA_uI, sA_uJ, sA_uA, sA_uB, sB_uI, sB_uJ, sB_uA, sB_uB, sI_fA, sJ_fA, sA_fA, sB_fA, sI_z0, sJ_z0, sA_z0, sB_z0, Option.toList_some, Option.toList_none, List.cons_append, List.nil_append, true_and, and_true, false_and, and_false, or_false, false_or, or_true, true_or, not_true_eq_false, not_false_eq_true, ↓reduceIte, Nat.reduceAdd, Nat.reduceLeDiff, Nat.reduceEqDiff, Nat.reduceSub, Int32.reduceAdd, Int32.reduceSub, Int32.reduceMul, Int32.reduceToNatClampNeg, Int64.reduceAdd, Int64.reduceSub, Int64.reduceMul, Int64.reduceLT, Int32.reduceLT, Int32.reduceToInt, Nat.add_zero, Nat.zero_add, Nat.le_refl, eq_self, implies_true, ne_eq, g0, s0, g1, s1, g2, s2, g3, s3, g4, s4, g5, g6, g7, g8, g9, g10, g11, g12, s12, g13, s13, g14, s14, g15, s15, g16, g17, g18, g19, g20, g21, g22, s22, ai1, aw1, ae1, as1, ai2, aw2, ae2, as2, ai3, aw3, ae3, as3, ai4, aw4, ae4, as4, ai5, aw5, ae5, as5, ai6, aw6, ae6, as6, ai7, aw7, ae7, as7, ai8, aw8, ae8, as8, ai9, aw9, ae9, as9, ai10, aw10, ae10, as10, ai11, aw11, ae11, as11, ai12, aw12, ae12, as12, ai13, aw13, ae13, as13, mk1, io1, mk2, io2, mk3, io3, mk4, io4, mk5, io5, mk6, io6, mk7, io7, mk8, io8, mk9, io9, mk10, io10, mk11, io11, mk12, io12, mk13, io13, c2, w2_0, w2_1, w2_2, w2_5, w2_6, w2_9, w2_10, h1, h2, hb, ec]
      rw [t3_2 (by simp +decide only [zr_z0, zr_uI, zr_uJ, isO_put, isOw_put, put_fst, okv_int, okv_long, okv_ref, okv_bool, okv_byte, cat1_unset, cat1_int, cat1_ref, cs_nil, cs_int, cs_ref, cs_long, cmpL_lt, cmpL_gt, cmpL_eq, sI_uI, sI_uJ, sI_uA, sI_uB, sJ_uI, sJ_uJ, sJ_uA, sJ_uB, sA_uI, sA_uJ, sA_uA, sA_uB, sB_uI, sB_uJ, sB_uA, sB_uB, sI_fA, sJ_fA, sA_fA, sB_fA, sI_z0, sJ_z0, sA_z0, sB_z0, Option.toList_some, Option.toList_none, List.cons_append, List.nil_append, true_and, and_true, false_and, and_false, or_false, false_or, or_true, true_or, not_true_eq_false, not_false_eq_true, ↓reduceIte, Nat.reduceAdd, Nat.reduceLeDiff, Nat.reduceEqDiff, Nat.reduceSub, Int32.reduceAdd, Int32.reduceSub, Int32.reduceMul, Int32.reduceToNatClampNeg, Int64.reduceAdd, Int64.reduceSub, Int64.reduceMul, Int64.reduceLT, Int32.reduceLT, Int32.reduceToInt, Nat.add_zero, Nat.zero_add, Nat.le_refl, eq_self, implies_true, ne_eq])]
      simp +decide only [w1_0, w1_1, w1_4, w1_5, w1_7, w1_9, w1_12, w1_13, w1_15, w1_17, w1_20, w1_21, w1_23, w1_25, w1_28, w1_29, w1_31, w1_33, w1_36, w1_37, w1_39, w1_41, w1_44, w1_45, w1_47, w1_49, w1_52, w1_53, w1_55, w1_57, w1_60, w1_61, w1_63, w1_65, w1_68, w1_69, w1_71, w1_73, w1_76, w1_77, w1_79, w1_81, w1_84, w1_85, w1_87, w1_89, w1_92, w1_93, w1_95, w1_97, w1_100, w1_101, w1_103, w1_105, w1_108, w1_109, w1_110, w1_111, w1_112, w1_115, w1_116i, w1_117, w1_118, w1_119, w1_122, w1_123i, w1_124, w1_125, w1_126, w1_129, w1_130, w1_131, w1_132, w1_135, w1_138, w1_139, w1_142, w1_143, w1_146, w1_147, w1_148, w1_151, w1_152, w1_153, w1_156, w1_157, w1_158, w1_161, w1_162, w1_163, w1_166, w1_167, w1_168, w1_171, w1_172, w1_173, w1_176, zr_z0, zr_uI, zr_uJ, isO_put, isOw_put, put_fst, okv_int, okv_long, okv_ref, okv_bool, okv_byte, cat1_unset, cat1_int, cat1_ref, cs_nil, cs_int, cs_ref, cs_long, cmpL_lt, cmpL_gt, cmpL_eq, sI_uI, sI_uJ, sI_uA, sI_uB, sJ_uI, sJ_uJ, sJ_uA, sJ_uB, sA_uI, sA_uJ, sA_uA, sA_uB, sB_uI, sB_uJ, sB_uA, sB_uB, sI_fA, sJ_fA, sA_fA, sB_fA, sI_z0, sJ_z0, sA_z0, sB_z0, Option.toList_some, Option.toList_none, List.cons_append, List.nil_append, true_and, and_true, false_and, and_false, or_false, false_or, or_true, true_or, not_true_eq_false, not_false_eq_true, ↓reduceIte, Nat.reduceAdd, Nat.reduceLeDiff, Nat.reduceEqDiff, Nat.reduceSub, Int32.reduceAdd, Int32.reduceSub, Int32.reduceMul, Int32.reduceToNatClampNeg, Int64.reduceAdd, Int64.reduceSub, Int64.reduceMul, Int64.reduceLT, Int32.reduceLT, Int32.reduceToInt, Nat.add_zero, Nat.zero_add, Nat.le_refl, eq_self, implies_true, ne_eq, g0, s0, g1, s1, g2, s2, g3, s3, g4, s4, g5, g6, g7, g8, g9, g10, g11, g12, s12, g13, s13, g14, s14, g15, s15, g16, g17, g18, g19, g20, g21, g22, s22, ai1, aw1, ae1, as1, ai2, aw2, ae2, as2, ai3, aw3, ae3, as3, ai4, aw4, ae4, as4, ai5, aw5, ae5, as5, ai6, aw6, ae6, as6, ai7, aw7, ae7, as7, ai8, aw8, ae8, as8, ai9, aw9, ae9, as9, ai10, aw10, ae10, as10, ai11, aw11, ae11, as11, ai12, aw12, ae12, as12, ai13, aw13, ae13, as13, mk1, io1, mk2, io2, mk3, io3, mk4, io4, mk5, io5, mk6, io6, mk7, io7, mk8, io8, mk9, io9, mk10, io10, mk11, io11, mk12, io12, mk13, io13, c2, w2_0, w2_1, w2_2, w2_5, w2_6, w2_9, w2_10, h1, h2, hb, ec]
      rw [t4 (by simp +decide only [bg2, wr4, zr_z0, zr_uI, zr_uJ, isO_put, isOw_put, put_fst, okv_int, okv_long, okv_ref, okv_bool, okv_byte, cat1_unset, cat1_int, cat1_ref, cs_nil, cs_int, cs_ref, cs_long, cmpL_lt, cmpL_gt, cmpL_eq, sI_uI, sI_uJ, sI_uA, sI_uB, sJ_uI, sJ_uJ, sJ_uA, sJ_uB, sA_uI, sA_uJ, sA_uA, sA_uB, sB_uI, sB_uJ, sB_uA, sB_uB, sI_fA, sJ_fA, sA_fA, sB_fA, sI_z0, sJ_z0, sA_z0, sB_z0, Option.toList_some, Option.toList_none, List.cons_append, List.nil_append, true_and, and_true, false_and, and_false, or_false, false_or, or_true, true_or, not_true_eq_false, not_false_eq_true, ↓reduceIte, Nat.reduceAdd, Nat.reduceLeDiff, Nat.reduceEqDiff, Nat.reduceSub, Int32.reduceAdd, Int32.reduceSub, Int32.reduceMul, Int32.reduceToNatClampNeg, Int64.reduceAdd, Int64.reduceSub, Int64.reduceMul, Int64.reduceLT, Int32.reduceLT, Int32.reduceToInt, Nat.add_zero, Nat.zero_add, Nat.le_refl, eq_self, implies_true, ne_eq])]
      simp +decide only [w1_0, w1_1, w1_4, w1_5, w1_7, w1_9, w1_12, w1_13, w1_15, w1_17, w1_20, w1_21, w1_23, w1_25, w1_28, w1_29, w1_31, w1_33, w1_36, w1_37, w1_39, w1_41, w1_44, w1_45, w1_47, w1_49, w1_52, w1_53, w1_55, w1_57, w1_60, w1_61, w1_63, w1_65, w1_68, w1_69, w1_71, w1_73, w1_76, w1_77, w1_79, w1_81, w1_84, w1_85, w1_87, w1_89, w1_92, w1_93, w1_95, w1_97, w1_100, w1_101, w1_103, w1_105, w1_108, w1_109, w1_110, w1_111, w1_112, w1_115, w1_116i, w1_117, w1_118, w1_119, w1_122, w1_123i, w1_124, w1_125, w1_126, w1_129, w1_130, w1_131, w1_132, w1_135, w1_138, w1_139, w1_142, w1_143, w1_146, w1_147, w1_148, w1_151, w1_152, w1_153, w1_156, w1_157, w1_158, w1_161, w1_162, w1_163, w1_166, w1_167, w1_168, w1_171, w1_172, w1_173, w1_176, zr_z0, zr_uI, zr_uJ, isO_put, isOw_put, put_fst, okv_int, okv_long, okv_ref, okv_bool, okv_byte, cat1_unset, cat1_int, cat1_ref, cs_nil, cs_int, cs_ref, cs_long, cmpL_lt, cmpL_gt, cmpL_eq, sI_uI, sI_uJ, sI_uA, sI_uB, sJ_uI, sJ_uJ, sJ_uA, sJ_uB, sA_uI, sA_uJ, sA_uA, sA_uB, sB_uI, sB_uJ, sB_uA, sB_uB, sI_fA, sJ_fA, sA_fA, sB_fA, sI_z0, sJ_z0, sA_z0, sB_z0, Option.toList_some, Option.toList_none, List.cons_append, List.nil_append, true_and, and_true, false_and, and_false, or_false, false_or, or_true, true_or, not_true_eq_false, not_false_eq_true, ↓reduceIte, Nat.reduceAdd, Nat.reduceLeDiff, Nat.reduceEqDiff, Nat.reduceSub, Int32.reduceAdd, Int32.reduceSub, Int32.reduceMul, Int32.reduceToNatClampNeg, Int64.reduceAdd, Int64.reduceSub, Int64.reduceMul, Int64.reduceLT, Int32.reduceLT, Int32.reduceToInt, Nat.add_zero, Nat.zero_add, Nat.le_refl, eq_self, implies_true, ne_eq, g0, s0, g1, s1, g2, s2, g3, s3, g4, s4, g5, g6, g7, g8, g9, g10, g11, g12, s12, g13, s13, g14, s14, g15, s15, g16, g17, g18, g19, g20, g21, g22, s22, ai1, aw1, ae1, as1, ai2, aw2, ae2, as2, ai3, aw3, ae3, as3, ai4, aw4, ae4, as4, ai5, aw5, ae5, as5, ai6, aw6, ae6, as6, ai7, aw7, ae7, as7, ai8, aw8, ae8, as8, ai9, aw9, ae9, as9, ai10, aw10, ae10, as10, ai11, aw11, ae11, as11, ai12, aw12, ae12, as12, ai13, aw13, ae13, as13, ini0, bg, h1, h2, hb, ec]
  · have ec : cl 2 4 a = 4 := by simp +decide only [cl, h1, h2, ↓reduceIte]
    by_cases hb : b < 1
    all_goals
      simp +decide only [w1_0, w1_1, w1_4, w1_5, w1_7, w1_9, w1_12, w1_13, w1_15, w1_17, w1_20, w1_21, w1_23, w1_25, w1_28, w1_29, w1_31, w1_33, w1_36, w1_37, w1_39, w1_41, w1_44, w1_45, w1_47, w1_49, w1_52, w1_53, w1_55, w1_57, w1_60, w1_61, w1_63, w1_65, w1_68, w1_69, w1_71, w1_73, w1_76, w1_77, w1_79, w1_81, w1_84, w1_85, w1_87, w1_89, w1_92, w1_93, w1_95, w1_97, w1_100, w1_101, w1_103, w1_105, w1_108, w1_109, w1_110, w1_111, w1_112, w1_115, w1_116i, w1_117, w1_118, w1_119, w1_122, w1_123i, w1_124, w1_125, w1_126, w1_129, w1_130, w1_131, w1_132, w1_135, w1_138, w1_139, w1_142, w1_143, w1_146, w1_147, w1_148, w1_151, w1_152, w1_153, w1_156, w1_157, w1_158, w1_161, w1_162, w1_163, w1_166, w1_167, w1_168, w1_171, w1_172, w1_173, w1_176, zr_z0, zr_uI, zr_uJ, isO_put, isOw_put, put_fst, okv_int, okv_long, okv_ref, okv_bool, okv_byte, cat1_unset, cat1_int, cat1_ref, cs_nil, cs_int, cs_ref, cs_long, cmpL_lt, cmpL_gt, cmpL_eq, sI_uI, sI_uJ, sI_uA, sI_uB, sJ_uI, sJ_uJ, sJ_uA, sJ_uB, sA_uI, sA_uJ, sA_uA, sA_uB, sB_uI, sB_uJ, sB_uA, sB_uB, sI_fA, sJ_fA, sA_fA, sB_fA, sI_z0, sJ_z0, sA_z0, sB_z0, Option.toList_some, Option.toList_none, List.cons_append, List.nil_append, true_and, and_true, false_and, and_false, or_false, false_or, or_true, true_or, not_true_eq_false, not_false_eq_true, ↓reduceIte, Nat.reduceAdd, Nat.reduceLeDiff, Nat.reduceEqDiff, Nat.reduceSub, Int32.reduceAdd, Int32.reduceSub, Int32.reduceMul, Int32.reduceToNatClampNeg, Int64.reduceAdd, Int64.reduceSub, Int64.reduceMul, Int64.reduceLT, Int32.reduceLT, Int32.reduceToInt, Nat.add_zero, Nat.zero_add, Nat.le_refl, eq_self, implies_true, ne_eq, g0, s0, g1, s1, g2, s2, g3, s3, g4, s4, g5, g6, g7, g8, g9, g10, g11, g12, s12, g13, s13, g14, s14, g15, s15, g16, g17, g18, g19, g20, g21, g22, s22, ai1, aw1, ae1, as1, ai2, aw2, ae2, as2, ai3, aw3, ae3, as3, ai4, aw4, ae4, as4, ai5, aw5, ae5, as5, ai6, aw6, ae6, as6, ai7, aw7, ae7, as7, ai8, aw8, ae8, as8, ai9, aw9, ae9, as9, ai10, aw10, ae10, as10, ai11, aw11, ae11, as11, ai12, aw12, ae12, as12, ai13, aw13, ae13, as13, mk1, io1, mk2, io2, mk3, io3, mk4, io4, mk5, io5, mk6, io6, mk7, io7, mk8, io8, mk9, io9, mk10, io10, mk11, io11, mk12, io12, mk13, io13, c2, w2_0, w2_1, w2_2, w2_5, w2_6, w2_9, w2_10, h1, h2, hb, ec]
      rw [t3_4 (by simp +decide only [zr_z0, zr_uI, zr_uJ, isO_put, isOw_put, put_fst, okv_int, okv_long, okv_ref, okv_bool, okv_byte, cat1_unset, cat1_int, cat1_ref, cs_nil, cs_int, cs_ref, cs_long, cmpL_lt, cmpL_gt, cmpL_eq, sI_uI, sI_uJ, sI_uA, sI_uB, sJ_uI, sJ_uJ, sJ_uA, sJ_uB, sA_uI, sA_uJ, sA_uA, sA_uB, sB_uI, sB_uJ, sB_uA, sB_uB, sI_fA, sJ_fA, sA_fA, sB_fA, sI_z0, sJ_z0, sA_z0, sB_z0, Option.toList_some, Option.toList_none, List.cons_append, List.nil_append, true_and, and_true, false_and, and_false, or_false, false_or, or_true, true_or, not_true_eq_false, not_false_eq_true, ↓reduceIte, Nat.reduceAdd, Nat.reduceLeDiff, Nat.reduceEqDiff, Nat.reduceSub, Int32.reduceAdd, Int32.reduceSub, Int32.reduceMul, Int32.reduceToNatClampNeg, Int64.reduceAdd, Int64.reduceSub, Int64.reduceMul, Int64.reduceLT, Int32.reduceLT, Int32.reduceToInt, Nat.add_zero, Nat.zero_add, Nat.le_refl, eq_self, implies_true, ne_eq])]
      simp +decide only [w1_0, w1_1, w1_4, w1_5, w1_7, w1_9, w1_12, w1_13, w1_15, w1_17, w1_20, w1_21, w1_23, w1_25, w1_28, w1_29, w1_31, w1_33, w1_36, w1_37, w1_39, w1_41, w1_44, w1_45, w1_47, w1_49, w1_52, w1_53, w1_55, w1_57, w1_60, w1_61, w1_63, w1_65, w1_68, w1_69, w1_71, w1_73, w1_76, w1_77, w1_79, w1_81, w1_84, w1_85, w1_87, w1_89, w1_92, w1_93, w1_95, w1_97, w1_100, w1_101, w1_103, w1_105, w1_108, w1_109, w1_110, w1_111, w1_112, w1_115, w1_116i, w1_117, w1_118, w1_119, w1_122, w1_123i, w1_124, w1_125, w1_126, w1_129, w1_130, w1_131, w1_132, w1_135, w1_138, w1_139, w1_142, w1_143, w1_146, w1_147, w1_148, w1_151, w1_152, w1_153, w1_156, w1_157, w1_158, w1_161, w1_162, w1_163, w1_166, w1_167, w1_168, w1_171, w1_172, w1_173, w1_176, zr_z0, zr_uI, zr_uJ, isO_put, isOw_put, put_fst, okv_int, okv_long, okv_ref, okv_bool, okv_byte, cat1_unset, cat1_int, cat1_ref, cs_nil, cs_int, cs_ref, cs_long, cmpL_lt, cmpL_gt, cmpL_eq, sI_uI, sI_uJ, sI_uA, sI_uB, sJ_uI, sJ_uJ, sJ_uA, sJ_uB, sA_uI, sA_uJ, sA_uA, sA_uB, sB_uI, sB_uJ, sB_uA, sB_uB, sI_fA, sJ_fA, sA_fA, sB_fA, sI_z0, sJ_z0, sA_z0, sB_z0, Option.toList_some, Option.toList_none, List.cons_append, List.nil_append, true_and, and_true, false_and, and_false, or_false, false_or, or_true, true_or, not_true_eq_false, not_false_eq_true, ↓reduceIte, Nat.reduceAdd, Nat.reduceLeDiff, Nat.reduceEqDiff, Nat.reduceSub, Int32.reduceAdd, Int32.reduceSub, Int32.reduceMul, Int32.reduceToNatClampNeg, Int64.reduceAdd, Int64.reduceSub, Int64.reduceMul, Int64.reduceLT, Int32.reduceLT, Int32.reduceToInt, Nat.add_zero, Nat.zero_add, Nat.le_refl, eq_self, implies_true, ne_eq, g0, s0, g1, s1, g2, s2, g3, s3, g4, s4, g5, g6, g7, g8, g9, g10, g11, g12, s12, g13, s13, g14, s14, g15, s15, g16, g17, g18, g19, g20, g21, g22, s22, ai1, aw1, ae1, as1, ai2, aw2, ae2, as2, ai3, aw3, ae3, as3, ai4, aw4, ae4, as4, ai5, aw5, ae5, as5, ai6, aw6, ae6, as6, ai7, aw7, ae7, as7, ai8, aw8, ae8, as8, ai9, aw9, ae9, as9, ai10, aw10, ae10, as10, ai11, aw11, ae11, as11, ai12, aw12, ae12, as12, ai13, aw13, ae13, as13, mk1, io1, mk2, io2, mk3, io3, mk4, io4, mk5, io5, mk6, io6, mk7, io7, mk8, io8, mk9, io9, mk10, io10, mk11, io11, mk12, io12, mk13, io13, c2, w2_0, w2_1, w2_2, w2_5, w2_6, w2_9, w2_10, h1, h2, hb, ec]
      rw [t4 (by simp +decide only [bg4, wr4, zr_z0, zr_uI, zr_uJ, isO_put, isOw_put, put_fst, okv_int, okv_long, okv_ref, okv_bool, okv_byte, cat1_unset, cat1_int, cat1_ref, cs_nil, cs_int, cs_ref, cs_long, cmpL_lt, cmpL_gt, cmpL_eq, sI_uI, sI_uJ, sI_uA, sI_uB, sJ_uI, sJ_uJ, sJ_uA, sJ_uB, sA_uI, sA_uJ, sA_uA, sA_uB, sB_uI, sB_uJ, sB_uA, sB_uB, sI_fA, sJ_fA, sA_fA, sB_fA, sI_z0, sJ_z0, sA_z0, sB_z0, Option.toList_some, Option.toList_none, List.cons_append, List.nil_append, true_and, and_true, false_and, and_false, or_false, false_or, or_true, true_or, not_true_eq_false, not_false_eq_true, ↓reduceIte, Nat.reduceAdd, Nat.reduceLeDiff, Nat.reduceEqDiff, Nat.reduceSub, Int32.reduceAdd, Int32.reduceSub, Int32.reduceMul, Int32.reduceToNatClampNeg, Int64.reduceAdd, Int64.reduceSub, Int64.reduceMul, Int64.reduceLT, Int32.reduceLT, Int32.reduceToInt, Nat.add_zero, Nat.zero_add, Nat.le_refl, eq_self, implies_true, ne_eq])]
      simp +decide only [w1_0, w1_1, w1_4, w1_5, w1_7, w1_9, w1_12, w1_13, w1_15, w1_17, w1_20, w1_21, w1_23, w1_25, w1_28, w1_29, w1_31, w1_33, w1_36, w1_37, w1_39, w1_41, w1_44, w1_45, w1_47, w1_49, w1_52, w1_53, w1_55, w1_57, w1_60, w1_61, w1_63, w1_65, w1_68, w1_69, w1_71, w1_73, w1_76, w1_77, w1_79, w1_81, w1_84, w1_85, w1_87, w1_89, w1_92, w1_93, w1_95, w1_97, w1_100, w1_101, w1_103, w1_105, w1_108, w1_109, w1_110, w1_111, w1_112, w1_115, w1_116i, w1_117, w1_118, w1_119, w1_122, w1_123i, w1_124, w1_125, w1_126, w1_129, w1_130, w1_131, w1_132, w1_135, w1_138, w1_139, w1_142, w1_143, w1_146, w1_147, w1_148, w1_151, w1_152, w1_153, w1_156, w1_157, w1_158, w1_161, w1_162, w1_163, w1_166, w1_167, w1_168, w1_171, w1_172, w1_173, w1_176, zr_z0, zr_uI, zr_uJ, isO_put, isOw_put, put_fst, okv_int, okv_long, okv_ref, okv_bool, okv_byte, cat1_unset, cat1_int, cat1_ref, cs_nil, cs_int, cs_ref, cs_long, cmpL_lt, cmpL_gt, cmpL_eq, sI_uI, sI_uJ, sI_uA, sI_uB, sJ_uI, sJ_uJ, sJ_uA, sJ_uB, sA_uI, sA_uJ, sA_uA, sA_uB, sB_uI, sB_uJ, sB_uA, sB_uB, sI_fA, sJ_fA, sA_fA, sB_fA, sI_z0, sJ_z0, sA_z0, sB_z0, Option.toList_some, Option.toList_none, List.cons_append, List.nil_append, true_and, and_true, false_and, and_false, or_false, false_or, or_true, true_or, not_true_eq_false, not_false_eq_true, ↓reduceIte, Nat.reduceAdd, Nat.reduceLeDiff, Nat.reduceEqDiff, Nat.reduceSub, Int32.reduceAdd, Int32.reduceSub, Int32.reduceMul, Int32.reduceToNatClampNeg, Int64.reduceAdd, Int64.reduceSub, Int64.reduceMul, Int64.reduceLT, Int32.reduceLT, Int32.reduceToInt, Nat.add_zero, Nat.zero_add, Nat.le_refl, eq_self, implies_true, ne_eq, g0, s0, g1, s1, g2, s2, g3, s3, g4, s4, g5, g6, g7, g8, g9, g10, g11, g12, s12, g13, s13, g14, s14, g15, s15, g16, g17, g18, g19, g20, g21, g22, s22, ai1, aw1, ae1, as1, ai2, aw2, ae2, as2, ai3, aw3, ae3, as3, ai4, aw4, ae4, as4, ai5, aw5, ae5, as5, ai6, aw6, ae6, as6, ai7, aw7, ae7, as7, ai8, aw8, ae8, as8, ai9, aw9, ae9, as9, ai10, aw10, ae10, as10, ai11, aw11, ae11, as11, ai12, aw12, ae12, as12, ai13, aw13, ae13, as13, ini0, bg, h1, h2, hb, ec]
  · have ec : cl 2 4 2 = 2 := by simp +decide only [cl, ↓reduceIte]
    by_cases hb : b < 1
    all_goals
      simp +decide only [w1_0, w1_1, w1_4, w1_5, w1_7, w1_9, w1_12, w1_13, w1_15, w1_17, w1_20, w1_21, w1_23, w1_25, w1_28, w1_29, w1_31, w1_33, w1_36, w1_37, w1_39, w1_41, w1_44, w1_45, w1_47, w1_49, w1_52, w1_53, w1_55, w1_57, w1_60, w1_61, w1_63, w1_65, w1_68, w1_69, w1_71, w1_73, w1_76, w1_77, w1_79, w1_81, w1_84, w1_85, w1_87, w1_89, w1_92, w1_93, w1_95, w1_97, w1_100, w1_101, w1_103, w1_105, w1_108, w1_109, w1_110, w1_111, w1_112, w1_115, w1_116i, w1_117, w1_118, w1_119, w1_122, w1_123i, w1_124, w1_125, w1_126, w1_129, w1_130, w1_131, w1_132, w1_135, w1_138, w1_139, w1_142, w1_143, w1_146, w1_147, w1_148, w1_151, w1_152, w1_153, w1_156, w1_157, w1_158, w1_161, w1_162, w1_163, w1_166, w1_167, w1_168, w1_171, w1_172, w1_173, w1_176, zr_z0, zr_uI, zr_uJ, isO_put, isOw_put, put_fst, okv_int, okv_long, okv_ref, okv_bool, okv_byte, cat1_unset, cat1_int, cat1_ref, cs_nil, cs_int, cs_ref, cs_long, cmpL_lt, cmpL_gt, cmpL_eq, sI_uI, sI_uJ, sI_uA, sI_uB, sJ_uI, sJ_uJ, sJ_uA, sJ_uB, sA_uI, sA_uJ, sA_uA, sA_uB, sB_uI, sB_uJ, sB_uA, sB_uB, sI_fA, sJ_fA, sA_fA, sB_fA, sI_z0, sJ_z0, sA_z0, sB_z0, Option.toList_some, Option.toList_none, List.cons_append, List.nil_append, true_and, and_true, false_and, and_false, or_false, false_or, or_true, true_or, not_true_eq_false, not_false_eq_true, ↓reduceIte, Nat.reduceAdd, Nat.reduceLeDiff, Nat.reduceEqDiff, Nat.reduceSub, Int32.reduceAdd, Int32.reduceSub, Int32.reduceMul, Int32.reduceToNatClampNeg, Int64.reduceAdd, Int64.reduceSub, Int64.reduceMul, Int64.reduceLT, Int32.reduceLT, Int32.reduceToInt, Nat.add_zero, Nat.zero_add, Nat.le_refl, eq_self, implies_true, ne_eq, g0, s0, g1, s1, g2, s2, g3, s3, g4, s4, g5, g6, g7, g8, g9, g10, g11, g12, s12, g13, s13, g14, s14, g15, s15, g16, g17, g18, g19, g20, g21, g22, s22, ai1, aw1, ae1, as1, ai2, aw2, ae2, as2, ai3, aw3, ae3, as3, ai4, aw4, ae4, as4, ai5, aw5, ae5, as5, ai6, aw6, ae6, as6, ai7, aw7, ae7, as7, ai8, aw8, ae8, as8, ai9, aw9, ae9, as9, ai10, aw10, ae10, as10, ai11, aw11, ae11, as11, ai12, aw12, ae12, as12, ai13, aw13, ae13, as13, mk1, io1, mk2, io2, mk3, io3, mk4, io4, mk5, io5, mk6, io6, mk7, io7, mk8, io8, mk9, io9, mk10, io10, mk11, io11, mk12, io12, mk13, io13, c2, w2_0, w2_1, w2_2, w2_5, w2_6, w2_9, w2_10, hb, ec]
      rw [t3_2 (by simp +decide only [zr_z0, zr_uI, zr_uJ, isO_put, isOw_put, put_fst, okv_int, okv_long, okv_ref, okv_bool, okv_byte, cat1_unset, cat1_int, cat1_ref, cs_nil, cs_int, cs_ref, cs_long, cmpL_lt, cmpL_gt, cmpL_eq, sI_uI, sI_uJ, sI_uA, sI_uB, sJ_uI, sJ_uJ, sJ_uA, sJ_uB, sA_uI, sA_uJ, sA_uA, sA_uB, sB_uI, sB_uJ, sB_uA, sB_uB, sI_fA, sJ_fA, sA_fA, sB_fA, sI_z0, sJ_z0, sA_z0, sB_z0, Option.toList_some, Option.toList_none, List.cons_append, List.nil_append, true_and, and_true, false_and, and_false, or_false, false_or, or_true, true_or, not_true_eq_false, not_false_eq_true, ↓reduceIte, Nat.reduceAdd, Nat.reduceLeDiff, Nat.reduceEqDiff, Nat.reduceSub, Int32.reduceAdd, Int32.reduceSub, Int32.reduceMul, Int32.reduceToNatClampNeg, Int64.reduceAdd, Int64.reduceSub, Int64.reduceMul, Int64.reduceLT, Int32.reduceLT, Int32.reduceToInt, Nat.add_zero, Nat.zero_add, Nat.le_refl, eq_self, implies_true, ne_eq])]
      simp +decide only [w1_0, w1_1, w1_4, w1_5, w1_7, w1_9, w1_12, w1_13, w1_15, w1_17, w1_20, w1_21, w1_23, w1_25, w1_28, w1_29, w1_31, w1_33, w1_36, w1_37, w1_39, w1_41, w1_44, w1_45, w1_47, w1_49, w1_52, w1_53, w1_55, w1_57, w1_60, w1_61, w1_63, w1_65, w1_68, w1_69, w1_71, w1_73, w1_76, w1_77, w1_79, w1_81, w1_84, w1_85, w1_87, w1_89, w1_92, w1_93, w1_95, w1_97, w1_100, w1_101, w1_103, w1_105, w1_108, w1_109, w1_110, w1_111, w1_112, w1_115, w1_116i, w1_117, w1_118, w1_119, w1_122, w1_123i, w1_124, w1_125, w1_126, w1_129, w1_130, w1_131, w1_132, w1_135, w1_138, w1_139, w1_142, w1_143, w1_146, w1_147, w1_148, w1_151, w1_152, w1_153, w1_156, w1_157, w1_158, w1_161, w1_162, w1_163, w1_166, w1_167, w1_168, w1_171, w1_172, w1_173, w1_176, zr_z0, zr_uI, zr_uJ, isO_put, isOw_put, put_fst, okv_int, okv_long, okv_ref, okv_bool, okv_byte, cat1_unset, cat1_int, cat1_ref, cs_nil, cs_int, cs_ref, cs_long, cmpL_lt, cmpL_gt, cmpL_eq, sI_uI, sI_uJ, sI_uA, sI_uB, sJ_uI, sJ_uJ, sJ_uA, sJ_uB, sA_uI, sA_uJ, sA_uA, sA_uB, sB_uI, sB_uJ, sB_uA, sB_uB, sI_fA, sJ_fA, sA_fA, sB_fA, sI_z0, sJ_z0, sA_z0, sB_z0, Option.toList_some, Option.toList_none, List.cons_append, List.nil_append, true_and, and_true, false_and, and_false, or_false, false_or, or_true, true_or, not_true_eq_false, not_false_eq_true, ↓reduceIte, Nat.reduceAdd, Nat.reduceLeDiff, Nat.reduceEqDiff, Nat.reduceSub, Int32.reduceAdd, Int32.reduceSub, Int32.reduceMul, Int32.reduceToNatClampNeg, Int64.reduceAdd, Int64.reduceSub, Int64.reduceMul, Int64.reduceLT, Int32.reduceLT, Int32.reduceToInt, Nat.add_zero, Nat.zero_add, Nat.le_refl, eq_self, implies_true, ne_eq, g0, s0, g1, s1, g2, s2, g3, s3, g4, s4, g5, g6, g7, g8, g9, g10, g11, g12, s12, g13, s13, g14, s14, g15, s15, g16, g17, g18, g19, g20, g21, g22, s22, ai1, aw1, ae1, as1, ai2, aw2, ae2, as2, ai3, aw3, ae3, as3, ai4, aw4, ae4, as4, ai5, aw5, ae5, as5, ai6, aw6, ae6, as6, ai7, aw7, ae7, as7, ai8, aw8, ae8, as8, ai9, aw9, ae9, as9, ai10, aw10, ae10, as10, ai11, aw11, ae11, as11, ai12, aw12, ae12, as12, ai13, aw13, ae13, as13, mk1, io1, mk2, io2, mk3, io3, mk4, io4, mk5, io5, mk6, io6, mk7, io7, mk8, io8, mk9, io9, mk10, io10, mk11, io11, mk12, io12, mk13, io13, c2, w2_0, w2_1, w2_2, w2_5, w2_6, w2_9, w2_10, hb, ec]
      rw [t4 (by simp +decide only [bg2, wr4, zr_z0, zr_uI, zr_uJ, isO_put, isOw_put, put_fst, okv_int, okv_long, okv_ref, okv_bool, okv_byte, cat1_unset, cat1_int, cat1_ref, cs_nil, cs_int, cs_ref, cs_long, cmpL_lt, cmpL_gt, cmpL_eq, sI_uI, sI_uJ, sI_uA, sI_uB, sJ_uI, sJ_uJ, sJ_uA, sJ_uB, sA_uI, sA_uJ, sA_uA, sA_uB, sB_uI, sB_uJ, sB_uA, sB_uB, sI_fA, sJ_fA, sA_fA, sB_fA, sI_z0, sJ_z0, sA_z0, sB_z0, Option.toList_some, Option.toList_none, List.cons_append, List.nil_append, true_and, and_true, false_and, and_false, or_false, false_or, or_true, true_or, not_true_eq_false, not_false_eq_true, ↓reduceIte, Nat.reduceAdd, Nat.reduceLeDiff, Nat.reduceEqDiff, Nat.reduceSub, Int32.reduceAdd, Int32.reduceSub, Int32.reduceMul, Int32.reduceToNatClampNeg, Int64.reduceAdd, Int64.reduceSub, Int64.reduceMul, Int64.reduceLT, Int32.reduceLT, Int32.reduceToInt, Nat.add_zero, Nat.zero_add, Nat.le_refl, eq_self, implies_true, ne_eq])]
      simp +decide only [w1_0, w1_1, w1_4, w1_5, w1_7, w1_9, w1_12, w1_13, w1_15, w1_17, w1_20, w1_21, w1_23, w1_25, w1_28, w1_29, w1_31, w1_33, w1_36, w1_37, w1_39, w1_41, w1_44, w1_45, w1_47, w1_49, w1_52, w1_53, w1_55, w1_57, w1_60, w1_61, w1_63, w1_65, w1_68, w1_69, w1_71, w1_73, w1_76, w1_77, w1_79, w1_81, w1_84, w1_85, w1_87, w1_89, w1_92, w1_93, w1_95, w1_97, w1_100, w1_101, w1_103, w1_105, w1_108, w1_109, w1_110, w1_111, w1_112, w1_115, w1_116i, w1_117, w1_118, w1_119, w1_122, w1_123i, w1_124, w1_125, w1_126, w1_129, w1_130, w1_131, w1_132, w1_135, w1_138, w1_139, w1_142, w1_143, w1_146, w1_147, w1_148, w1_151, w1_152, w1_153, w1_156, w1_157, w1_158, w1_161, w1_162, w1_163, w1_166, w1_167, w1_168, w1_171, w1_172, w1_173, w1_176, zr_z0, zr_uI, zr_uJ, isO_put, isOw_put, put_fst, okv_int, okv_long, okv_ref, okv_bool, okv_byte, cat1_unset, cat1_int, cat1_ref, cs_nil, cs_int, cs_ref, cs_long, cmpL_lt, cmpL_gt, cmpL_eq, sI_uI, sI_uJ, sI_uA, sI_uB, sJ_uI, sJ_uJ, sJ_uA, sJ_uB, sA_uI, sA_uJ, sA_uA, sA_uB, sB_uI, sB_uJ, sB_uA, sB_uB, sI_fA, sJ_fA, sA_fA, sB_fA, sI_z0, sJ_z0, sA_z0, sB_z0, Option.toList_some, Option.toList_none, List.cons_append, List.nil_append, true_and, and_true, false_and, and_false, or_false, false_or, or_true, true_or, not_true_eq_false, not_false_eq_true, ↓reduceIte, Nat.reduceAdd, Nat.reduceLeDiff, Nat.reduceEqDiff, Nat.reduceSub, Int32.reduceAdd, Int32.reduceSub, Int32.reduceMul, Int32.reduceToNatClampNeg, Int64.reduceAdd, Int64.reduceSub, Int64.reduceMul, Int64.reduceLT, Int32.reduceLT, Int32.reduceToInt, Nat.add_zero, Nat.zero_add, Nat.le_refl, eq_self, implies_true, ne_eq, g0, s0, g1, s1, g2, s2, g3, s3, g4, s4, g5, g6, g7, g8, g9, g10, g11, g12, s12, g13, s13, g14, s14, g15, s15, g16, g17, g18, g19, g20, g21, g22, s22, ai1, aw1, ae1, as1, ai2, aw2, ae2, as2, ai3, aw3, ae3, as3, ai4, aw4, ae4, as4, ai5, aw5, ae5, as5, ai6, aw6, ae6, as6, ai7, aw7, ae7, as7, ai8, aw8, ae8, as8, ai9, aw9, ae9, as9, ai10, aw10, ae10, as10, ai11, aw11, ae11, as11, ai12, aw12, ae12, as12, ai13, aw13, ae13, as13, ini0, bg, hb, ec]
  · have ec : cl 2 4 3 = 3 := by simp +decide only [cl, ↓reduceIte]
    by_cases hb : b < 1
    all_goals
      simp +decide only [w1_0, w1_1, w1_4, w1_5, w1_7, w1_9, w1_12, w1_13, w1_15, w1_17, w1_20, w1_21, w1_23, w1_25, w1_28, w1_29, w1_31, w1_33, w1_36, w1_37, w1_39, w1_41, w1_44, w1_45, w1_47, w1_49, w1_52, w1_53, w1_55, w1_57, w1_60, w1_61, w1_63, w1_65, w1_68, w1_69, w1_71, w1_73, w1_76, w1_77, w1_79, w1_81, w1_84, w1_85, w1_87, w1_89, w1_92, w1_93, w1_95, w1_97, w1_100, w1_101, w1_103, w1_105, w1_108, w1_109, w1_110, w1_111, w1_112, w1_115, w1_116i, w1_117, w1_118, w1_119, w1_122, w1_123i, w1_124, w1_125, w1_126, w1_129, w1_130, w1_131, w1_132, w1_135, w1_138, w1_139, w1_142, w1_143, w1_146, w1_147, w1_148, w1_151, w1_152, w1_153, w1_156, w1_157, w1_158, w1_161, w1_162, w1_163, w1_166, w1_167, w1_168, w1_171, w1_172, w1_173, w1_176, zr_z0, zr_uI, zr_uJ, isO_put, isOw_put, put_fst, okv_int, okv_long, okv_ref, okv_bool, okv_byte, cat1_unset, cat1_int, cat1_ref, cs_nil, cs_int, cs_ref, cs_long, cmpL_lt, cmpL_gt, cmpL_eq, sI_uI, sI_uJ, sI_uA, sI_uB, sJ_uI, sJ_uJ, sJ_uA, sJ_uB, sA_uI, sA_uJ, sA_uA, sA_uB, sB_uI, sB_uJ, sB_uA, sB_uB, sI_fA, sJ_fA, sA_fA, sB_fA, sI_z0, sJ_z0, sA_z0, sB_z0, Option.toList_some, Option.toList_none, List.cons_append, List.nil_append, true_and, and_true, false_and, and_false, or_false, false_or, or_true, true_or, not_true_eq_false, not_false_eq_true, ↓reduceIte, Nat.reduceAdd, Nat.reduceLeDiff, Nat.reduceEqDiff, Nat.reduceSub, Int32.reduceAdd, Int32.reduceSub, Int32.reduceMul, Int32.reduceToNatClampNeg, Int64.reduceAdd, Int64.reduceSub, Int64.reduceMul, Int64.reduceLT, Int32.reduceLT, Int32.reduceToInt, Nat.add_zero, Nat.zero_add, Nat.le_refl, eq_self, implies_true, ne_eq, g0, s0, g1, s1, g2, s2, g3, s3, g4, s4, g5, g6, g7, g8, g9, g10, g11, g12, s12, g13, s13, g14, s14, g15, s15, g16, g17, g18, g19, g20, g21, g22, s22, ai1, aw1, ae1, as1, ai2, aw2, ae2, as2, ai3, aw3, ae3, as3, ai4, aw4, ae4, as4, ai5, aw5, ae5, as5, ai6, aw6, ae6, as6, ai7, aw7, ae7, as7, ai8, aw8, ae8, as8, ai9, aw9, ae9, as9, ai10, aw10, ae10, as10, ai11, aw11, ae11, as11, ai12, aw12, ae12, as12, ai13, aw13, ae13, as13, mk1, io1, mk2, io2, mk3, io3, mk4, io4, mk5, io5, mk6, io6, mk7, io7, mk8, io8, mk9, io9, mk10, io10, mk11, io11, mk12, io12, mk13, io13, c2, w2_0, w2_1, w2_2, w2_5, w2_6, w2_9, w2_10, hb, ec]
      rw [t3_3 (by simp +decide only [zr_z0, zr_uI, zr_uJ, isO_put, isOw_put, put_fst, okv_int, okv_long, okv_ref, okv_bool, okv_byte, cat1_unset, cat1_int, cat1_ref, cs_nil, cs_int, cs_ref, cs_long, cmpL_lt, cmpL_gt, cmpL_eq, sI_uI, sI_uJ, sI_uA, sI_uB, sJ_uI, sJ_uJ, sJ_uA, sJ_uB, sA_uI, sA_uJ, sA_uA, sA_uB, sB_uI, sB_uJ, sB_uA, sB_uB, sI_fA, sJ_fA, sA_fA, sB_fA, sI_z0, sJ_z0, sA_z0, sB_z0, Option.toList_some, Option.toList_none, List.cons_append, List.nil_append, true_and, and_true, false_and, and_false, or_false, false_or, or_true, true_or, not_true_eq_false, not_false_eq_true, ↓reduceIte, Nat.reduceAdd, Nat.reduceLeDiff, Nat.reduceEqDiff, Nat.reduceSub, Int32.reduceAdd, Int32.reduceSub, Int32.reduceMul, Int32.reduceToNatClampNeg, Int64.reduceAdd, Int64.reduceSub, Int64.reduceMul, Int64.reduceLT, Int32.reduceLT, Int32.reduceToInt, Nat.add_zero, Nat.zero_add, Nat.le_refl, eq_self, implies_true, ne_eq])]
      simp +decide only [w1_0, w1_1, w1_4, w1_5, w1_7, w1_9, w1_12, w1_13, w1_15, w1_17, w1_20, w1_21, w1_23, w1_25, w1_28, w1_29, w1_31, w1_33, w1_36, w1_37, w1_39, w1_41, w1_44, w1_45, w1_47, w1_49, w1_52, w1_53, w1_55, w1_57, w1_60, w1_61, w1_63, w1_65, w1_68, w1_69, w1_71, w1_73, w1_76, w1_77, w1_79, w1_81, w1_84, w1_85, w1_87, w1_89, w1_92, w1_93, w1_95, w1_97, w1_100, w1_101, w1_103, w1_105, w1_108, w1_109, w1_110, w1_111, w1_112, w1_115, w1_116i, w1_117, w1_118, w1_119, w1_122, w1_123i, w1_124, w1_125, w1_126, w1_129, w1_130, w1_131, w1_132, w1_135, w1_138, w1_139, w1_142, w1_143, w1_146, w1_147, w1_148, w1_151, w1_152, w1_153, w1_156, w1_157, w1_158, w1_161, w1_162, w1_163, w1_166, w1_167, w1_168, w1_171, w1_172, w1_173, w1_176, zr_z0, zr_uI, zr_uJ, isO_put, isOw_put, put_fst, okv_int, okv_long, okv_ref, okv_bool, okv_byte, cat1_unset, cat1_int, cat1_ref, cs_nil, cs_int, cs_ref, cs_long, cmpL_lt, cmpL_gt, cmpL_eq, sI_uI, sI_uJ, sI_uA, sI_uB, sJ_uI, sJ_uJ, sJ_uA, sJ_uB, sA_uI, sA_uJ, sA_uA, sA_uB, sB_uI, sB_uJ, sB_uA, sB_uB, sI_fA, sJ_fA, sA_fA, sB_fA, sI_z0, sJ_z0, sA_z0, sB_z0, Option.toList_some, Option.toList_none, List.cons_append, List.nil_append, true_and, and_true, false_and, and_false, or_false, false_or, or_true, true_or, not_true_eq_false, not_false_eq_true, ↓reduceIte, Nat.reduceAdd, Nat.reduceLeDiff, Nat.reduceEqDiff, Nat.reduceSub, Int32.reduceAdd, Int32.reduceSub, Int32.reduceMul, Int32.reduceToNatClampNeg, Int64.reduceAdd, Int64.reduceSub, Int64.reduceMul, Int64.reduceLT, Int32.reduceLT, Int32.reduceToInt, Nat.add_zero, Nat.zero_add, Nat.le_refl, eq_self, implies_true, ne_eq, g0, s0, g1, s1, g2, s2, g3, s3, g4, s4, g5, g6, g7, g8, g9, g10, g11, g12, s12, g13, s13, g14, s14, g15, s15, g16, g17, g18, g19, g20, g21, g22, s22, ai1, aw1, ae1, as1, ai2, aw2, ae2, as2, ai3, aw3, ae3, as3, ai4, aw4, ae4, as4, ai5, aw5, ae5, as5, ai6, aw6, ae6, as6, ai7, aw7, ae7, as7, ai8, aw8, ae8, as8, ai9, aw9, ae9, as9, ai10, aw10, ae10, as10, ai11, aw11, ae11, as11, ai12, aw12, ae12, as12, ai13, aw13, ae13, as13, mk1, io1, mk2, io2, mk3, io3, mk4, io4, mk5, io5, mk6, io6, mk7, io7, mk8, io8, mk9, io9, mk10, io10, mk11, io11, mk12, io12, mk13, io13, c2, w2_0, w2_1, w2_2, w2_5, w2_6, w2_9, w2_10, hb, ec]
      rw [t4 (by simp +decide only [bg3, wr4, zr_z0, zr_uI, zr_uJ, isO_put, isOw_put, put_fst, okv_int, okv_long, okv_ref, okv_bool, okv_byte, cat1_unset, cat1_int, cat1_ref, cs_nil, cs_int, cs_ref, cs_long, cmpL_lt, cmpL_gt, cmpL_eq, sI_uI, sI_uJ, sI_uA, sI_uB, sJ_uI, sJ_uJ, sJ_uA, sJ_uB, sA_uI, sA_uJ, sA_uA, sA_uB, sB_uI, sB_uJ, sB_uA, sB_uB, sI_fA, sJ_fA, sA_fA, sB_fA, sI_z0, sJ_z0, sA_z0, sB_z0, Option.toList_some, Option.toList_none, List.cons_append, List.nil_append, true_and, and_true, false_and, and_false, or_false, false_or, or_true, true_or, not_true_eq_false, not_false_eq_true, ↓reduceIte, Nat.reduceAdd, Nat.reduceLeDiff, Nat.reduceEqDiff, Nat.reduceSub, Int32.reduceAdd, Int32.reduceSub, Int32.reduceMul, Int32.reduceToNatClampNeg, Int64.reduceAdd, Int64.reduceSub, Int64.reduceMul, Int64.reduceLT, Int32.reduceLT, Int32.reduceToInt, Nat.add_zero, Nat.zero_add, Nat.le_refl, eq_self, implies_true, ne_eq])]
      simp +decide only [w1_0, w1_1, w1_4, w1_5, w1_7, w1_9, w1_12, w1_13, w1_15, w1_17, w1_20, w1_21, w1_23, w1_25, w1_28, w1_29, w1_31, w1_33, w1_36, w1_37, w1_39, w1_41, w1_44, w1_45, w1_47, w1_49, w1_52, w1_53, w1_55, w1_57, w1_60, w1_61, w1_63, w1_65, w1_68, w1_69, w1_71, w1_73, w1_76, w1_77, w1_79, w1_81, w1_84, w1_85, w1_87, w1_89, w1_92, w1_93, w1_95, w1_97, w1_100, w1_101, w1_103, w1_105, w1_108, w1_109, w1_110, w1_111, w1_112, w1_115, w1_116i, w1_117, w1_118, w1_119, w1_122, w1_123i, w1_124, w1_125, w1_126, w1_129, w1_130, w1_131, w1_132, w1_135, w1_138, w1_139, w1_142, w1_143, w1_146, w1_147, w1_148, w1_151, w1_152, w1_153, w1_156, w1_157, w1_158, w1_161, w1_162, w1_163, w1_166, w1_167, w1_168, w1_171, w1_172, w1_173, w1_176, zr_z0, zr_uI, zr_uJ, isO_put, isOw_put, put_fst, okv_int, okv_long, okv_ref, okv_bool, okv_byte, cat1_unset, cat1_int, cat1_ref, cs_nil, cs_int, cs_ref, cs_long, cmpL_lt, cmpL_gt, cmpL_eq, sI_uI, sI_uJ, sI_uA, sI_uB, sJ_uI, sJ_uJ, sJ_uA, sJ_uB, sA_uI, sA_uJ, sA_uA, sA_uB, sB_uI, sB_uJ, sB_uA, sB_uB, sI_fA, sJ_fA, sA_fA, sB_fA, sI_z0, sJ_z0, sA_z0, sB_z0, Option.toList_some, Option.toList_none, List.cons_append, List.nil_append, true_and, and_true, false_and, and_false, or_false, false_or, or_true, true_or, not_true_eq_false, not_false_eq_true, ↓reduceIte, Nat.reduceAdd, Nat.reduceLeDiff, Nat.reduceEqDiff, Nat.reduceSub, Int32.reduceAdd, Int32.reduceSub, Int32.reduceMul, Int32.reduceToNatClampNeg, Int64.reduceAdd, Int64.reduceSub, Int64.reduceMul, Int64.reduceLT, Int32.reduceLT, Int32.reduceToInt, Nat.add_zero, Nat.zero_add, Nat.le_refl, eq_self, implies_true, ne_eq, g0, s0, g1, s1, g2, s2, g3, s3, g4, s4, g5, g6, g7, g8, g9, g10, g11, g12, s12, g13, s13, g14, s14, g15, s15, g16, g17, g18, g19, g20, g21, g22, s22, ai1, aw1, ae1, as1, ai2, aw2, ae2, as2, ai3, aw3, ae3, as3, ai4, aw4, ae4, as4, ai5, aw5, ae5, as5, ai6, aw6, ae6, as6, ai7, aw7, ae7, as7, ai8, aw8, ae8, as8, ai9, aw9, ae9, as9, ai10, aw10, ae10, as10, ai11, aw11, ae11, as11, ai12, aw12, ae12, as12, ai13, aw13, ae13, as13, ini0, bg, hb, ec]
  · have ec : cl 2 4 4 = 4 := by simp +decide only [cl, ↓reduceIte]
    by_cases hb : b < 1
    all_goals
      simp +decide only [w1_0, w1_1, w1_4, w1_5, w1_7, w1_9, w1_12, w1_13, w1_15, w1_17, w1_20, w1_21, w1_23, w1_25, w1_28, w1_29, w1_31, w1_33, w1_36, w1_37, w1_39, w1_41, w1_44, w1_45, w1_47, w1_49, w1_52, w1_53, w1_55, w1_57, w1_60, w1_61, w1_63, w1_65, w1_68, w1_69, w1_71, w1_73, w1_76, w1_77, w1_79, w1_81, w1_84, w1_85, w1_87, w1_89, w1_92, w1_93, w1_95, w1_97, w1_100, w1_101, w1_103, w1_105, w1_108, w1_109, w1_110, w1_111, w1_112, w1_115, w1_116i, w1_117, w1_118, w1_119, w1_122, w1_123i, w1_124, w1_125, w1_126, w1_129, w1_130, w1_131, w1_132, w1_135, w1_138, w1_139, w1_142, w1_143, w1_146, w1_147, w1_148, w1_151, w1_152, w1_153, w1_156, w1_157, w1_158, w1_161, w1_162, w1_163, w1_166, w1_167, w1_168, w1_171, w1_172, w1_173, w1_176, zr_z0, zr_uI, zr_uJ, isO_put, isOw_put, put_fst, okv_int, okv_long, okv_ref, okv_bool, okv_byte, cat1_unset, cat1_int, cat1_ref, cs_nil, cs_int, cs_ref, cs_long, cmpL_lt, cmpL_gt, cmpL_eq, sI_uI, sI_uJ, sI_uA, sI_uB, sJ_uI, sJ_uJ, sJ_uA, sJ_uB, sA_uI, sA_uJ, sA_uA, sA_uB, sB_uI, sB_uJ, sB_uA, sB_uB, sI_fA, sJ_fA, sA_fA, sB_fA, sI_z0, sJ_z0, sA_z0, sB_z0, Option.toList_some, Option.toList_none, List.cons_append, List.nil_append, true_and, and_true, false_and, and_false, or_false, false_or, or_true, true_or, not_true_eq_false, not_false_eq_true, ↓reduceIte, Nat.reduceAdd, Nat.reduceLeDiff, Nat.reduceEqDiff, Nat.reduceSub, Int32.reduceAdd, Int32.reduceSub, Int32.reduceMul, Int32.reduceToNatClampNeg, Int64.reduceAdd, Int64.reduceSub, Int64.reduceMul, Int64.reduceLT, Int32.reduceLT, Int32.reduceToInt, Nat.add_zero, Nat.zero_add, Nat.le_refl, eq_self, implies_true, ne_eq, g0, s0, g1, s1, g2, s2, g3, s3, g4, s4, g5, g6, g7, g8, g9, g10, g11, g12, s12, g13, s13, g14, s14, g15, s15, g16, g17, g18, g19, g20, g21, g22, s22, ai1, aw1, ae1, as1, ai2, aw2, ae2, as2, ai3, aw3, ae3, as3, ai4, aw4, ae4, as4, ai5, aw5, ae5, as5, ai6, aw6, ae6, as6, ai7, aw7, ae7, as7, ai8, aw8, ae8, as8, ai9, aw9, ae9, as9, ai10, aw10, ae10, as10, ai11, aw11, ae11, as11, ai12, aw12, ae12, as12, ai13, aw13, ae13, as13, mk1, io1, mk2, io2, mk3, io3, mk4, io4, mk5, io5, mk6, io6, mk7, io7, mk8, io8, mk9, io9, mk10, io10, mk11, io11, mk12, io12, mk13, io13, c2, w2_0, w2_1, w2_2, w2_5, w2_6, w2_9, w2_10, hb, ec]
      rw [t3_4 (by simp +decide only [zr_z0, zr_uI, zr_uJ, isO_put, isOw_put, put_fst, okv_int, okv_long, okv_ref, okv_bool, okv_byte, cat1_unset, cat1_int, cat1_ref, cs_nil, cs_int, cs_ref, cs_long, cmpL_lt, cmpL_gt, cmpL_eq, sI_uI, sI_uJ, sI_uA, sI_uB, sJ_uI, sJ_uJ, sJ_uA, sJ_uB, sA_uI, sA_uJ, sA_uA, sA_uB, sB_uI, sB_uJ, sB_uA, sB_uB, sI_fA, sJ_fA, sA_fA, sB_fA, sI_z0, sJ_z0, sA_z0, sB_z0, Option.toList_some, Option.toList_none, List.cons_append, List.nil_append, true_and, and_true, false_and, and_false, or_false, false_or, or_true, true_or, not_true_eq_false, not_false_eq_true, ↓reduceIte, Nat.reduceAdd, Nat.reduceLeDiff, Nat.reduceEqDiff, Nat.reduceSub, Int32.reduceAdd, Int32.reduceSub, Int32.reduceMul, Int32.reduceToNatClampNeg, Int64.reduceAdd, Int64.reduceSub, Int64.reduceMul, Int64.reduceLT, Int32.reduceLT, Int32.reduceToInt, Nat.add_zero, Nat.zero_add, Nat.le_refl, eq_self, implies_true, ne_eq])]
      simp +decide only [w1_0, w1_1, w1_4, w1_5, w1_7, w1_9, w1_12, w1_13, w1_15, w1_17, w1_20, w1_21, w1_23, w1_25, w1_28, w1_29, w1_31, w1_33, w1_36, w1_37, w1_39, w1_41, w1_44, w1_45, w1_47, w1_49, w1_52, w1_53, w1_55, w1_57, w1_60, w1_61, w1_63, w1_65, w1_68, w1_69, w1_71, w1_73, w1_76, w1_77, w1_79, w1_81, w1_84, w1_85, w1_87, w1_89, w1_92, w1_93, w1_95, w1_97, w1_100, w1_101, w1_103, w1_105, w1_108, w1_109, w1_110, w1_111, w1_112, w1_115, w1_116i, w1_117, w1_118, w1_119, w1_122, w1_123i, w1_124, w1_125, w1_126, w1_129, w1_130, w1_131, w1_132, w1_135, w1_138, w1_139, w1_142, w1_143, w1_146, w1_147, w1_148, w1_151, w1_152, w1_153, w1_156, w1_157, w1_158, w1_161, w1_162, w1_163, w1_166, w1_167, w1_168, w1_171, w1_172, w1_173, w1_176, zr_z0, zr_uI, zr_uJ, isO_put, isOw_put, put_fst, okv_int, okv_long, okv_ref, okv_bool, okv_byte, cat1_unset, cat1_int, cat1_ref, cs_nil, cs_int, cs_ref, cs_long, cmpL_lt, cmpL_gt, cmpL_eq, sI_uI, sI_uJ, sI_uA, sI_uB, sJ_uI, sJ_uJ, sJ_uA, sJ_uB, sA_uI, sA_uJ, sA_uA, sA_uB, sB_uI, sB_uJ, sB_uA, sB_uB, sI_fA, sJ_fA, sA_fA, sB_fA, sI_z0, sJ_z0, sA_z0, sB_z0, Option.toList_some, Option.toList_none, List.cons_append, List.nil_append, true_and, and_true, false_and, and_false, or_false, false_or, or_true, true_or, not_true_eq_false, not_false_eq_true, ↓reduceIte, Nat.reduceAdd, Nat.reduceLeDiff, Nat.reduceEqDiff, Nat.reduceSub, Int32.reduceAdd, Int32.reduceSub, Int32.reduceMul, Int32.reduceToNatClampNeg, Int64.reduceAdd, Int64.reduceSub, Int64.reduceMul, Int64.reduceLT, Int32.reduceLT, Int32.reduceToInt, Nat.add_zero, Nat.zero_add, Nat.le_refl, eq_self, implies_true, ne_eq, g0, s0, g1, s1, g2, s2, g3, s3, g4, s4, g5, g6, g7, g8, g9, g10, g11, g12, s12, g13, s13, g14, s14, g15, s15, g16, g17, g18, g19, g20, g21, g22, s22, ai1, aw1, ae1, as1, ai2, aw2, ae2, as2, ai3, aw3, ae3, as3, ai4, aw4, ae4, as4, ai5, aw5, ae5, as5, ai6, aw6, ae6, as6, ai7, aw7, ae7, as7, ai8, aw8, ae8, as8, ai9, aw9, ae9, as9, ai10, aw10, ae10, as10, ai11, aw11, ae11, as11, ai12, aw12, ae12, as12, ai13, aw13, ae13, as13, mk1, io1, mk2, io2, mk3, io3, mk4, io4, mk5, io5, mk6, io6, mk7, io7, mk8, io8, mk9, io9, mk10, io10, mk11, io11, mk12, io12, mk13, io13, c2, w2_0, w2_1, w2_2, w2_5, w2_6, w2_9, w2_10, hb, ec]
      rw [t4 (by simp +decide only [bg4, wr4, zr_z0, zr_uI, zr_uJ, isO_put, isOw_put, put_fst, okv_int, okv_long, okv_ref, okv_bool, okv_byte, cat1_unset, cat1_int, cat1_ref, cs_nil, cs_int, cs_ref, cs_long, cmpL_lt, cmpL_gt, cmpL_eq, sI_uI, sI_uJ, sI_uA, sI_uB, sJ_uI, sJ_uJ, sJ_uA, sJ_uB, sA_uI, sA_uJ, sA_uA, sA_uB, sB_uI, sB_uJ, sB_uA, sB_uB, sI_fA, sJ_fA, sA_fA, sB_fA, sI_z0, sJ_z0, sA_z0, sB_z0, Option.toList_some, Option.toList_none, List.cons_append, List.nil_append, true_and, and_true, false_and, and_false, or_false, false_or, or_true, true_or, not_true_eq_false, not_false_eq_true, ↓reduceIte, Nat.reduceAdd, Nat.reduceLeDiff, Nat.reduceEqDiff, Nat.reduceSub, Int32.reduceAdd, Int32.reduceSub, Int32.reduceMul, Int32.reduceToNatClampNeg, Int64.reduceAdd, Int64.reduceSub, Int64.reduceMul, Int64.reduceLT, Int32.reduceLT, Int32.reduceToInt, Nat.add_zero, Nat.zero_add, Nat.le_refl, eq_self, implies_true, ne_eq])]
      simp +decide only [w1_0, w1_1, w1_4, w1_5, w1_7, w1_9, w1_12, w1_13, w1_15, w1_17, w1_20, w1_21, w1_23, w1_25, w1_28, w1_29, w1_31, w1_33, w1_36, w1_37, w1_39, w1_41, w1_44, w1_45, w1_47, w1_49, w1_52, w1_53, w1_55, w1_57, w1_60, w1_61, w1_63, w1_65, w1_68, w1_69, w1_71, w1_73, w1_76, w1_77, w1_79, w1_81, w1_84, w1_85, w1_87, w1_89, w1_92, w1_93, w1_95, w1_97, w1_100, w1_101, w1_103, w1_105, w1_108, w1_109, w1_110, w1_111, w1_112, w1_115, w1_116i, w1_117, w1_118, w1_119, w1_122, w1_123i, w1_124, w1_125, w1_126, w1_129, w1_130, w1_131, w1_132, w1_135, w1_138, w1_139, w1_142, w1_143, w1_146, w1_147, w1_148, w1_151, w1_152, w1_153, w1_156, w1_157, w1_158, w1_161, w1_162, w1_163, w1_166, w1_167, w1_168, w1_171, w1_172, w1_173, w1_176, zr_z0, zr_uI, zr_uJ, isO_put, isOw_put, put_fst, okv_int, okv_long, okv_ref, okv_bool, okv_byte, cat1_unset, cat1_int, cat1_ref, cs_nil, cs_int, cs_ref, cs_long, cmpL_lt, cmpL_gt, cmpL_eq, sI_uI, sI_uJ, sI_uA, sI_uB, sJ_uI, sJ_uJ, sJ_uA, sJ_uB, sA_uI, sA_uJ, sA_uA, sA_uB, sB_uI, sB_uJ, sB_uA, sB_uB, sI_fA, sJ_fA, sA_fA, sB_fA, sI_z0, sJ_z0, sA_z0, sB_z0, Option.toList_some, Option.toList_none, List.cons_append, List.nil_append, true_and, and_true, false_and, and_false, or_false, false_or, or_true, true_or, not_true_eq_false, not_false_eq_true, ↓reduceIte, Nat.reduceAdd, Nat.reduceLeDiff, Nat.reduceEqDiff, Nat.reduceSub, Int32.reduceAdd, Int32.reduceSub, Int32.reduceMul, Int32.reduceToNatClampNeg, Int64.reduceAdd, Int64.reduceSub, Int64.reduceMul, Int64.reduceLT, Int32.reduceLT, Int32.reduceToInt, Nat.add_zero, Nat.zero_add, Nat.le_refl, eq_self, implies_true, ne_eq, g0, s0, g1, s1, g2, s2, g3, s3, g4, s4, g5, g6, g7, g8, g9, g10, g11, g12, s12, g13, s13, g14, s14, g15, s15, g16, g17, g18, g19, g20, g21, g22, s22, ai1, aw1, ae1, as1, ai2, aw2, ae2, as2, ai3, aw3, ae3, as3, ai4, aw4, ae4, as4, ai5, aw5, ae5, as5, ai6, aw6, ae6, as6, ai7, aw7, ae7, as7, ai8, aw8, ae8, as8, ai9, aw9, ae9, as9, ai10, aw10, ae10, as10, ai11, aw11, ae11, as11, ai12, aw12, ae12, as12, ai13, aw13, ae13, as13, ini0, bg, hb, ec]
theorem sI_bg {x : Nat} (h1 : x ≠ 1) (h2 : x ≠ 2) : sI (bg a s) x = sI s x := by
  unfold bg
  split
  · simp only [bg2, wr4, sI_uI, sI_uA, h1, h2, if_false]
  · split
    · simp only [bg3, wr4, sI_uI, sI_uA, h1, h2, if_false]
    · simp only [bg4, wr4, sI_uI, sI_uA, h1, h2, if_false]
theorem sI_bg0 : sI (bg a s) 0 = sI s 0 := sI_bg (by decide) (by decide)
end A

end Jvm.JX.Pj
namespace Jvm.JX.Lw
open Jvm Jvm.ClassFile Sem Op Lib Jvm.JX Jvm.JX.Pj
def lr0 : List Row := [(0, .new 7, 3, 23), (3, .dup, 1, 0), (4, .iload_n 0, 1, 0), (5, .iload_n 1, 1, 0), (6, .invokespecial 9, 3, 1), (9, .astore_n 3, 1, 0), (10, .iload_n 0, 1, 0), (11, .iconst 2, 1, 0), (12, .if_icmp .ge 7, 3, 0), (15, .iconst 2, 1, 0), (16, .goto 13, 3, 0), (19, .iload_n 0, 1, 0), (20, .iconst 4, 1, 0), (21, .if_icmp .le 7, 3, 0), (24, .iconst 4, 1, 0), (25, .goto 4, 3, 0), (28, .iload_n 0, 1, 0), (29, .istore 4, 2, 0), (31, .aload_n 3, 1, 0), (32, .invokevirtual 12, 3, 34), (35, .ifCond .eq 5, 3, 0), (38, .iconst 0, 1, 0), (39, .ireturn, 1, 0), (40, .aload_n 3, 1, 0), (41, .invokevirtual 16, 3, 29), (44, .ifCond .eq 5, 3, 0), (47, .iconst 0, 1, 0), (48, .ireturn, 1, 0), (49, .aload_n 3, 1, 0), (50, .invokevirtual 19, 3, 32), (53, .iconst (-1), 1, 0), (54, .if_icmp .eq 5, 3, 0), (57, .iconst 0, 1, 0), (58, .ireturn, 1, 0), (59, .aload_n 3, 1, 0), (60, .iconst 1, 1, 0), (61, .iconst 0, 1, 0), (62, .iconst 0, 1, 0), (63, .invokevirtual 22, 3, 9), (66, .iconst 1, 1, 0), (67, .if_icmp .eq 5, 3, 0), (70, .iconst 0, 1, 0), (71, .ireturn, 1, 0), (72, .aload_n 3, 1, 0), (73, .iconst 1, 1, 0), (74, .invokevirtual 26, 3, 31), (77, .iconst (-1), 1, 0), (78, .if_icmp .eq 5, 3, 0), (81, .iconst 0, 1, 0), (82, .ireturn, 1, 0), (83, .iload_n 2, 1, 0), (84, .iconst 1, 1, 0), (85, .if_icmp .lt 13, 3, 0), (88, .iload_n 2, 1, 0), (89, .iload 4, 2, 0), (91, .if_icmp .gt 7, 3, 0), (94, .iconst 0, 1, 0), (95, .goto 5, 3, 0), (98, .bipush (-6), 2, 0), (100, .istore 5, 2, 0), (102, .aload_n 3, 1, 0), (103, .iconst 1, 1, 0), (104, .iload_n 2, 1, 0), (105, .iconst 1, 1, 0), (106, .invokevirtual 30, 3, 10), (109, .iload 5, 2, 0), (111, .if_icmp .eq 5, 3, 0), (114, .iconst 0, 1, 0), (115, .ireturn, 1, 0), (116, .iconst 1, 1, 0), (117, .ireturn, 1, 0)]
def lrows : List (List Row) := [lr0]
def linfo : List MInfo := [(3, 6, 9, some .boolean, { frames := 7, cells := 40, slots := 1024, locals := 176 })]
def lw : LW := (fun j pc => (lrows.getD j []).lookup pc, fun j => linfo.getD j (0, 0, 9, none, {}))
section LPc
variable {L : List Slot} {S : List Value} {k n : Nat} {H : AH} {Q : Option Value → AH → Prop}
theorem c100 {x0 : Int32} {x1 : Int32} {x2 : Int32} : Cl (pj lw) 100 [.int x0, .int x1, .int x2] H Q ↔ W (pj lw) 100 0 [.val (.int x0), .val (.int x1), .val (.int x2), .unset, .unset, .unset] [] 0 0 H Q := cl_unf rfl
theorem w100_0 : W (pj lw) 100 0 L S k n H Q ↔ ((k + 1 ≤ 40 ∧ n + 23 ≤ 1024) ∧ W (pj lw) 100 3 L (.ref H.1 :: S) (k + 1) (n + 23) (mkO (pj lw) H) Q) := W_new' (rfl : (pj lw).1 100 0 = some (.new 7, 3, 23)) (by decide)
theorem w100_3 {x : Nat} : W (pj lw) 100 3 L (.ref x :: S) k n H Q ↔ W (pj lw) 100 4 L (.ref x :: .ref x :: S) k n H Q := W_s (rfl : (pj lw).1 100 3 = some (.dup, 1, 0)) rfl rfl rfl
theorem w100_4 {x : Int32} : W (pj lw) 100 4 (.val (.int x) :: L) S k n H Q ↔ W (pj lw) 100 5 (.val (.int x) :: L) (.int x :: S) k n H Q := W_s (rfl : (pj lw).1 100 4 = some (.iload_n 0, 1, 0)) rfl rfl rfl
theorem w100_5 {x : Int32} {l0 : Slot} : W (pj lw) 100 5 (l0 :: .val (.int x) :: L) S k n H Q ↔ W (pj lw) 100 6 (l0 :: .val (.int x) :: L) (.int x :: S) k n H Q := W_s (rfl : (pj lw).1 100 5 = some (.iload_n 1, 1, 0)) rfl rfl rfl
theorem w100_6 {a : Nat} {x0 : Int32} {x1 : Int32} : W (pj lw) 100 6 L (.int x1 :: .int x0 :: .ref a :: S) k n H Q ↔ ((isO H a = true ∧ cs S + (4 + 11) + 57 ≤ 176 ∧ k + 13 ≤ 40 ∧ n + 440 ≤ 1024) ∧ Cl (pj lw) 1 [.ref a, .int x0, .int x1] H (fun v H => W (pj lw) 100 9 L (v.toList ++ S) (k + 13) (n + 440) H Q)) := W_init (as := [.int x0, .int x1]) (rfl : (pj lw).1 100 6 = some (.invokespecial 9, 3, 1)) rfl rfl rfl (Nat.le_of_ble_eq_true rfl) (Nat.le_of_ble_eq_true rfl) (fun h => absurd (show (13 : Nat) = 0 from h.1) (by decide))
theorem w100_9 {x : Nat} {l0 l1 l2 : Slot} : W (pj lw) 100 9 (l0 :: l1 :: l2 :: .unset :: L) (.ref x :: S) k n H Q ↔ W (pj lw) 100 10 (l0 :: l1 :: l2 :: .val (.ref x) :: L) S k n H Q := W_astn (rfl : (pj lw).1 100 9 = some (.astore_n 3, 1, 0)) rfl rfl
theorem w100_10 {x : Int32} : W (pj lw) 100 10 (.val (.int x) :: L) S k n H Q ↔ W (pj lw) 100 11 (.val (.int x) :: L) (.int x :: S) k n H Q := W_s (rfl : (pj lw).1 100 10 = some (.iload_n 0, 1, 0)) rfl rfl rfl
theorem w100_11 : W (pj lw) 100 11 L S k n H Q ↔ W (pj lw) 100 12 L (.int 2 :: S) k n H Q := W_s (rfl : (pj lw).1 100 11 = some (.iconst 2, 1, 0)) rfl rfl rfl
theorem w100_12 {x y : Int32} : W (pj lw) 100 12 L (.int y :: .int x :: S) k n H Q ↔ (if x < y then W (pj lw) 100 15 L S k n H Q else W (pj lw) 100 19 L S k n H Q) := W_icmp_ge (rfl : (pj lw).1 100 12 = some (.if_icmp .ge 7, 3, 0)) rfl
theorem w100_15 : W (pj lw) 100 15 L S k n H Q ↔ W (pj lw) 100 16 L (.int 2 :: S) k n H Q := W_s (rfl : (pj lw).1 100 15 = some (.iconst 2, 1, 0)) rfl rfl rfl
theorem w100_16 : W (pj lw) 100 16 L S k n H Q ↔ W (pj lw) 100 29 L S k n H Q := W_goto (rfl : (pj lw).1 100 16 = some (.goto 13, 3, 0)) rfl
theorem w100_19 {x : Int32} : W (pj lw) 100 19 (.val (.int x) :: L) S k n H Q ↔ W (pj lw) 100 20 (.val (.int x) :: L) (.int x :: S) k n H Q := W_s (rfl : (pj lw).1 100 19 = some (.iload_n 0, 1, 0)) rfl rfl rfl
theorem w100_20 : W (pj lw) 100 20 L S k n H Q ↔ W (pj lw) 100 21 L (.int 4 :: S) k n H Q := W_s (rfl : (pj lw).1 100 20 = some (.iconst 4, 1, 0)) rfl rfl rfl
theorem w100_21 {x y : Int32} : W (pj lw) 100 21 L (.int y :: .int x :: S) k n H Q ↔ (if y < x then W (pj lw) 100 24 L S k n H Q else W (pj lw) 100 28 L S k n H Q) := W_icmp_le (rfl : (pj lw).1 100 21 = some (.if_icmp .le 7, 3, 0)) rfl
theorem w100_24 : W (pj lw) 100 24 L S k n H Q ↔ W (pj lw) 100 25 L (.int 4 :: S) k n H Q := W_s (rfl : (pj lw).1 100 24 = some (.iconst 4, 1, 0)) rfl rfl rfl
theorem w100_25 : W (pj lw) 100 25 L S k n H Q ↔ W (pj lw) 100 29 L S k n H Q := W_goto (rfl : (pj lw).1 100 25 = some (.goto 4, 3, 0)) rfl
theorem w100_28 {x : Int32} : W (pj lw) 100 28 (.val (.int x) :: L) S k n H Q ↔ W (pj lw) 100 29 (.val (.int x) :: L) (.int x :: S) k n H Q := W_s (rfl : (pj lw).1 100 28 = some (.iload_n 0, 1, 0)) rfl rfl rfl
theorem w100_29 {x : Int32} {l0 l1 l2 l3 : Slot} : W (pj lw) 100 29 (l0 :: l1 :: l2 :: l3 :: .unset :: L) (.int x :: S) k n H Q ↔ W (pj lw) 100 31 (l0 :: l1 :: l2 :: l3 :: .val (.int x) :: L) S k n H Q := W_ist (rfl : (pj lw).1 100 29 = some (.istore 4, 2, 0)) rfl rfl
theorem w100_31 {x : Nat} {l0 l1 l2 : Slot} : W (pj lw) 100 31 (l0 :: l1 :: l2 :: .val (.ref x) :: L) S k n H Q ↔ W (pj lw) 100 32 (l0 :: l1 :: l2 :: .val (.ref x) :: L) (.ref x :: S) k n H Q := W_s (rfl : (pj lw).1 100 31 = some (.aload_n 3, 1, 0)) rfl rfl rfl
theorem w100_32 {a : Nat} : W (pj lw) 100 32 L (.ref a :: S) k n H Q ↔ ((isO H a = true ∧ cs S + (1 + 11) + 0 ≤ 176) ∧ Cl (pj lw) 34 [.ref a] H (fun v H => W (pj lw) 100 35 L (v.toList ++ S) k n H Q)) := W_inst (as := []) (rfl : (pj lw).1 100 32 = some (.invokevirtual 12, 3, 34)) rfl rfl rfl (Nat.le_of_ble_eq_true rfl) (Nat.le_of_ble_eq_true rfl) ⟨rfl, rfl⟩
theorem w100_35 {x : Int32} : W (pj lw) 100 35 L (.int x :: S) k n H Q ↔ (if x = 0 then W (pj lw) 100 40 L S k n H Q else W (pj lw) 100 38 L S k n H Q) := W_if_eq (rfl : (pj lw).1 100 35 = some (.ifCond .eq 5, 3, 0)) rfl
theorem w100_38 : W (pj lw) 100 38 L S k n H Q ↔ W (pj lw) 100 39 L (.int 0 :: S) k n H Q := W_s (rfl : (pj lw).1 100 38 = some (.iconst 0, 1, 0)) rfl rfl rfl
theorem w100_39 {x : Int32} : W (pj lw) 100 39 L (.int x :: S) k n H Q ↔ ((x = 0 ∨ x = 1) ∧ Q (some (.int x)) H) := W_rz (rfl : (pj lw).1 100 39 = some (.ireturn, 1, 0)) rfl
theorem w100_40 {x : Nat} {l0 l1 l2 : Slot} : W (pj lw) 100 40 (l0 :: l1 :: l2 :: .val (.ref x) :: L) S k n H Q ↔ W (pj lw) 100 41 (l0 :: l1 :: l2 :: .val (.ref x) :: L) (.ref x :: S) k n H Q := W_s (rfl : (pj lw).1 100 40 = some (.aload_n 3, 1, 0)) rfl rfl rfl
theorem w100_41 {a : Nat} : W (pj lw) 100 41 L (.ref a :: S) k n H Q ↔ ((isO H a = true ∧ cs S + (1 + 11) + 0 ≤ 176) ∧ Cl (pj lw) 29 [.ref a] H (fun v H => W (pj lw) 100 44 L (v.toList ++ S) k n H Q)) := W_inst (as := []) (rfl : (pj lw).1 100 41 = some (.invokevirtual 16, 3, 29)) rfl rfl rfl (Nat.le_of_ble_eq_true rfl) (Nat.le_of_ble_eq_true rfl) ⟨rfl, rfl⟩
theorem w100_44 {x : Int32} : W (pj lw) 100 44 L (.int x :: S) k n H Q ↔ (if x = 0 then W (pj lw) 100 49 L S k n H Q else W (pj lw) 100 47 L S k n H Q) := W_if_eq (rfl : (pj lw).1 100 44 = some (.ifCond .eq 5, 3, 0)) rfl
theorem w100_47 : W (pj lw) 100 47 L S k n H Q ↔ W (pj lw) 100 48 L (.int 0 :: S) k n H Q := W_s (rfl : (pj lw).1 100 47 = some (.iconst 0, 1, 0)) rfl rfl rfl
theorem w100_48 {x : Int32} : W (pj lw) 100 48 L (.int x :: S) k n H Q ↔ ((x = 0 ∨ x = 1) ∧ Q (some (.int x)) H) := W_rz (rfl : (pj lw).1 100 48 = some (.ireturn, 1, 0)) rfl
theorem w100_49 {x : Nat} {l0 l1 l2 : Slot} : W (pj lw) 100 49 (l0 :: l1 :: l2 :: .val (.ref x) :: L) S k n H Q ↔ W (pj lw) 100 50 (l0 :: l1 :: l2 :: .val (.ref x) :: L) (.ref x :: S) k n H Q := W_s (rfl : (pj lw).1 100 49 = some (.aload_n 3, 1, 0)) rfl rfl rfl
theorem w100_50 {a : Nat} : W (pj lw) 100 50 L (.ref a :: S) k n H Q ↔ ((isO H a = true ∧ cs S + (1 + 11) + 0 ≤ 176) ∧ Cl (pj lw) 32 [.ref a] H (fun v H => W (pj lw) 100 53 L (v.toList ++ S) k n H Q)) := W_inst (as := []) (rfl : (pj lw).1 100 50 = some (.invokevirtual 19, 3, 32)) rfl rfl rfl (Nat.le_of_ble_eq_true rfl) (Nat.le_of_ble_eq_true rfl) ⟨rfl, rfl⟩
theorem w100_53 : W (pj lw) 100 53 L S k n H Q ↔ W (pj lw) 100 54 L (.int (-1) :: S) k n H Q := W_s (rfl : (pj lw).1 100 53 = some (.iconst (-1), 1, 0)) rfl rfl rfl
theorem w100_54 {x y : Int32} : W (pj lw) 100 54 L (.int y :: .int x :: S) k n H Q ↔ (if x = y then W (pj lw) 100 59 L S k n H Q else W (pj lw) 100 57 L S k n H Q) := W_icmp_eq (rfl : (pj lw).1 100 54 = some (.if_icmp .eq 5, 3, 0)) rfl
theorem w100_57 : W (pj lw) 100 57 L S k n H Q ↔ W (pj lw) 100 58 L (.int 0 :: S) k n H Q := W_s (rfl : (pj lw).1 100 57 = some (.iconst 0, 1, 0)) rfl rfl rfl
theorem w100_58 {x : Int32} : W (pj lw) 100 58 L (.int x :: S) k n H Q ↔ ((x = 0 ∨ x = 1) ∧ Q (some (.int x)) H) := W_rz (rfl : (pj lw).1 100 58 = some (.ireturn, 1, 0)) rfl
theorem w100_59 {x : Nat} {l0 l1 l2 : Slot} : W (pj lw) 100 59 (l0 :: l1 :: l2 :: .val (.ref x) :: L) S k n H Q ↔ W (pj lw) 100 60 (l0 :: l1 :: l2 :: .val (.ref x) :: L) (.ref x :: S) k n H Q := W_s (rfl : (pj lw).1 100 59 = some (.aload_n 3, 1, 0)) rfl rfl rfl
theorem w100_60 : W (pj lw) 100 60 L S k n H Q ↔ W (pj lw) 100 61 L (.int 1 :: S) k n H Q := W_s (rfl : (pj lw).1 100 60 = some (.iconst 1, 1, 0)) rfl rfl rfl
theorem w100_61 : W (pj lw) 100 61 L S k n H Q ↔ W (pj lw) 100 62 L (.int 0 :: S) k n H Q := W_s (rfl : (pj lw).1 100 61 = some (.iconst 0, 1, 0)) rfl rfl rfl
theorem w100_62 : W (pj lw) 100 62 L S k n H Q ↔ W (pj lw) 100 63 L (.int 0 :: S) k n H Q := W_s (rfl : (pj lw).1 100 62 = some (.iconst 0, 1, 0)) rfl rfl rfl
theorem w100_63 {a : Nat} {x0 : Int32} {x1 : Int32} {x2 : Int32} : W (pj lw) 100 63 L (.int x2 :: .int x1 :: .int x0 :: .ref a :: S) k n H Q ↔ ((isO H a = true ∧ cs S + (4 + 11) + 13 ≤ 176) ∧ Cl (pj lw) 9 [.ref a, .int x0, .int x1, .int x2] H (fun v H => W (pj lw) 100 66 L (v.toList ++ S) k n H Q)) := W_inst (as := [.int x0, .int x1, .int x2]) (rfl : (pj lw).1 100 63 = some (.invokevirtual 22, 3, 9)) rfl rfl rfl (Nat.le_of_ble_eq_true rfl) (Nat.le_of_ble_eq_true rfl) ⟨rfl, rfl⟩
theorem w100_66 : W (pj lw) 100 66 L S k n H Q ↔ W (pj lw) 100 67 L (.int 1 :: S) k n H Q := W_s (rfl : (pj lw).1 100 66 = some (.iconst 1, 1, 0)) rfl rfl rfl
theorem w100_67 {x y : Int32} : W (pj lw) 100 67 L (.int y :: .int x :: S) k n H Q ↔ (if x = y then W (pj lw) 100 72 L S k n H Q else W (pj lw) 100 70 L S k n H Q) := W_icmp_eq (rfl : (pj lw).1 100 67 = some (.if_icmp .eq 5, 3, 0)) rfl
theorem w100_70 : W (pj lw) 100 70 L S k n H Q ↔ W (pj lw) 100 71 L (.int 0 :: S) k n H Q := W_s (rfl : (pj lw).1 100 70 = some (.iconst 0, 1, 0)) rfl rfl rfl
theorem w100_71 {x : Int32} : W (pj lw) 100 71 L (.int x :: S) k n H Q ↔ ((x = 0 ∨ x = 1) ∧ Q (some (.int x)) H) := W_rz (rfl : (pj lw).1 100 71 = some (.ireturn, 1, 0)) rfl
theorem w100_72 {x : Nat} {l0 l1 l2 : Slot} : W (pj lw) 100 72 (l0 :: l1 :: l2 :: .val (.ref x) :: L) S k n H Q ↔ W (pj lw) 100 73 (l0 :: l1 :: l2 :: .val (.ref x) :: L) (.ref x :: S) k n H Q := W_s (rfl : (pj lw).1 100 72 = some (.aload_n 3, 1, 0)) rfl rfl rfl
theorem w100_73 : W (pj lw) 100 73 L S k n H Q ↔ W (pj lw) 100 74 L (.int 1 :: S) k n H Q := W_s (rfl : (pj lw).1 100 73 = some (.iconst 1, 1, 0)) rfl rfl rfl
theorem w100_74 {a : Nat} {x0 : Int32} : W (pj lw) 100 74 L (.int x0 :: .ref a :: S) k n H Q ↔ ((isO H a = true ∧ cs S + (5 + 11) + 13 ≤ 176) ∧ Cl (pj lw) 31 [.ref a, .int x0] H (fun v H => W (pj lw) 100 77 L (v.toList ++ S) k n H Q)) := W_inst (as := [.int x0]) (rfl : (pj lw).1 100 74 = some (.invokevirtual 26, 3, 31)) rfl rfl rfl (Nat.le_of_ble_eq_true rfl) (Nat.le_of_ble_eq_true rfl) ⟨rfl, rfl⟩
theorem w100_77 : W (pj lw) 100 77 L S k n H Q ↔ W (pj lw) 100 78 L (.int (-1) :: S) k n H Q := W_s (rfl : (pj lw).1 100 77 = some (.iconst (-1), 1, 0)) rfl rfl rfl
theorem w100_78 {x y : Int32} : W (pj lw) 100 78 L (.int y :: .int x :: S) k n H Q ↔ (if x = y then W (pj lw) 100 83 L S k n H Q else W (pj lw) 100 81 L S k n H Q) := W_icmp_eq (rfl : (pj lw).1 100 78 = some (.if_icmp .eq 5, 3, 0)) rfl
theorem w100_81 : W (pj lw) 100 81 L S k n H Q ↔ W (pj lw) 100 82 L (.int 0 :: S) k n H Q := W_s (rfl : (pj lw).1 100 81 = some (.iconst 0, 1, 0)) rfl rfl rfl
theorem w100_82 {x : Int32} : W (pj lw) 100 82 L (.int x :: S) k n H Q ↔ ((x = 0 ∨ x = 1) ∧ Q (some (.int x)) H) := W_rz (rfl : (pj lw).1 100 82 = some (.ireturn, 1, 0)) rfl
theorem w100_83 {x : Int32} {l0 l1 : Slot} : W (pj lw) 100 83 (l0 :: l1 :: .val (.int x) :: L) S k n H Q ↔ W (pj lw) 100 84 (l0 :: l1 :: .val (.int x) :: L) (.int x :: S) k n H Q := W_s (rfl : (pj lw).1 100 83 = some (.iload_n 2, 1, 0)) rfl rfl rfl
theorem w100_84 : W (pj lw) 100 84 L S k n H Q ↔ W (pj lw) 100 85 L (.int 1 :: S) k n H Q := W_s (rfl : (pj lw).1 100 84 = some (.iconst 1, 1, 0)) rfl rfl rfl
theorem w100_85 {x y : Int32} : W (pj lw) 100 85 L (.int y :: .int x :: S) k n H Q ↔ (if x < y then W (pj lw) 100 98 L S k n H Q else W (pj lw) 100 88 L S k n H Q) := W_icmp_lt (rfl : (pj lw).1 100 85 = some (.if_icmp .lt 13, 3, 0)) rfl
theorem w100_88 {x : Int32} {l0 l1 : Slot} : W (pj lw) 100 88 (l0 :: l1 :: .val (.int x) :: L) S k n H Q ↔ W (pj lw) 100 89 (l0 :: l1 :: .val (.int x) :: L) (.int x :: S) k n H Q := W_s (rfl : (pj lw).1 100 88 = some (.iload_n 2, 1, 0)) rfl rfl rfl
theorem w100_89 {x : Int32} {l0 l1 l2 l3 : Slot} : W (pj lw) 100 89 (l0 :: l1 :: l2 :: l3 :: .val (.int x) :: L) S k n H Q ↔ W (pj lw) 100 91 (l0 :: l1 :: l2 :: l3 :: .val (.int x) :: L) (.int x :: S) k n H Q := W_s (rfl : (pj lw).1 100 89 = some (.iload 4, 2, 0)) rfl rfl rfl
theorem w100_91 {x y : Int32} : W (pj lw) 100 91 L (.int y :: .int x :: S) k n H Q ↔ (if y < x then W (pj lw) 100 98 L S k n H Q else W (pj lw) 100 94 L S k n H Q) := W_icmp_gt (rfl : (pj lw).1 100 91 = some (.if_icmp .gt 7, 3, 0)) rfl
theorem w100_94 : W (pj lw) 100 94 L S k n H Q ↔ W (pj lw) 100 95 L (.int 0 :: S) k n H Q := W_s (rfl : (pj lw).1 100 94 = some (.iconst 0, 1, 0)) rfl rfl rfl
theorem w100_95 : W (pj lw) 100 95 L S k n H Q ↔ W (pj lw) 100 100 L S k n H Q := W_goto (rfl : (pj lw).1 100 95 = some (.goto 5, 3, 0)) rfl
theorem w100_98 : W (pj lw) 100 98 L S k n H Q ↔ W (pj lw) 100 100 L (.int (-6) :: S) k n H Q := W_s (rfl : (pj lw).1 100 98 = some (.bipush (-6), 2, 0)) rfl rfl rfl
theorem w100_100 {x : Int32} {l0 l1 l2 l3 l4 : Slot} : W (pj lw) 100 100 (l0 :: l1 :: l2 :: l3 :: l4 :: .unset :: L) (.int x :: S) k n H Q ↔ W (pj lw) 100 102 (l0 :: l1 :: l2 :: l3 :: l4 :: .val (.int x) :: L) S k n H Q := W_ist (rfl : (pj lw).1 100 100 = some (.istore 5, 2, 0)) rfl rfl
theorem w100_102 {x : Nat} {l0 l1 l2 : Slot} : W (pj lw) 100 102 (l0 :: l1 :: l2 :: .val (.ref x) :: L) S k n H Q ↔ W (pj lw) 100 103 (l0 :: l1 :: l2 :: .val (.ref x) :: L) (.ref x :: S) k n H Q := W_s (rfl : (pj lw).1 100 102 = some (.aload_n 3, 1, 0)) rfl rfl rfl
theorem w100_103 : W (pj lw) 100 103 L S k n H Q ↔ W (pj lw) 100 104 L (.int 1 :: S) k n H Q := W_s (rfl : (pj lw).1 100 103 = some (.iconst 1, 1, 0)) rfl rfl rfl
theorem w100_104 {x : Int32} {l0 l1 : Slot} : W (pj lw) 100 104 (l0 :: l1 :: .val (.int x) :: L) S k n H Q ↔ W (pj lw) 100 105 (l0 :: l1 :: .val (.int x) :: L) (.int x :: S) k n H Q := W_s (rfl : (pj lw).1 100 104 = some (.iload_n 2, 1, 0)) rfl rfl rfl
theorem w100_105 : W (pj lw) 100 105 L S k n H Q ↔ W (pj lw) 100 106 L (.int 1 :: S) k n H Q := W_s (rfl : (pj lw).1 100 105 = some (.iconst 1, 1, 0)) rfl rfl rfl
theorem w100_106 {a : Nat} {x0 : Int32} {x1 : Int32} {x2 : Int32} : W (pj lw) 100 106 L (.int x2 :: .int x1 :: .int x0 :: .ref a :: S) k n H Q ↔ ((isO H a = true ∧ cs S + (4 + 11) + 13 ≤ 176) ∧ Cl (pj lw) 10 [.ref a, .int x0, .int x1, .int x2] H (fun v H => W (pj lw) 100 109 L (v.toList ++ S) k n H Q)) := W_inst (as := [.int x0, .int x1, .int x2]) (rfl : (pj lw).1 100 106 = some (.invokevirtual 30, 3, 10)) rfl rfl rfl (Nat.le_of_ble_eq_true rfl) (Nat.le_of_ble_eq_true rfl) ⟨rfl, rfl⟩
theorem w100_109 {x : Int32} {l0 l1 l2 l3 l4 : Slot} : W (pj lw) 100 109 (l0 :: l1 :: l2 :: l3 :: l4 :: .val (.int x) :: L) S k n H Q ↔ W (pj lw) 100 111 (l0 :: l1 :: l2 :: l3 :: l4 :: .val (.int x) :: L) (.int x :: S) k n H Q := W_s (rfl : (pj lw).1 100 109 = some (.iload 5, 2, 0)) rfl rfl rfl
theorem w100_111 {x y : Int32} : W (pj lw) 100 111 L (.int y :: .int x :: S) k n H Q ↔ (if x = y then W (pj lw) 100 116 L S k n H Q else W (pj lw) 100 114 L S k n H Q) := W_icmp_eq (rfl : (pj lw).1 100 111 = some (.if_icmp .eq 5, 3, 0)) rfl
theorem w100_114 : W (pj lw) 100 114 L S k n H Q ↔ W (pj lw) 100 115 L (.int 0 :: S) k n H Q := W_s (rfl : (pj lw).1 100 114 = some (.iconst 0, 1, 0)) rfl rfl rfl
theorem w100_115 {x : Int32} : W (pj lw) 100 115 L (.int x :: S) k n H Q ↔ ((x = 0 ∨ x = 1) ∧ Q (some (.int x)) H) := W_rz (rfl : (pj lw).1 100 115 = some (.ireturn, 1, 0)) rfl
theorem w100_116 : W (pj lw) 100 116 L S k n H Q ↔ W (pj lw) 100 117 L (.int 1 :: S) k n H Q := W_s (rfl : (pj lw).1 100 116 = some (.iconst 1, 1, 0)) rfl rfl rfl
theorem w100_117 {x : Int32} : W (pj lw) 100 117 L (.int x :: S) k n H Q ↔ ((x = 0 ∨ x = 1) ∧ Q (some (.int x)) H) := W_rz (rfl : (pj lw).1 100 117 = some (.ireturn, 1, 0)) rfl
end LPc
set_option maxRecDepth 100000 in
set_option maxHeartbeats 4000000 in
theorem law_ok (i0 i1 i2 : Int32) (N : Nat) : Cl (pj lw) 100 [.int i0, .int i1, .int i2] (H0 N) (fun v _ => v = some (.int 1)) := by
  rw [c100]
  have e1 : (if i0 < 2 then 2 else if 4 < i0 then 4 else i0) = cl 2 4 i0 := rfl
  simp +decide only [w100_0, w100_3, w100_4, w100_5, w100_6, w100_9, w100_10, w100_11, w100_12, w100_15, w100_16, w100_19, w100_20, w100_21, w100_24, w100_25, w100_28, w100_31, w100_32, w100_35, w100_38, w100_39, w100_40, w100_41, w100_44, w100_47, w100_48, w100_49, w100_50, w100_53, w100_54, w100_57, w100_58, w100_59, w100_60, w100_61, w100_62, w100_63, w100_66, w100_67, w100_70, w100_71, w100_72, w100_73, w100_74, w100_77, w100_78, w100_81, w100_82, w100_83, w100_84, w100_85, w100_88, w100_89, w100_91, w100_94, w100_95, w100_98, w100_102, w100_103, w100_104, w100_105, w100_106, w100_109, w100_111, w100_114, w100_115, w100_116, w100_117, zr_z0, zr_uI, zr_uJ, isO_put, isOw_put, put_fst, okv_int, okv_long, okv_ref, okv_bool, okv_byte, cat1_unset, cat1_int, cat1_ref, cs_nil, cs_int, cs_ref, cs_long, cmpL_lt, cmpL_gt, cmpL_eq, sI_uI, sI_uJ, sI_uA, sI_uB, sJ_uI, sJ_uJ, sJ_uA, sJ_uB, sA_uI, sA_uJ, sA_uA, sA_uB, sB_uI, sB_uJ, sB_uA, sB_uB, sI_fA, sJ_fA, sA_fA, sB_fA, sI_z0, sJ_z0, sA_z0, sB_z0, Option.toList_some, Option.toList_none, List.cons_append, List.nil_append, true_and, and_true, false_and, and_false, or_false, false_or, or_true, true_or, not_true_eq_false, not_false_eq_true, ↓reduceIte, Nat.reduceAdd, Nat.reduceLeDiff, Nat.reduceEqDiff, Nat.reduceSub, Int32.reduceAdd, Int32.reduceSub, Int32.reduceMul, Int32.reduceToNatClampNeg, Int64.reduceAdd, Int64.reduceSub, Int64.reduceMul, Int64.reduceLT, Int32.reduceLT, Int32.reduceToInt, Nat.add_zero, Nat.zero_add, Nat.le_refl, eq_self, implies_true, ne_eq, mkO_ob, t1, H0, W_ite, e1]
  have hr1 := cl_rg (lo := 2) (hi := 4) i0 (by decide)
  clear e1
  simp only [Int32.reduceToInt] at hr1
  simp only [ini0]
  generalize cl 2 4 i0 = nn at *
  generalize (if i1 < 1 then 1 else i1) = gg at *
  have h3 : ¬ nn < 1 := by rw [lt32]; simp only [Int32.reduceToInt]; omega
  have h1 : True := trivial
  have h2 : True := trivial
  by_cases h0 : i2 < 1
  · simp +decide only [w100_0, w100_3, w100_4, w100_5, w100_6, w100_9, w100_10, w100_11, w100_12, w100_15, w100_16, w100_19, w100_20, w100_21, w100_24, w100_25, w100_28, w100_29, w100_31, w100_32, w100_35, w100_38, w100_39, w100_40, w100_41, w100_44, w100_47, w100_48, w100_49, w100_50, w100_53, w100_54, w100_57, w100_58, w100_59, w100_60, w100_61, w100_62, w100_63, w100_66, w100_67, w100_70, w100_71, w100_72, w100_73, w100_74, w100_77, w100_78, w100_81, w100_82, w100_83, w100_84, w100_85, w100_88, w100_89, w100_91, w100_94, w100_95, w100_98, w100_100, w100_102, w100_103, w100_104, w100_105, w100_106, w100_109, w100_111, w100_114, w100_115, w100_116, w100_117, zr_z0, zr_uI, zr_uJ, isO_put, isOw_put, put_fst, okv_int, okv_long, okv_ref, okv_bool, okv_byte, cat1_unset, cat1_int, cat1_ref, cs_nil, cs_int, cs_ref, cs_long, cmpL_lt, cmpL_gt, cmpL_eq, sI_uI, sI_uJ, sI_uA, sI_uB, sJ_uI, sJ_uJ, sJ_uA, sJ_uB, sA_uI, sA_uJ, sA_uA, sA_uB, sB_uI, sB_uJ, sB_uA, sB_uB, sI_fA, sJ_fA, sA_fA, sB_fA, sI_z0, sJ_z0, sA_z0, sB_z0, Option.toList_some, Option.toList_none, List.cons_append, List.nil_append, true_and, and_true, false_and, and_false, or_false, false_or, or_true, true_or, not_true_eq_false, not_false_eq_true, ↓reduceIte, Nat.reduceAdd, Nat.reduceLeDiff, Nat.reduceEqDiff, Nat.reduceSub, Int32.reduceAdd, Int32.reduceSub, Int32.reduceMul, Int32.reduceToNatClampNeg, Int64.reduceAdd, Int64.reduceSub, Int64.reduceMul, Int64.reduceLT, Int32.reduceLT, Int32.reduceToInt, Nat.add_zero, Nat.zero_add, Nat.le_refl, eq_self, implies_true, ne_eq, g0, s0, g1, s1, g2, s2, g3, s3, g4, s4, g5, g6, g7, g8, g9, g10, g11, g12, s12, g13, s13, g14, s14, g15, s15, g16, g17, g18, g19, g20, g21, g22, s22, ai1, aw1, ae1, as1, ai2, aw2, ae2, as2, ai3, aw3, ae3, as3, ai4, aw4, ae4, as4, ai5, aw5, ae5, as5, ai6, aw6, ae6, as6, ai7, aw7, ae7, as7, ai8, aw8, ae8, as8, ai9, aw9, ae9, as9, ai10, aw10, ae10, as10, ai11, aw11, ae11, as11, ai12, aw12, ae12, as12, ai13, aw13, ae13, as13, sI_km, sI_bg0, c7, w7_0, w7_1, w7_2, w7_5, w7_6, w7_7, w7_10, w7_13, w7_14, w7_17, w7_18, c8, w8_0, w8_1, w8_2, w8_5, w8_6, w8_7, w8_10, w8_13, w8_14, w8_17, w8_18, c9, w9_0, w9_1, w9_4, w9_6, w9_9, w9_10, w9_11, w9_12, w9_13, w9_16, w9_17, w9_18, w9_21, w9_23, w9_24, w9_25, w9_28, w9_29, w9_32, w9_33, w9_34, w9_37, w9_38, w9_41, w9_42, w9_45, w9_47, w9_48, w9_49, w9_52, w9_53, w9_54, w9_57, w9_60, w9_62, w9_63, w9_64, w9_65, w9_68, w9_71, w9_73, w9_74, w9_75, w9_78, w9_79, w9_80, w9_81, w9_84, w9_86, w9_87, w9_88, w9_91, w9_92, w9_93, w9_94, w9_97, w9_99, w9_100, w9_101, w9_102, w9_105, w9_106, w9_107, w9_110, w9_111, w9_114, w9_115, w9_118, w9_119, w9_120, w9_121, w9_124, w9_125, w9_128, w9_129, w9_130, w9_131, w9_134, w9_135, w9_138, w9_139, w9_140, w9_141, w9_144, w9_145, w9_148, w9_149, w9_150, w9_151, w9_154, w9_155, w9_158, w9_159, w9_160, w9_161, w9_164, w9_165, w9_168, w9_169, w9_170, w9_171, w9_172, w9_175, w9_176, w9_177, w9_180, w9_181, w9_184, c10, w10_0, w10_1, w10_2, w10_5, w10_8, w10_10, w10_11, w10_12, w10_13, w10_16, w10_19, w10_20, w10_21, w10_24, w10_27, w10_29, w10_30, w10_31, w10_34, w10_35, w10_36, w10_39, w10_40, w10_41, w10_42, w10_43, w10_44, w10_45, w10_46, w10_47, w10_48, w10_51, w10_52, c29, w29_0, w29_1, w29_4, w29_7, w29_8, w29_11, w29_14, w29_15, c31, w31_0, w31_1, w31_4, w31_7, w31_8, w31_9, w31_12, w31_15, w31_16, w31_17, w31_18, w31_21, w31_22, w31_23, w31_24, w31_25, w31_26, w31_27, w31_31, w31_33, w31_36, w31_37, w31_39, w31_40, w31_41, w31_42, w31_45, w31_48, w31_51, w31_54, w31_55, c32, w32_0, w32_1, w32_4, w32_7, w32_8, w32_11, w32_14, w32_15, c34, w34_0, w34_1, w34_4, w31_29, h0, h1, h2, h3]
  clear h1
  by_cases h1 : nn < i2
  · simp +decide only [w100_0, w100_3, w100_4, w100_5, w100_6, w100_9, w100_10, w100_11, w100_12, w100_15, w100_16, w100_19, w100_20, w100_21, w100_24, w100_25, w100_28, w100_29, w100_31, w100_32, w100_35, w100_38, w100_39, w100_40, w100_41, w100_44, w100_47, w100_48, w100_49, w100_50, w100_53, w100_54, w100_57, w100_58, w100_59, w100_60, w100_61, w100_62, w100_63, w100_66, w100_67, w100_70, w100_71, w100_72, w100_73, w100_74, w100_77, w100_78, w100_81, w100_82, w100_83, w100_84, w100_85, w100_88, w100_89, w100_91, w100_94, w100_95, w100_98, w100_100, w100_102, w100_103, w100_104, w100_105, w100_106, w100_109, w100_111, w100_114, w100_115, w100_116, w100_117, zr_z0, zr_uI, zr_uJ, isO_put, isOw_put, put_fst, okv_int, okv_long, okv_ref, okv_bool, okv_byte, cat1_unset, cat1_int, cat1_ref, cs_nil, cs_int, cs_ref, cs_long, cmpL_lt, cmpL_gt, cmpL_eq, sI_uI, sI_uJ, sI_uA, sI_uB, sJ_uI, sJ_uJ, sJ_uA, sJ_uB, sA_uI, sA_uJ, sA_uA, sA_uB, sB_uI, sB_uJ, sB_uA, sB_uB, sI_fA, sJ_fA, sA_fA, sB_fA, sI_z0, sJ_z0, sA_z0, sB_z0, Option.toList_some, Option.toList_none, List.cons_append, List.nil_append, true_and, and_true, false_and, and_false, or_false, false_or, or_true, true_or, not_true_eq_false, not_false_eq_true, ↓reduceIte, Nat.reduceAdd, Nat.reduceLeDiff, Nat.reduceEqDiff, Nat.reduceSub, Int32.reduceAdd, Int32.reduceSub, Int32.reduceMul, Int32.reduceToNatClampNeg, Int64.reduceAdd, Int64.reduceSub, Int64.reduceMul, Int64.reduceLT, Int32.reduceLT, Int32.reduceToInt, Nat.add_zero, Nat.zero_add, Nat.le_refl, eq_self, implies_true, ne_eq, g0, s0, g1, s1, g2, s2, g3, s3, g4, s4, g5, g6, g7, g8, g9, g10, g11, g12, s12, g13, s13, g14, s14, g15, s15, g16, g17, g18, g19, g20, g21, g22, s22, ai1, aw1, ae1, as1, ai2, aw2, ae2, as2, ai3, aw3, ae3, as3, ai4, aw4, ae4, as4, ai5, aw5, ae5, as5, ai6, aw6, ae6, as6, ai7, aw7, ae7, as7, ai8, aw8, ae8, as8, ai9, aw9, ae9, as9, ai10, aw10, ae10, as10, ai11, aw11, ae11, as11, ai12, aw12, ae12, as12, ai13, aw13, ae13, as13, sI_km, sI_bg0, c7, w7_0, w7_1, w7_2, w7_5, w7_6, w7_7, w7_10, w7_13, w7_14, w7_17, w7_18, c8, w8_0, w8_1, w8_2, w8_5, w8_6, w8_7, w8_10, w8_13, w8_14, w8_17, w8_18, c9, w9_0, w9_1, w9_4, w9_6, w9_9, w9_10, w9_11, w9_12, w9_13, w9_16, w9_17, w9_18, w9_21, w9_23, w9_24, w9_25, w9_28, w9_29, w9_32, w9_33, w9_34, w9_37, w9_38, w9_41, w9_42, w9_45, w9_47, w9_48, w9_49, w9_52, w9_53, w9_54, w9_57, w9_60, w9_62, w9_63, w9_64, w9_65, w9_68, w9_71, w9_73, w9_74, w9_75, w9_78, w9_79, w9_80, w9_81, w9_84, w9_86, w9_87, w9_88, w9_91, w9_92, w9_93, w9_94, w9_97, w9_99, w9_100, w9_101, w9_102, w9_105, w9_106, w9_107, w9_110, w9_111, w9_114, w9_115, w9_118, w9_119, w9_120, w9_121, w9_124, w9_125, w9_128, w9_129, w9_130, w9_131, w9_134, w9_135, w9_138, w9_139, w9_140, w9_141, w9_144, w9_145, w9_148, w9_149, w9_150, w9_151, w9_154, w9_155, w9_158, w9_159, w9_160, w9_161, w9_164, w9_165, w9_168, w9_169, w9_170, w9_171, w9_172, w9_175, w9_176, w9_177, w9_180, w9_181, w9_184, c10, w10_0, w10_1, w10_2, w10_5, w10_8, w10_10, w10_11, w10_12, w10_13, w10_16, w10_19, w10_20, w10_21, w10_24, w10_27, w10_29, w10_30, w10_31, w10_34, w10_35, w10_36, w10_39, w10_40, w10_41, w10_42, w10_43, w10_44, w10_45, w10_46, w10_47, w10_48, w10_51, w10_52, c29, w29_0, w29_1, w29_4, w29_7, w29_8, w29_11, w29_14, w29_15, c31, w31_0, w31_1, w31_4, w31_7, w31_8, w31_9, w31_12, w31_15, w31_16, w31_17, w31_18, w31_21, w31_22, w31_23, w31_24, w31_25, w31_26, w31_27, w31_31, w31_33, w31_36, w31_37, w31_39, w31_40, w31_41, w31_42, w31_45, w31_48, w31_51, w31_54, w31_55, c32, w32_0, w32_1, w32_4, w32_7, w32_8, w32_11, w32_14, w32_15, c34, w34_0, w34_1, w34_4, w31_29, h0, h1, h2, h3]
  clear h2
  have h2 : 0 ≤ (i2 * 5 + 1).toInt ∧ (i2 * 5 + 1).toInt < 25 := by
    simp only [lt32, Int32.reduceToInt] at h0 h1
    rw [idx2 (a := 5) (b := 2) 5 (by decide) (by omega) (by decide) (by omega) (by omega)]
    simp only [Int32.reduceToInt]; omega
  simp +decide only [w100_0, w100_3, w100_4, w100_5, w100_6, w100_9, w100_10, w100_11, w100_12, w100_15, w100_16, w100_19, w100_20, w100_21, w100_24, w100_25, w100_28, w100_29, w100_31, w100_32, w100_35, w100_38, w100_39, w100_40, w100_41, w100_44, w100_47, w100_48, w100_49, w100_50, w100_53, w100_54, w100_57, w100_58, w100_59, w100_60, w100_61, w100_62, w100_63, w100_66, w100_67, w100_70, w100_71, w100_72, w100_73, w100_74, w100_77, w100_78, w100_81, w100_82, w100_83, w100_84, w100_85, w100_88, w100_89, w100_91, w100_94, w100_95, w100_98, w100_100, w100_102, w100_103, w100_104, w100_105, w100_106, w100_109, w100_111, w100_114, w100_115, w100_116, w100_117, zr_z0, zr_uI, zr_uJ, isO_put, isOw_put, put_fst, okv_int, okv_long, okv_ref, okv_bool, okv_byte, cat1_unset, cat1_int, cat1_ref, cs_nil, cs_int, cs_ref, cs_long, cmpL_lt, cmpL_gt, cmpL_eq, sI_uI, sI_uJ, sI_uA, sI_uB, sJ_uI, sJ_uJ, sJ_uA, sJ_uB, sA_uI, sA_uJ, sA_uA, sA_uB, sB_uI, sB_uJ, sB_uA, sB_uB, sI_fA, sJ_fA, sA_fA, sB_fA, sI_z0, sJ_z0, sA_z0, sB_z0, Option.toList_some, Option.toList_none, List.cons_append, List.nil_append, true_and, and_true, false_and, and_false, or_false, false_or, or_true, true_or, not_true_eq_false, not_false_eq_true, ↓reduceIte, Nat.reduceAdd, Nat.reduceLeDiff, Nat.reduceEqDiff, Nat.reduceSub, Int32.reduceAdd, Int32.reduceSub, Int32.reduceMul, Int32.reduceToNatClampNeg, Int64.reduceAdd, Int64.reduceSub, Int64.reduceMul, Int64.reduceLT, Int32.reduceLT, Int32.reduceToInt, Nat.add_zero, Nat.zero_add, Nat.le_refl, eq_self, implies_true, ne_eq, g0, s0, g1, s1, g2, s2, g3, s3, g4, s4, g5, g6, g7, g8, g9, g10, g11, g12, s12, g13, s13, g14, s14, g15, s15, g16, g17, g18, g19, g20, g21, g22, s22, ai1, aw1, ae1, as1, ai2, aw2, ae2, as2, ai3, aw3, ae3, as3, ai4, aw4, ae4, as4, ai5, aw5, ae5, as5, ai6, aw6, ae6, as6, ai7, aw7, ae7, as7, ai8, aw8, ae8, as8, ai9, aw9, ae9, as9, ai10, aw10, ae10, as10, ai11, aw11, ae11, as11, ai12, aw12, ae12, as12, ai13, aw13, ae13, as13, sI_km, sI_bg0, c7, w7_0, w7_1, w7_2, w7_5, w7_6, w7_7, w7_10, w7_13, w7_14, w7_17, w7_18, c8, w8_0, w8_1, w8_2, w8_5, w8_6, w8_7, w8_10, w8_13, w8_14, w8_17, w8_18, c9, w9_0, w9_1, w9_4, w9_6, w9_9, w9_10, w9_11, w9_12, w9_13, w9_16, w9_17, w9_18, w9_21, w9_23, w9_24, w9_25, w9_28, w9_29, w9_32, w9_33, w9_34, w9_37, w9_38, w9_41, w9_42, w9_45, w9_47, w9_48, w9_49, w9_52, w9_53, w9_54, w9_57, w9_60, w9_62, w9_63, w9_64, w9_65, w9_68, w9_71, w9_73, w9_74, w9_75, w9_78, w9_79, w9_80, w9_81, w9_84, w9_86, w9_87, w9_88, w9_91, w9_92, w9_93, w9_94, w9_97, w9_99, w9_100, w9_101, w9_102, w9_105, w9_106, w9_107, w9_110, w9_111, w9_114, w9_115, w9_118, w9_119, w9_120, w9_121, w9_124, w9_125, w9_128, w9_129, w9_130, w9_131, w9_134, w9_135, w9_138, w9_139, w9_140, w9_141, w9_144, w9_145, w9_148, w9_149, w9_150, w9_151, w9_154, w9_155, w9_158, w9_159, w9_160, w9_161, w9_164, w9_165, w9_168, w9_169, w9_170, w9_171, w9_172, w9_175, w9_176, w9_177, w9_180, w9_181, w9_184, c10, w10_0, w10_1, w10_2, w10_5, w10_8, w10_10, w10_11, w10_12, w10_13, w10_16, w10_19, w10_20, w10_21, w10_24, w10_27, w10_29, w10_30, w10_31, w10_34, w10_35, w10_36, w10_39, w10_40, w10_41, w10_42, w10_43, w10_44, w10_45, w10_46, w10_47, w10_48, w10_51, w10_52, c29, w29_0, w29_1, w29_4, w29_7, w29_8, w29_11, w29_14, w29_15, c31, w31_0, w31_1, w31_4, w31_7, w31_8, w31_9, w31_12, w31_15, w31_16, w31_17, w31_18, w31_21, w31_22, w31_23, w31_24, w31_25, w31_26, w31_27, w31_31, w31_33, w31_36, w31_37, w31_39, w31_40, w31_41, w31_42, w31_45, w31_48, w31_51, w31_54, w31_55, c32, w32_0, w32_1, w32_4, w32_7, w32_8, w32_11, w32_14, w32_15, c34, w34_0, w34_1, w34_4, w31_29, h0, h1, h2, h3]

end Jvm.JX.Lw
namespace Jvm.Pilot.@@N@@
open Jvm Jvm.ClassFile Sem Op Lib Jvm.Free Jvm.Stand Jvm.LawKit Jvm.RoadKit Bundle Jvm.Pilot.@@N@@.Jvm.D Jvm.JX Jvm.JX.Pj Jvm.JX.Lw
def nmL : List (Nat × MethodName) := [(1, ⟨"PedigreeCheck", "<init>", "(II)V"⟩), (2, ⟨"PedigreeCheck", "clampSeed", "(I)I"⟩), (3, ⟨"PedigreeCheck", "buildGenotypes", "()V"⟩), (4, ⟨"PedigreeCheck", "buildKidMasks", "()V"⟩), (5, ⟨"PedigreeCheck", "childMaskFor", "(II)I"⟩), (6, ⟨"PedigreeCheck", "compatible", "(III)Z"⟩), (7, ⟨"PedigreeCheck", "validId", "(I)Z"⟩), (8, ⟨"PedigreeCheck", "validAllele", "(I)Z"⟩), (9, ⟨"PedigreeCheck", "addIndividual", "(III)I"⟩), (10, ⟨"PedigreeCheck", "observe", "(III)I"⟩), (29, ⟨"PedigreeCheck", "status", "()I"⟩), (31, ⟨"PedigreeCheck", "candidateCount", "(I)I"⟩), (32, ⟨"PedigreeCheck", "conflictFamily", "()I"⟩), (34, ⟨"PedigreeCheck", "individualCount", "()I"⟩), (100, ⟨"PedigreeCheckL1", "law", "(III)Z"⟩)]
def nm (m : Nat) : MethodName := (nmL.lookup m).getD ⟨"", "", ""⟩
def btL : List (Nat × ByteArray) := [(1, prog_1_method_1_code), (2, prog_1_method_2_code), (3, prog_1_method_3_code), (4, prog_1_method_4_code), (5, prog_1_method_5_code), (6, prog_1_method_6_code), (7, prog_1_method_7_code), (8, prog_1_method_8_code), (9, prog_1_method_9_code), (10, prog_1_method_10_code), (29, prog_1_method_29_code), (31, prog_1_method_31_code), (32, prog_1_method_32_code), (34, prog_1_method_34_code), (100, code)]
def bt (m : Nat) : ByteArray := (btL.lookup m).getD ⟨#[]⟩
def fnL : List (String × String) := [("alleleCount", "I"), ("genoCount", "I"), ("fullMask", "I"), ("gen", "I"), ("n", "I"), ("sexOf", "[I"), ("fatherOf", "[I"), ("motherOf", "[I"), ("obsG", "[I"), ("dropP", "[I"), ("dropM", "[I"), ("cand", "[I"), ("dropValid", "Z"), ("candValid", "Z"), ("lastStatus", "I"), ("conflict", "I"), ("genoA", "[I"), ("genoB", "[I"), ("genoIndex", "[I"), ("kidMask", "[I"), ("kidBuf", "[I"), ("newKid", "[I"), ("kidCount", "I")]
def fn (k : Nat) : String × String := fnL.getD k ("", "")
def RL : List Nat := [1, 2, 3, 4, 5, 6, 7, 8, 9, 10, 29, 31, 32, 34, 100]
def FS : List Nat := [0, 1, 2, 3, 4, 5, 6, 7, 8, 9, 10, 11, 12, 13, 14, 15, 16, 17, 18, 19, 20, 21, 22]
def WF : List Nat := [0, 1, 2, 3, 4, 12, 13, 14, 15, 22]
def FL : List (Nat × Nat × Nat) := [(0, 7, 5), (0, 13, 6), (0, 16, 7), (0, 19, 8), (0, 22, 9), (0, 25, 10), (0, 28, 11), (0, 31, 16), (0, 34, 17), (0, 37, 18), (0, 40, 19), (0, 43, 20), (0, 46, 21), (0, 49, 0), (0, 57, 3), (0, 66, 4), (0, 69, 12), (0, 73, 13), (0, 76, 14), (0, 79, 15), (0, 82, 22), (0, 85, 1), (0, 88, 2)]
def ML : List (Nat × Nat × Nat) := [(0, 53, 2), (0, 60, 3), (0, 63, 4), (0, 91, 5), (0, 95, 6), (0, 99, 7), (0, 103, 8), (1, 9, 1), (1, 12, 34), (1, 16, 29), (1, 19, 32), (1, 22, 9), (1, 26, 31), (1, 30, 10)]
def KI : List (Nat × Nat × Int) := []
def KJ : List (Nat × Nat × Int) := []
def ATL : List FieldType := [.int]
def cn (j : Nat) : String := if j = 0 then "PedigreeCheck" else "PedigreeCheckL1"
def own (m : Nat) : Nat := if m < 100 then 0 else 1
def ini (m : Nat) : Bool := m == 1
def rowsOf (m : Nat) : List Jvm.JX.Row := if m < 100 then prows.getD m [] else lrows.getD (m - 100) []
theorem hFL : ∀ t ∈ FL, t.2.2 ∈ FS ∧ Jvm.Cond.fieldLink (cn t.1) t.2.1 "PedigreeCheck" (fn t.2.2).1 (fn t.2.2).2 ∈ tables_1 := (faS ⟨by decide, (List.mem_of_getElem? (i := 10) rfl)⟩ (faS ⟨by decide, (List.mem_of_getElem? (i := 12) rfl)⟩ (faS ⟨by decide, (List.mem_of_getElem? (i := 14) rfl)⟩ (faS ⟨by decide, (List.mem_of_getElem? (i := 16) rfl)⟩ (faS ⟨by decide, (List.mem_of_getElem? (i := 18) rfl)⟩ (faS ⟨by decide, (List.mem_of_getElem? (i := 20) rfl)⟩ (faS ⟨by decide, (List.mem_of_getElem? (i := 22) rfl)⟩ (faS ⟨by decide, (List.mem_of_getElem? (i := 24) rfl)⟩ (faS ⟨by decide, (List.mem_of_getElem? (i := 26) rfl)⟩ (faS ⟨by decide, (List.mem_of_getElem? (i := 28) rfl)⟩ (faS ⟨by decide, (List.mem_of_getElem? (i := 30) rfl)⟩ (faS ⟨by decide, (List.mem_of_getElem? (i := 32) rfl)⟩ (faS ⟨by decide, (List.mem_of_getElem? (i := 34) rfl)⟩ (faS ⟨by decide, (List.mem_of_getElem? (i := 36) rfl)⟩ (faS ⟨by decide, (List.mem_of_getElem? (i := 42) rfl)⟩ (faS ⟨by decide, (List.mem_of_getElem? (i := 64) rfl)⟩ (faS ⟨by decide, (List.mem_of_getElem? (i := 66) rfl)⟩ (faS ⟨by decide, (List.mem_of_getElem? (i := 68) rfl)⟩ (faS ⟨by decide, (List.mem_of_getElem? (i := 70) rfl)⟩ (faS ⟨by decide, (List.mem_of_getElem? (i := 72) rfl)⟩ (faS ⟨by decide, (List.mem_of_getElem? (i := 74) rfl)⟩ (faS ⟨by decide, (List.mem_of_getElem? (i := 48) rfl)⟩ (faS ⟨by decide, (List.mem_of_getElem? (i := 50) rfl)⟩ fa0)))))))))))))))))))))))
theorem hWF : ∀ k ∈ WF, Jvm.Cond.lays "PedigreeCheck" "PedigreeCheck" (fn k).1 (fn k).2 ∈ tables_1 := (faS (List.mem_of_getElem? (i := 37) rfl) (faS (List.mem_of_getElem? (i := 49) rfl) (faS (List.mem_of_getElem? (i := 51) rfl) (faS (List.mem_of_getElem? (i := 43) rfl) (faS (List.mem_of_getElem? (i := 65) rfl) (faS (List.mem_of_getElem? (i := 67) rfl) (faS (List.mem_of_getElem? (i := 69) rfl) (faS (List.mem_of_getElem? (i := 71) rfl) (faS (List.mem_of_getElem? (i := 73) rfl) (faS (List.mem_of_getElem? (i := 75) rfl) fa0))))))))))
theorem hML : ∀ t ∈ ML, t.2.2 ∈ RL ∧ Jvm.Cond.methodLink (cn t.1) t.2.1 (nm t.2.2) ∈ tables_1 := (faS ⟨by decide, (List.mem_of_getElem? (i := 38) rfl)⟩ (faS ⟨by decide, (List.mem_of_getElem? (i := 44) rfl)⟩ (faS ⟨by decide, (List.mem_of_getElem? (i := 52) rfl)⟩ (faS ⟨by decide, (List.mem_of_getElem? (i := 56) rfl)⟩ (faS ⟨by decide, (List.mem_of_getElem? (i := 60) rfl)⟩ (faS ⟨by decide, (List.mem_of_getElem? (i := 106) rfl)⟩ (faS ⟨by decide, (List.mem_of_getElem? (i := 110) rfl)⟩ (faS ⟨by decide, (List.mem_of_getElem? (i := 3) rfl)⟩ (faS ⟨by decide, (List.mem_of_getElem? (i := 76) rfl)⟩ (faS ⟨by decide, (List.mem_of_getElem? (i := 81) rfl)⟩ (faS ⟨by decide, (List.mem_of_getElem? (i := 86) rfl)⟩ (faS ⟨by decide, (List.mem_of_getElem? (i := 91) rfl)⟩ (faS ⟨by decide, (List.mem_of_getElem? (i := 96) rfl)⟩ (faS ⟨by decide, (List.mem_of_getElem? (i := 101) rfl)⟩ fa0))))))))))))))
theorem hKI : ∀ t ∈ KI, Jvm.Cond.constant (cn t.1) t.2.1 (Int32.ofInt t.2.2) ∈ tables_1 := fa0
theorem hKJ : ∀ t ∈ KJ, Jvm.Cond.constantLong (cn t.1) t.2.1 (Int64.ofInt t.2.2) ∈ tables_1 := fa0
theorem hAT : ∀ t ∈ ATL, Jvm.Cond.arrayClass t ∈ tables_1 := (faS (List.mem_of_getElem? (i := 9) rfl) fa0)
theorem hrows : RL.all (fun m => (rowsOf m).all (rowOne FL ML KI KJ ATL WF 23 7 bt own ini m)) = true := by decide +kernel
theorem cal1 : CalOk (pj lw) tables_1 "PedigreeCheck" nm bt 1 := ⟨(List.mem_of_getElem? (i := 5) rfl), (List.mem_of_getElem? (i := 2) rfl), ⟨[.int, .int], none, by decide +kernel, rfl⟩, fun h => absurd h (by decide), fun _ => ⟨rfl, (List.mem_of_getElem? (i := 4) rfl)⟩, fun h => absurd h (by decide), fun h => absurd h (by decide), fun _ => ⟨rfl, rfl⟩⟩
theorem cal2 : CalOk (pj lw) tables_1 "PedigreeCheck" nm bt 2 := ⟨(List.mem_of_getElem? (i := 41) rfl), (List.mem_of_getElem? (i := 2) rfl), ⟨[.int], some .int, by decide +kernel, rfl⟩, fun h => absurd h (by decide), fun _ => ⟨rfl, (List.mem_of_getElem? (i := 39) rfl)⟩, fun h => absurd h (by decide), fun _ => (List.mem_of_getElem? (i := 40) rfl), fun h => absurd h (by decide)⟩
theorem cal3 : CalOk (pj lw) tables_1 "PedigreeCheck" nm bt 3 := ⟨(List.mem_of_getElem? (i := 47) rfl), (List.mem_of_getElem? (i := 2) rfl), ⟨[], none, by decide +kernel, rfl⟩, fun h => absurd h (by decide), fun _ => ⟨rfl, (List.mem_of_getElem? (i := 45) rfl)⟩, fun h => absurd h (by decide), fun _ => (List.mem_of_getElem? (i := 46) rfl), fun h => absurd h (by decide)⟩
theorem cal4 : CalOk (pj lw) tables_1 "PedigreeCheck" nm bt 4 := ⟨(List.mem_of_getElem? (i := 55) rfl), (List.mem_of_getElem? (i := 2) rfl), ⟨[], none, by decide +kernel, rfl⟩, fun h => absurd h (by decide), fun _ => ⟨rfl, (List.mem_of_getElem? (i := 53) rfl)⟩, fun h => absurd h (by decide), fun _ => (List.mem_of_getElem? (i := 54) rfl), fun h => absurd h (by decide)⟩
theorem cal5 : CalOk (pj lw) tables_1 "PedigreeCheck" nm bt 5 := ⟨(List.mem_of_getElem? (i := 59) rfl), (List.mem_of_getElem? (i := 2) rfl), ⟨[.int, .int], some .int, by decide +kernel, rfl⟩, fun h => absurd h (by decide), fun _ => ⟨rfl, (List.mem_of_getElem? (i := 57) rfl)⟩, fun h => absurd h (by decide), fun _ => (List.mem_of_getElem? (i := 58) rfl), fun h => absurd h (by decide)⟩
theorem cal6 : CalOk (pj lw) tables_1 "PedigreeCheck" nm bt 6 := ⟨(List.mem_of_getElem? (i := 63) rfl), (List.mem_of_getElem? (i := 2) rfl), ⟨[.int, .int, .int], some .boolean, by decide +kernel, rfl⟩, fun h => absurd h (by decide), fun _ => ⟨rfl, (List.mem_of_getElem? (i := 61) rfl)⟩, fun h => absurd h (by decide), fun _ => (List.mem_of_getElem? (i := 62) rfl), fun h => absurd h (by decide)⟩
theorem cal7 : CalOk (pj lw) tables_1 "PedigreeCheck" nm bt 7 := ⟨(List.mem_of_getElem? (i := 109) rfl), (List.mem_of_getElem? (i := 2) rfl), ⟨[.int], some .boolean, by decide +kernel, rfl⟩, fun h => absurd h (by decide), fun _ => ⟨rfl, (List.mem_of_getElem? (i := 107) rfl)⟩, fun h => absurd h (by decide), fun _ => (List.mem_of_getElem? (i := 108) rfl), fun h => absurd h (by decide)⟩
theorem cal8 : CalOk (pj lw) tables_1 "PedigreeCheck" nm bt 8 := ⟨(List.mem_of_getElem? (i := 113) rfl), (List.mem_of_getElem? (i := 2) rfl), ⟨[.int], some .boolean, by decide +kernel, rfl⟩, fun h => absurd h (by decide), fun _ => ⟨rfl, (List.mem_of_getElem? (i := 111) rfl)⟩, fun h => absurd h (by decide), fun _ => (List.mem_of_getElem? (i := 112) rfl), fun h => absurd h (by decide)⟩
theorem cal9 : CalOk (pj lw) tables_1 "PedigreeCheck" nm bt 9 := ⟨(List.mem_of_getElem? (i := 95) rfl), (List.mem_of_getElem? (i := 2) rfl), ⟨[.int, .int, .int], some .int, by decide +kernel, rfl⟩, fun h => absurd h (by decide), fun _ => ⟨rfl, (List.mem_of_getElem? (i := 93) rfl)⟩, fun _ => ⟨(List.mem_of_getElem? (i := 92) rfl), (List.mem_of_getElem? (i := 94) rfl)⟩, fun h => absurd h (by decide), fun h => absurd h (by decide)⟩
theorem cal10 : CalOk (pj lw) tables_1 "PedigreeCheck" nm bt 10 := ⟨(List.mem_of_getElem? (i := 105) rfl), (List.mem_of_getElem? (i := 2) rfl), ⟨[.int, .int, .int], some .int, by decide +kernel, rfl⟩, fun h => absurd h (by decide), fun _ => ⟨rfl, (List.mem_of_getElem? (i := 103) rfl)⟩, fun _ => ⟨(List.mem_of_getElem? (i := 102) rfl), (List.mem_of_getElem? (i := 104) rfl)⟩, fun h => absurd h (by decide), fun h => absurd h (by decide)⟩
theorem cal29 : CalOk (pj lw) tables_1 "PedigreeCheck" nm bt 29 := ⟨(List.mem_of_getElem? (i := 85) rfl), (List.mem_of_getElem? (i := 2) rfl), ⟨[], some .int, by decide +kernel, rfl⟩, fun h => absurd h (by decide), fun _ => ⟨rfl, (List.mem_of_getElem? (i := 83) rfl)⟩, fun _ => ⟨(List.mem_of_getElem? (i := 82) rfl), (List.mem_of_getElem? (i := 84) rfl)⟩, fun h => absurd h (by decide), fun h => absurd h (by decide)⟩
theorem cal31 : CalOk (pj lw) tables_1 "PedigreeCheck" nm bt 31 := ⟨(List.mem_of_getElem? (i := 100) rfl), (List.mem_of_getElem? (i := 2) rfl), ⟨[.int], some .int, by decide +kernel, rfl⟩, fun h => absurd h (by decide), fun _ => ⟨rfl, (List.mem_of_getElem? (i := 98) rfl)⟩, fun _ => ⟨(List.mem_of_getElem? (i := 97) rfl), (List.mem_of_getElem? (i := 99) rfl)⟩, fun h => absurd h (by decide), fun h => absurd h (by decide)⟩
theorem cal32 : CalOk (pj lw) tables_1 "PedigreeCheck" nm bt 32 := ⟨(List.mem_of_getElem? (i := 90) rfl), (List.mem_of_getElem? (i := 2) rfl), ⟨[], some .int, by decide +kernel, rfl⟩, fun h => absurd h (by decide), fun _ => ⟨rfl, (List.mem_of_getElem? (i := 88) rfl)⟩, fun _ => ⟨(List.mem_of_getElem? (i := 87) rfl), (List.mem_of_getElem? (i := 89) rfl)⟩, fun h => absurd h (by decide), fun h => absurd h (by decide)⟩
theorem cal34 : CalOk (pj lw) tables_1 "PedigreeCheck" nm bt 34 := ⟨(List.mem_of_getElem? (i := 80) rfl), (List.mem_of_getElem? (i := 2) rfl), ⟨[], some .int, by decide +kernel, rfl⟩, fun h => absurd h (by decide), fun _ => ⟨rfl, (List.mem_of_getElem? (i := 78) rfl)⟩, fun _ => ⟨(List.mem_of_getElem? (i := 77) rfl), (List.mem_of_getElem? (i := 79) rfl)⟩, fun h => absurd h (by decide), fun h => absurd h (by decide)⟩
theorem hcal : ∀ m ∈ RL, m ≠ 100 → CalOk (pj lw) tables_1 "PedigreeCheck" nm bt m := (faS (fun _ => cal1) (faS (fun _ => cal2) (faS (fun _ => cal3) (faS (fun _ => cal4) (faS (fun _ => cal5) (faS (fun _ => cal6) (faS (fun _ => cal7) (faS (fun _ => cal8) (faS (fun _ => cal9) (faS (fun _ => cal10) (faS (fun _ => cal29) (faS (fun _ => cal31) (faS (fun _ => cal32) (faS (fun _ => cal34) (faS (fun h => absurd rfl h) fa0)))))))))))))))
theorem hfld : ∀ k ∈ FS, parseFieldDescriptor (fn k).2 = some ((pj lw).2.2.1 k) ∧ (Jvm.Cond.lays "PedigreeCheck" "PedigreeCheck" (fn k).1 (fn k).2 ∈ tables_1 ∨ Jvm.Cond.laysFinal "PedigreeCheck" "PedigreeCheck" (fn k).1 (fn k).2 ∈ tables_1) := (faS ⟨by decide +kernel, Or.inl (List.mem_of_getElem? (i := 37) rfl)⟩ (faS ⟨by decide +kernel, Or.inl (List.mem_of_getElem? (i := 49) rfl)⟩ (faS ⟨by decide +kernel, Or.inl (List.mem_of_getElem? (i := 51) rfl)⟩ (faS ⟨by decide +kernel, Or.inl (List.mem_of_getElem? (i := 43) rfl)⟩ (faS ⟨by decide +kernel, Or.inl (List.mem_of_getElem? (i := 65) rfl)⟩ (faS ⟨by decide +kernel, Or.inr (List.mem_of_getElem? (i := 11) rfl)⟩ (faS ⟨by decide +kernel, Or.inr (List.mem_of_getElem? (i := 13) rfl)⟩ (faS ⟨by decide +kernel, Or.inr (List.mem_of_getElem? (i := 15) rfl)⟩ (faS ⟨by decide +kernel, Or.inr (List.mem_of_getElem? (i := 17) rfl)⟩ (faS ⟨by decide +kernel, Or.inr (List.mem_of_getElem? (i := 19) rfl)⟩ (faS ⟨by decide +kernel, Or.inr (List.mem_of_getElem? (i := 21) rfl)⟩ (faS ⟨by decide +kernel, Or.inr (List.mem_of_getElem? (i := 23) rfl)⟩ (faS ⟨by decide +kernel, Or.inl (List.mem_of_getElem? (i := 67) rfl)⟩ (faS ⟨by decide +kernel, Or.inl (List.mem_of_getElem? (i := 69) rfl)⟩ (faS ⟨by decide +kernel, Or.inl (List.mem_of_getElem? (i := 71) rfl)⟩ (faS ⟨by decide +kernel, Or.inl (List.mem_of_getElem? (i := 73) rfl)⟩ (faS ⟨by decide +kernel, Or.inr (List.mem_of_getElem? (i := 25) rfl)⟩ (faS ⟨by decide +kernel, Or.inr (List.mem_of_getElem? (i := 27) rfl)⟩ (faS ⟨by decide +kernel, Or.inr (List.mem_of_getElem? (i := 29) rfl)⟩ (faS ⟨by decide +kernel, Or.inr (List.mem_of_getElem? (i := 31) rfl)⟩ (faS ⟨by decide +kernel, Or.inr (List.mem_of_getElem? (i := 33) rfl)⟩ (faS ⟨by decide +kernel, Or.inr (List.mem_of_getElem? (i := 35) rfl)⟩ (faS ⟨by decide +kernel, Or.inl (List.mem_of_getElem? (i := 75) rfl)⟩ fa0)))))))))))))))))))))))
theorem good : Good (pj lw) tables_1 "PedigreeCheck" fn FS 23 nm bt RL 100 := by
  refine ⟨(List.mem_of_getElem? (i := 1) rfl), (List.mem_of_getElem? (i := 2) rfl), hfld, by decide +kernel, fun m hm => ?_, hcal, fun m _ pc ins len aux _ _ => by cases ins <;> rfl⟩
  have hpl : plainName "PedigreeCheck" = true ∧ plainName "PedigreeCheckL1" = true := ⟨by first | (simp [plainName, overriddenIn]; done) | decide +kernel, by first | (simp [plainName, overriddenIn]; done) | decide +kernel⟩
  have hcn : ∀ m ∈ RL, (nm m).cls = cn (own m) := by decide +kernel
  have hin : ∀ m ∈ RL, ini m = true → (nm m).cls = "PedigreeCheck" ∧ (nm m).name = "<init>" := by decide +kernel
  have hor : (nm m).cls = "PedigreeCheck" ∨ (nm m).cls = "PedigreeCheckL1" := by rw [hcn m hm]; unfold cn; split <;> simp
  refine ⟨by rcases hor with h | h <;> rw [h] <;> simp [hpl], by rcases hor with h | h <;> rw [h] <;> decide, fun pc ins len aux h => ?_⟩
  have hmem : (pc, ins, len, aux) ∈ rowsOf m := by
    unfold rowsOf
    by_cases g : m < 100
    · rw [if_pos g]; exact lookup_mem (by simpa [pj, g] using h)
    · rw [if_neg g]; exact lookup_mem (by simpa [pj, lw, g] using h)
  have hrow := List.all_eq_true.mp (List.all_eq_true.mp hrows m hm) _ hmem
  simp only [rowOne, Bool.and_eq_true, decide_eq_true_eq] at hrow
  exact ⟨hrow.1.1, hrow.1.2, row_ok (hcn m hm) (hin m hm) hFL hWF hML hKI hKJ hAT (List.mem_of_getElem? (i := 0) rfl) ⟨(List.mem_of_getElem? (i := 6) rfl), (List.mem_of_getElem? (i := 7) rfl), (List.mem_of_getElem? (i := 8) rfl)⟩ hrow.2⟩
set_option maxRecDepth 65536 in
set_option maxHeartbeats 40000000 in
theorem comes_1 {Post : Tables → Env → Array Value → State → Outcome → State → Prop} (hpost : ∀ tb e args s v u, (limb_1_1.after args s (.returned v) u = true ∧ limb_1_2.after args s (.returned v) u = true ∧ True) → FrameEnd s (.returned v) u (Jvm.fieldLocs frame_1_writes args s ++ Jvm.arrayLocs frame_1_arrays args s ++ Jvm.staticLocs frame_1_statics s) 40 1024 → Post tb e args s (.returned v) u) :
    ArmFor flags0 classFile x code maxLocals ret World_1 tables_1 room_1 Calls_1 rest_1 Pre_1 Post := by
  intro l hfl _ _ p e ha hc hk s m args below hf hA hF happ hP
  obtain ⟨hcalls, hrest, hpre⟩ := hP
  obtain ⟨-, -, -, hnamed, -, -, -, hat⟩ := (Spec.applies_iff hf).mp happ
  obtain ⟨hg, hn⟩ := and_e (Cond.before_iff.mp (show (Jvm.Cond.and given_1 narrow_1).before args s = true from hpre))
  have hw := fun d (hd : d ∈ tables_1) => atoms_spec (ws := Jvm.Cond.code x code maxLocals ret :: tables_1) hat d (List.mem_cons_of_mem _ hd)
  obtain ⟨g0, r0⟩ := and_e hg
  obtain ⟨w0, w1, w2, rfl⟩ : ∃ w0 w1 w2 : Value, args = #[w0, w1, w2] := by
    have hs : args.size = 3 := by simpa [Cond.value, given_1] using g0
    obtain ⟨L⟩ := args
    match L, hs with
    | [w0, w1, w2], _ => exact ⟨w0, w1, w2, rfl⟩
  obtain ⟨g1, r1⟩ := and_e r0
  obtain ⟨g2, r2⟩ := and_e r1
  have g3 := r2
  obtain ⟨i0, e0⟩ := is_v g1
  obtain rfl : w0 = (.int i0) := Option.some.inj e0
  obtain ⟨i1, e1⟩ := is_v g2
  obtain rfl : w1 = (.int i1) := Option.some.inj e1
  obtain ⟨i2, e2⟩ := is_v g3
  obtain rfl : w2 = (.int i2) := Option.some.inj e2
  obtain ⟨n, o, h1, h2, h3, _, L, rfl, ⟨N, H2, rfl⟩, hq⟩ := law_met (l := l) (Z := s) (a0 := _) (n0 := s.heap.size) good hw (as := [.int i0, .int i1, .int i2]) (h := s.heap) tables_1 (by decide) (by simp [Sym.laidSlots, Value.category]; decide) (rel_H0 s.heap) (law_ok i0 i1 i2 s.heap.size) p e ha hc hk s m _ below hf ((Spec.applies_iff_loose hf).mp happ).1 ⟨rfl, State.Warmed39.refl s, rfl⟩ trivial
  exact ⟨n, _, h1, h2, h3, hpost _ _ _ _ _ _ ⟨Cond.after_iff.mpr rfl, Cond.after_iff.mpr (eq_i res_at (Term.int_eval (1)) rfl), trivial⟩ ⟨hq.1, hq.2.1, (hq.2.2.sift fun y hy => Or.inr (N y hy)).mono (by decide) (by decide)⟩⟩
theorem main_1_1 : Claimed_1_1 := comes_1 fun _ _ _ _ _ _ h hF => ⟨h.1, hF⟩
theorem main_1_2 : Claimed_1_2 := comes_1 fun _ _ _ _ _ _ h hF => ⟨h.2.1, hF⟩
end Jvm.Pilot.@@N@@
namespace Jvm.Pilot.@@N@@
open Jvm Jvm.ClassFile Sem Op Lib Jvm.Free Jvm.Stand Jvm.Pilot.@@N@@.Jvm.D
/-! MADE BY PROGRAM (witnessworld.py) out of the Statement's table words and the real class files: 9 classes; the members and pool entries that the words name. The judged class is class 1, her method 1. -/
namespace start1
open Jvm.ClassFile
def u (s : String) : CpInfo := .utf8 (stringToUtf16 s)
/-- a pool by its gaps: so many unusable entries, then the entry; so many at the end -/
def gap : Nat → List CpInfo → List CpInfo
  | 0, r => r
  | n + 1, r => .unusable :: gap n r
def poolList (es : List (Nat × CpInfo)) (last : Nat) : List CpInfo := es.foldr (fun e r => gap e.1 (e.2 :: r)) (gap last [])
def pool (es : List (Nat × CpInfo)) (last : Nat) : Array CpInfo := ⟨poolList es last⟩
def fileOf (pool : Array CpInfo) (this : Nat) (attrs : Array Attribute := #[]) (ms : Array MethodInfo := #[]) (fl : Nat := 33) (sup : Nat := 0) (ifs : Array Nat := #[]) (fds : Array FieldInfo := #[]) : ClassFile where
  minorVersion := 0
  majorVersion := 65
  constantPool := pool
  accessFlags := fl
  thisClass := this
  superClass := sup
  interfaces := ifs
  fields := fds
  methods := ms
  attributes := attrs
def plain (name : String) (sup : Option ClassId) : Class where
  name := name
  kind := .ordinary
  loader := none
  accessFlags := 33
  super := sup
  interfaces := #[]
  cf := none
  fields := #[]
  methods := #[]
  instanceTypes := #[]
  staticTypes := #[]
  resolved := #[]
  callSites := []
  init := .initialized
  statics := none
  mirror := none

def pool0 : Array CpInfo := pool [(5, u "<init>"), (0, u "()V"), (1, .class_ 10), (1, u "java/lang/Object")] 113

def k0c0 : Code := { maxStack := 0, maxLocals := 1, code := object_method_1_code, exceptionTable := #[], attributes := #[] }
def k0m0 : Method := { name := "<init>", desc := "()V", sig := { parameters := [], returnType := none }, accessFlags := 1, code := some k0c0 }
/-- java/lang/Object -/
def k0 : Class := { plain "java/lang/Object" none with
  accessFlags := 33
  interfaces := #[]
  cf := some (fileOf pool0 8 #[] #[{ accessFlags := 1, nameIndex := 5, descriptorIndex := 6, attributes := #[] }] 33 0 #[] #[])
  fields := #[]
  methods := #[k0m0]
  instanceTypes := #[]
  staticTypes := #[]
  resolved := Array.replicate 124 none
  statics := none }

def pool1 : Array CpInfo := pool [(2, .class_ 4), (1, u "java/lang/Object"), (0, u "<init>"), (0, u "()V"), (0, .class_ 8), (0, u "PedigreeCheck"), (0, .methodref 7 10), (0, .nameAndType 5 11), (0, u "(II)V"), (0, .methodref 7 13), (0, .nameAndType 14 15), (0, u "individualCount"), (0, u "()I"), (0, .methodref 7 17), (0, .nameAndType 18 15), (0, u "status"), (0, .methodref 7 20), (0, .nameAndType 21 15), (0, u "conflictFamily"), (0, .methodref 7 23), (0, .nameAndType 24 25), (0, u "addIndividual"), (0, u "(III)I"), (0, .methodref 7 27), (0, .nameAndType 28 29), (0, u "candidateCount"), (0, u "(I)I"), (0, .methodref 7 31), (0, .nameAndType 32 25), (0, u "observe"), (0, .class_ 34), (0, u "PedigreeCheckL1"), (2, u "law"), (0, u "(III)Z")] 3

def k1m0 : Method := { name := "<init>", desc := "()V", sig := { parameters := [], returnType := none }, accessFlags := 1, code := none }
def k1c1 : Code := { maxStack := 4, maxLocals := 6, code := code, exceptionTable := #[], attributes := #[] }
def k1m1 : Method := { name := "law", desc := "(III)Z", sig := { parameters := [.int, .int, .int], returnType := some .boolean }, accessFlags := 9, code := some k1c1 }
/-- PedigreeCheckL1 -/
def k1 : Class := { plain "PedigreeCheckL1" (some 0) with
  accessFlags := 33
  interfaces := #[]
  cf := some (fileOf pool1 33 #[] #[{ accessFlags := 1, nameIndex := 5, descriptorIndex := 6, attributes := #[] }, { accessFlags := 9, nameIndex := 37, descriptorIndex := 38, attributes := #[] }] 33 2 #[] #[])
  fields := #[]
  methods := #[k1m0, k1m1]
  instanceTypes := #[]
  staticTypes := #[]
  resolved := Array.replicate 42 none
  statics := none }

def pool2 : Array CpInfo := pool [(1, .methodref 2 3), (0, .class_ 4), (0, .nameAndType 5 6), (0, u "java/lang/Object"), (0, u "<init>"), (0, u "()V"), (0, .fieldref 8 9), (0, .class_ 10), (0, .nameAndType 11 12), (0, u "PedigreeCheck"), (0, u "sexOf"), (0, u "[I"), (0, .fieldref 8 14), (0, .nameAndType 15 12), (0, u "fatherOf"), (0, .fieldref 8 17), (0, .nameAndType 18 12), (0, u "motherOf"), (0, .fieldref 8 20), (0, .nameAndType 21 12), (0, u "obsG"), (0, .fieldref 8 23), (0, .nameAndType 24 12), (0, u "dropP"), (0, .fieldref 8 26), (0, .nameAndType 27 12), (0, u "dropM"), (0, .fieldref 8 29), (0, .nameAndType 30 12), (0, u "cand"), (0, .fieldref 8 32), (0, .nameAndType 33 12), (0, u "genoA"), (0, .fieldref 8 35), (0, .nameAndType 36 12), (0, u "genoB"), (0, .fieldref 8 38), (0, .nameAndType 39 12), (0, u "genoIndex"), (0, .fieldref 8 41), (0, .nameAndType 42 12), (0, u "kidMask"), (0, .fieldref 8 44), (0, .nameAndType 45 12), (0, u "kidBuf"), (0, .fieldref 8 47), (0, .nameAndType 48 12), (0, u "newKid"), (0, .fieldref 8 50), (0, .nameAndType 51 52), (0, u "alleleCount"), (0, u "I"), (0, .methodref 8 54), (0, .nameAndType 55 56), (0, u "clampSeed"), (0, u "(I)I"), (0, .fieldref 8 58), (0, .nameAndType 59 52), (0, u "gen"), (0, .methodref 8 61), (0, .nameAndType 62 6), (0, u "buildGenotypes"), (0, .methodref 8 64), (0, .nameAndType 65 6), (0, u "buildKidMasks"), (0, .fieldref 8 67), (0, .nameAndType 68 52), (0, u "n"), (0, .fieldref 8 70), (0, .nameAndType 71 72), (0, u "dropValid"), (0, u "Z"), (0, .fieldref 8 74), (0, .nameAndType 75 72), (0, u "candValid"), (0, .fieldref 8 77), (0, .nameAndType 78 52), (0, u "lastStatus"), (0, .fieldref 8 80), (0, .nameAndType 81 52), (0, u "conflict"), (0, .fieldref 8 83), (0, .nameAndType 84 52), (0, u "kidCount"), (0, .fieldref 8 86), (0, .nameAndType 87 52), (0, u "genoCount"), (0, .fieldref 8 89), (0, .nameAndType 90 52), (0, u "fullMask"), (0, .methodref 8 92), (0, .nameAndType 93 94), (0, u "childMaskFor"), (0, u "(II)I"), (0, .methodref 8 96), (0, .nameAndType 97 98), (0, u "compatible"), (0, u "(III)Z"), (0, .methodref 8 100), (0, .nameAndType 101 102), (0, u "validId"), (0, u "(I)Z"), (0, .methodref 8 104), (0, .nameAndType 105 102), (0, u "validAllele"), (4, u "()I"), (36, u "MAX_INDIVIDUALS"), (2, u "MALE"), (1, u "FEMALE"), (1, u "OK"), (1, u "ERR_FULL"), (1, u "ERR_ARG"), (1, u "ERR_NO_PARENT"), (1, u "ERR_SEX"), (1, u "ERR_NO_ID"), (1, u "ERR_ALLELE"), (1, u "ERR_NO_DROP"), (1, u "NOT_EVALUATED"), (0, u "CONSISTENT"), (0, u "INCONSISTENT"), (0, u "MAX_ROUNDS"), (1, u "(II)V"), (3, u "addIndividual"), (0, u "(III)I"), (0, u "observe"), (7, u "status"), (1, u "candidateCount"), (0, u "conflictFamily"), (1, u "individualCount")] 2

def k2c0 : Code := { maxStack := 3, maxLocals := 4, code := prog_1_method_1_code, exceptionTable := #[], attributes := #[] }
def k2m0 : Method := { name := "<init>", desc := "(II)V", sig := { parameters := [.int, .int], returnType := none }, accessFlags := 1, code := some k2c0 }
def k2c1 : Code := { maxStack := 2, maxLocals := 2, code := prog_1_method_2_code, exceptionTable := #[], attributes := #[] }
def k2m1 : Method := { name := "clampSeed", desc := "(I)I", sig := { parameters := [.int], returnType := some .int }, accessFlags := 2, code := some k2c1 }
def k2c2 : Code := { maxStack := 3, maxLocals := 4, code := prog_1_method_3_code, exceptionTable := #[], attributes := #[] }
def k2m2 : Method := { name := "buildGenotypes", desc := "()V", sig := { parameters := [], returnType := none }, accessFlags := 2, code := some k2c2 }
def k2c3 : Code := { maxStack := 5, maxLocals := 3, code := prog_1_method_4_code, exceptionTable := #[], attributes := #[] }
def k2m3 : Method := { name := "buildKidMasks", desc := "()V", sig := { parameters := [], returnType := none }, accessFlags := 2, code := some k2c3 }
def k2c4 : Code := { maxStack := 4, maxLocals := 5, code := prog_1_method_5_code, exceptionTable := #[], attributes := #[] }
def k2m4 : Method := { name := "childMaskFor", desc := "(II)I", sig := { parameters := [.int, .int], returnType := some .int }, accessFlags := 2, code := some k2c4 }
def k2c5 : Code := { maxStack := 2, maxLocals := 14, code := prog_1_method_6_code, exceptionTable := #[], attributes := #[] }
def k2m5 : Method := { name := "compatible", desc := "(III)Z", sig := { parameters := [.int, .int, .int], returnType := some .boolean }, accessFlags := 2, code := some k2c5 }
def k2c6 : Code := { maxStack := 2, maxLocals := 2, code := prog_1_method_7_code, exceptionTable := #[], attributes := #[] }
def k2m6 : Method := { name := "validId", desc := "(I)Z", sig := { parameters := [.int], returnType := some .boolean }, accessFlags := 2, code := some k2c6 }
def k2c7 : Code := { maxStack := 2, maxLocals := 2, code := prog_1_method_8_code, exceptionTable := #[], attributes := #[] }
def k2m7 : Method := { name := "validAllele", desc := "(I)Z", sig := { parameters := [.int], returnType := some .boolean }, accessFlags := 2, code := some k2c7 }
def k2c8 : Code := { maxStack := 3, maxLocals := 4, code := prog_1_method_9_code, exceptionTable := #[], attributes := #[] }
def k2m8 : Method := { name := "addIndividual", desc := "(III)I", sig := { parameters := [.int, .int, .int], returnType := some .int }, accessFlags := 1, code := some k2c8 }
def k2c9 : Code := { maxStack := 5, maxLocals := 4, code := prog_1_method_10_code, exceptionTable := #[], attributes := #[] }
def k2m9 : Method := { name := "observe", desc := "(III)I", sig := { parameters := [.int, .int, .int], returnType := some .int }, accessFlags := 1, code := some k2c9 }
def k2c10 : Code := { maxStack := 1, maxLocals := 1, code := prog_1_method_29_code, exceptionTable := #[], attributes := #[] }
def k2m10 : Method := { name := "status", desc := "()I", sig := { parameters := [], returnType := some .int }, accessFlags := 1, code := some k2c10 }
def k2c11 : Code := { maxStack := 2, maxLocals := 5, code := prog_1_method_31_code, exceptionTable := #[], attributes := #[] }
def k2m11 : Method := { name := "candidateCount", desc := "(I)I", sig := { parameters := [.int], returnType := some .int }, accessFlags := 1, code := some k2c11 }
def k2c12 : Code := { maxStack := 1, maxLocals := 1, code := prog_1_method_32_code, exceptionTable := #[], attributes := #[] }
def k2m12 : Method := { name := "conflictFamily", desc := "()I", sig := { parameters := [], returnType := some .int }, accessFlags := 1, code := some k2c12 }
def k2c13 : Code := { maxStack := 1, maxLocals := 1, code := prog_1_method_34_code, exceptionTable := #[], attributes := #[] }
def k2m13 : Method := { name := "individualCount", desc := "()I", sig := { parameters := [], returnType := some .int }, accessFlags := 1, code := some k2c13 }
/-- PedigreeCheck -/
def k2 : Class := { plain "PedigreeCheck" (some 0) with
  accessFlags := 49
  interfaces := #[]
  cf := some (fileOf pool2 8 #[] #[{ accessFlags := 1, nameIndex := 5, descriptorIndex := 175, attributes := #[] }, { accessFlags := 2, nameIndex := 55, descriptorIndex := 56, attributes := #[] }, { accessFlags := 2, nameIndex := 62, descriptorIndex := 6, attributes := #[] }, { accessFlags := 2, nameIndex := 65, descriptorIndex := 6, attributes := #[] }, { accessFlags := 2, nameIndex := 93, descriptorIndex := 94, attributes := #[] }, { accessFlags := 2, nameIndex := 97, descriptorIndex := 98, attributes := #[] }, { accessFlags := 2, nameIndex := 101, descriptorIndex := 102, attributes := #[] }, { accessFlags := 2, nameIndex := 105, descriptorIndex := 102, attributes := #[] }, { accessFlags := 1, nameIndex := 179, descriptorIndex := 180, attributes := #[] }, { accessFlags := 1, nameIndex := 181, descriptorIndex := 180, attributes := #[] }, { accessFlags := 1, nameIndex := 189, descriptorIndex := 110, attributes := #[] }, { accessFlags := 1, nameIndex := 191, descriptorIndex := 56, attributes := #[] }, { accessFlags := 1, nameIndex := 192, descriptorIndex := 110, attributes := #[] }, { accessFlags := 1, nameIndex := 194, descriptorIndex := 110, attributes := #[] }] 49 2 #[] #[{ accessFlags := 25, nameIndex := 147, descriptorIndex := 52, attributes := #[] }, { accessFlags := 25, nameIndex := 150, descriptorIndex := 52, attributes := #[] }, { accessFlags := 25, nameIndex := 152, descriptorIndex := 52, attributes := #[] }, { accessFlags := 25, nameIndex := 154, descriptorIndex := 52, attributes := #[] }, { accessFlags := 25, nameIndex := 156, descriptorIndex := 52, attributes := #[] }, { accessFlags := 25, nameIndex := 158, descriptorIndex := 52, attributes := #[] }, { accessFlags := 25, nameIndex := 160, descriptorIndex := 52, attributes := #[] }, { accessFlags := 25, nameIndex := 162, descriptorIndex := 52, attributes := #[] }, { accessFlags := 25, nameIndex := 164, descriptorIndex := 52, attributes := #[] }, { accessFlags := 25, nameIndex := 166, descriptorIndex := 52, attributes := #[] }, { accessFlags := 25, nameIndex := 168, descriptorIndex := 52, attributes := #[] }, { accessFlags := 25, nameIndex := 170, descriptorIndex := 52, attributes := #[] }, { accessFlags := 25, nameIndex := 171, descriptorIndex := 52, attributes := #[] }, { accessFlags := 25, nameIndex := 172, descriptorIndex := 52, attributes := #[] }, { accessFlags := 26, nameIndex := 173, descriptorIndex := 52, attributes := #[] }, { accessFlags := 2, nameIndex := 51, descriptorIndex := 52, attributes := #[] }, { accessFlags := 2, nameIndex := 87, descriptorIndex := 52, attributes := #[] }, { accessFlags := 2, nameIndex := 90, descriptorIndex := 52, attributes := #[] }, { accessFlags := 2, nameIndex := 59, descriptorIndex := 52, attributes := #[] }, { accessFlags := 2, nameIndex := 68, descriptorIndex := 52, attributes := #[] }, { accessFlags := 18, nameIndex := 11, descriptorIndex := 12, attributes := #[] }, { accessFlags := 18, nameIndex := 15, descriptorIndex := 12, attributes := #[] }, { accessFlags := 18, nameIndex := 18, descriptorIndex := 12, attributes := #[] }, { accessFlags := 18, nameIndex := 21, descriptorIndex := 12, attributes := #[] }, { accessFlags := 18, nameIndex := 24, descriptorIndex := 12, attributes := #[] }, { accessFlags := 18, nameIndex := 27, descriptorIndex := 12, attributes := #[] }, { accessFlags := 18, nameIndex := 30, descriptorIndex := 12, attributes := #[] }, { accessFlags := 2, nameIndex := 71, descriptorIndex := 72, attributes := #[] }, { accessFlags := 2, nameIndex := 75, descriptorIndex := 72, attributes := #[] }, { accessFlags := 2, nameIndex := 78, descriptorIndex := 52, attributes := #[] }, { accessFlags := 2, nameIndex := 81, descriptorIndex := 52, attributes := #[] }, { accessFlags := 18, nameIndex := 33, descriptorIndex := 12, attributes := #[] }, { accessFlags := 18, nameIndex := 36, descriptorIndex := 12, attributes := #[] }, { accessFlags := 18, nameIndex := 39, descriptorIndex := 12, attributes := #[] }, { accessFlags := 18, nameIndex := 42, descriptorIndex := 12, attributes := #[] }, { accessFlags := 18, nameIndex := 45, descriptorIndex := 12, attributes := #[] }, { accessFlags := 18, nameIndex := 48, descriptorIndex := 12, attributes := #[] }, { accessFlags := 2, nameIndex := 84, descriptorIndex := 52, attributes := #[] }])
  fields := #[{ name := "MAX_INDIVIDUALS", type := .int, accessFlags := 25, slot := 0, constantValue := 0 }, { name := "MALE", type := .int, accessFlags := 25, slot := 1, constantValue := 0 }, { name := "FEMALE", type := .int, accessFlags := 25, slot := 2, constantValue := 0 }, { name := "OK", type := .int, accessFlags := 25, slot := 3, constantValue := 0 }, { name := "ERR_FULL", type := .int, accessFlags := 25, slot := 4, constantValue := 0 }, { name := "ERR_ARG", type := .int, accessFlags := 25, slot := 5, constantValue := 0 }, { name := "ERR_NO_PARENT", type := .int, accessFlags := 25, slot := 6, constantValue := 0 }, { name := "ERR_SEX", type := .int, accessFlags := 25, slot := 7, constantValue := 0 }, { name := "ERR_NO_ID", type := .int, accessFlags := 25, slot := 8, constantValue := 0 }, { name := "ERR_ALLELE", type := .int, accessFlags := 25, slot := 9, constantValue := 0 }, { name := "ERR_NO_DROP", type := .int, accessFlags := 25, slot := 10, constantValue := 0 }, { name := "NOT_EVALUATED", type := .int, accessFlags := 25, slot := 11, constantValue := 0 }, { name := "CONSISTENT", type := .int, accessFlags := 25, slot := 12, constantValue := 0 }, { name := "INCONSISTENT", type := .int, accessFlags := 25, slot := 13, constantValue := 0 }, { name := "MAX_ROUNDS", type := .int, accessFlags := 26, slot := 14, constantValue := 0 }, { name := "alleleCount", type := .int, accessFlags := 2, slot := 0, constantValue := 0 }, { name := "genoCount", type := .int, accessFlags := 2, slot := 1, constantValue := 0 }, { name := "fullMask", type := .int, accessFlags := 2, slot := 2, constantValue := 0 }, { name := "gen", type := .int, accessFlags := 2, slot := 3, constantValue := 0 }, { name := "n", type := .int, accessFlags := 2, slot := 4, constantValue := 0 }, { name := "sexOf", type := (.array .int), accessFlags := 18, slot := 5, constantValue := 0 }, { name := "fatherOf", type := (.array .int), accessFlags := 18, slot := 6, constantValue := 0 }, { name := "motherOf", type := (.array .int), accessFlags := 18, slot := 7, constantValue := 0 }, { name := "obsG", type := (.array .int), accessFlags := 18, slot := 8, constantValue := 0 }, { name := "dropP", type := (.array .int), accessFlags := 18, slot := 9, constantValue := 0 }, { name := "dropM", type := (.array .int), accessFlags := 18, slot := 10, constantValue := 0 }, { name := "cand", type := (.array .int), accessFlags := 18, slot := 11, constantValue := 0 }, { name := "dropValid", type := .boolean, accessFlags := 2, slot := 12, constantValue := 0 }, { name := "candValid", type := .boolean, accessFlags := 2, slot := 13, constantValue := 0 }, { name := "lastStatus", type := .int, accessFlags := 2, slot := 14, constantValue := 0 }, { name := "conflict", type := .int, accessFlags := 2, slot := 15, constantValue := 0 }, { name := "genoA", type := (.array .int), accessFlags := 18, slot := 16, constantValue := 0 }, { name := "genoB", type := (.array .int), accessFlags := 18, slot := 17, constantValue := 0 }, { name := "genoIndex", type := (.array .int), accessFlags := 18, slot := 18, constantValue := 0 }, { name := "kidMask", type := (.array .int), accessFlags := 18, slot := 19, constantValue := 0 }, { name := "kidBuf", type := (.array .int), accessFlags := 18, slot := 20, constantValue := 0 }, { name := "newKid", type := (.array .int), accessFlags := 18, slot := 21, constantValue := 0 }, { name := "kidCount", type := .int, accessFlags := 2, slot := 22, constantValue := 0 }]
  methods := #[k2m0, k2m1, k2m2, k2m3, k2m4, k2m5, k2m6, k2m7, k2m8, k2m9, k2m10, k2m11, k2m12, k2m13]
  instanceTypes := #[.int, .int, .int, .int, .int, (.array .int), (.array .int), (.array .int), (.array .int), (.array .int), (.array .int), (.array .int), .boolean, .boolean, .int, .int, (.array .int), (.array .int), (.array .int), (.array .int), (.array .int), (.array .int), .int]
  staticTypes := #[.int, .int, .int, .int, .int, .int, .int, .int, .int, .int, .int, .int, .int, .int, .int]
  resolved := Array.replicate 197 none
  statics := none }

def pool3 : Array CpInfo := pool [(1, u "java/lang/Cloneable"), (0, .class_ 1), (0, u "java/lang/Object"), (0, .class_ 3)] 3

/-- java/lang/Cloneable -/
def k3 : Class := { plain "java/lang/Cloneable" (some 0) with
  accessFlags := 1537
  interfaces := #[]
  cf := some (fileOf pool3 2 #[] #[] 1537 4 #[] #[])
  fields := #[]
  methods := #[]
  instanceTypes := #[]
  staticTypes := #[]
  resolved := Array.replicate 8 none
  statics := none }

def pool4 : Array CpInfo := pool [(1, u "java/io/Serializable"), (0, .class_ 1), (0, u "java/lang/Object"), (0, .class_ 3)] 3

/-- java/io/Serializable -/
def k4 : Class := { plain "java/io/Serializable" (some 0) with
  accessFlags := 1537
  interfaces := #[]
  cf := some (fileOf pool4 2 #[] #[] 1537 4 #[] #[])
  fields := #[]
  methods := #[]
  instanceTypes := #[]
  staticTypes := #[]
  resolved := Array.replicate 8 none
  statics := none }

/-- the primitive byte -/
def k5 : Class := { plain "byte" none with kind := .primitive 'B', accessFlags := 0x411 }
/-- [B -/
def k6 : Class := { plain "[B" (some 0) with kind := .array 5 .byte, interfaces := #[3, 4], accessFlags := 1041 }

/-- the primitive int -/
def k7 : Class := { plain "int" none with kind := .primitive 'I', accessFlags := 0x411 }
/-- [I -/
def k8 : Class := { plain "[I" (some 0) with kind := .array 7 .int, interfaces := #[3, 4], accessFlags := 1041 }

def heap : Heap := #[]
def classes : Array Class := #[k0, k1, k2, k3, k4, k5, k6, k7, k8]
def interned : List (Array UInt16 × Addr) := []
def slotsUsed : Nat := 0
def theMethod : MethodId := ⟨1, 1⟩
def args0 : Array Value := #[.int 3, .int 7, .int 1]
def aboutOver (below : List Frame) : State where
  vm := { classes := classes, interned := interned.toArray }
  heap := heap
  slotsUsed := slotsUsed
  threads := #[{ frames := .invoking theMethod args0 :: below }]
def below0 : List Frame := [.native { method := ⟨0, 0⟩, args := #[] }]
def about1 : State := aboutOver below0
def p0 : Program := .bare "" "" ""
def e0 : Env := launch0.env 0 0 0
theorem w_frames : about1.frames = Frame.invoking theMethod args0 :: below0 := rfl
set_option maxRecDepth 65536 in
theorem w_args : argsFit about1.vm theMethod args0 = true := by decide +kernel
set_option maxRecDepth 65536 in
theorem w_heap : heapFits about1 = true := by decide +kernel
set_option maxRecDepth 65536 in
theorem w_runnable : about1.curStatus? = some .runnable := by decide +kernel
set_option maxRecDepth 65536 in
theorem w_alone : about1.alone = true := by decide +kernel
set_option maxRecDepth 65536 in
theorem w_named : about1.methodNamed? x = some theMethod := by decide +kernel
set_option maxRecDepth 65536 in
theorem w_hears : about1.hears theMethod below0 = true := by decide +kernel
set_option maxRecDepth 65536 in
theorem w_ripe : about1.ripe theMethod args0 below0 = true := by decide +kernel
theorem w_running : about1.status = .running := rfl
set_option maxRecDepth 65536 in
theorem w_room : about1.hasRoom e0.platform room_1 = true :=
  launch0.hasRoom_least _ room_1 (by decide +kernel) (by decide +kernel) (by decide +kernel) (by decide +kernel) (by decide +kernel) (by decide +kernel)
theorem allAtoms_all (ts : List Jvm.Cond) (a : Array Jvm.Value) (st : Jvm.State) : (allAtoms ts).before a st = ts.all (fun c => c.before a st) := by
  induction ts with
  | nil => rfl
  | cons c t ih =>
    show (Jvm.Cond.and c (allAtoms t)).before a st = _
    rw [Jvm.Cond.before_and, ih, List.all_cons]
def words1 : List Jvm.Cond := Jvm.Cond.code x code maxLocals ret :: tables_1
/-- a 'code' word, met by the world's own term for the bytes: nothing is compared byte by byte -/
theorem code_word {y : MethodName} {bytes : ByteArray} {mx : Nat} {rt : Option FieldType} {a : Array Value} {s : State} {m : MethodId} {meth : Method} {c : Code} (h1 : s.methodNamed? y = some m) (h2 : s.vm.method? m = some meth) (h3 : meth.code = some c) (h4 : c.code = bytes)
    (h5 : (c.maxLocals == mx && c.exceptionTable.isEmpty && decide (c.maxStack ≤ mostOperands) && decide (meth.sig.returnType = rt) && !meth.locks && decide (parseMethodDescriptor y.desc = some meth.sig)) = true) : (Jvm.Cond.code y bytes mx rt).before a s = true := by
  simp only [Bool.and_eq_true, beq_iff_eq, Bool.not_eq_true', decide_eq_true_eq] at h5
  obtain ⟨⟨⟨⟨⟨g1, g2⟩, g3⟩, g4⟩, g5⟩, g6⟩ := h5
  simp [Cond.before, Cond.holds, Cond.value, h1, h2, h3, h4, g1, g2, g3, g4, g5, g6]
def isCode : Jvm.Cond → Bool
  | .code _ _ _ _ => true
  | _ => false
theorem all_split {L : List Jvm.Cond} {P : Jvm.Cond → Bool} (h1 : L.all (fun c => isCode c || P c) = true) (h2 : ∀ c ∈ L.filter isCode, P c = true) : L.all P = true := by
  refine List.all_eq_true.mpr fun c hc => ?_
  have h := List.all_eq_true.mp h1 c hc
  rcases Bool.eq_false_or_eq_true (isCode c) with hi | hi
  · exact h2 c (List.mem_filter.mpr ⟨hc, hi⟩)
  · simpa [hi] using h
set_option maxRecDepth 65536 in
theorem w_c0 : (Jvm.Cond.code x code maxLocals ret).before args0 about1 = true := code_word (m := ⟨1, 1⟩) (meth := k1m1) (c := k1c1) (by decide +kernel) rfl rfl rfl (by decide +kernel)
set_option maxRecDepth 65536 in
theorem w_c1 : (Jvm.Cond.code ({ cls := "PedigreeCheck", name := "<init>", desc := "(II)V" } : Jvm.MethodName) prog_1_method_1_code (4 : Nat) (Option.none : Option Jvm.ClassFile.FieldType)).before args0 about1 = true := code_word (m := ⟨2, 0⟩) (meth := k2m0) (c := k2c0) (by decide +kernel) rfl rfl rfl (by decide +kernel)
set_option maxRecDepth 65536 in
theorem w_c2 : (Jvm.Cond.code ({ cls := "java/lang/Object", name := "<init>", desc := "()V" } : Jvm.MethodName) object_method_1_code (1 : Nat) (Option.none : Option Jvm.ClassFile.FieldType)).before args0 about1 = true := code_word (m := ⟨0, 0⟩) (meth := k0m0) (c := k0c0) (by decide +kernel) rfl rfl rfl (by decide +kernel)
set_option maxRecDepth 65536 in
theorem w_c3 : (Jvm.Cond.code ({ cls := "PedigreeCheck", name := "clampSeed", desc := "(I)I" } : Jvm.MethodName) prog_1_method_2_code (2 : Nat) (Option.some Jvm.ClassFile.FieldType.int)).before args0 about1 = true := code_word (m := ⟨2, 1⟩) (meth := k2m1) (c := k2c1) (by decide +kernel) rfl rfl rfl (by decide +kernel)
set_option maxRecDepth 65536 in
theorem w_c4 : (Jvm.Cond.code ({ cls := "PedigreeCheck", name := "buildGenotypes", desc := "()V" } : Jvm.MethodName) prog_1_method_3_code (4 : Nat) (Option.none : Option Jvm.ClassFile.FieldType)).before args0 about1 = true := code_word (m := ⟨2, 2⟩) (meth := k2m2) (c := k2c2) (by decide +kernel) rfl rfl rfl (by decide +kernel)
set_option maxRecDepth 65536 in
theorem w_c5 : (Jvm.Cond.code ({ cls := "PedigreeCheck", name := "buildKidMasks", desc := "()V" } : Jvm.MethodName) prog_1_method_4_code (3 : Nat) (Option.none : Option Jvm.ClassFile.FieldType)).before args0 about1 = true := code_word (m := ⟨2, 3⟩) (meth := k2m3) (c := k2c3) (by decide +kernel) rfl rfl rfl (by decide +kernel)
set_option maxRecDepth 65536 in
theorem w_c6 : (Jvm.Cond.code ({ cls := "PedigreeCheck", name := "childMaskFor", desc := "(II)I" } : Jvm.MethodName) prog_1_method_5_code (5 : Nat) (Option.some Jvm.ClassFile.FieldType.int)).before args0 about1 = true := code_word (m := ⟨2, 4⟩) (meth := k2m4) (c := k2c4) (by decide +kernel) rfl rfl rfl (by decide +kernel)
set_option maxRecDepth 65536 in
theorem w_c7 : (Jvm.Cond.code ({ cls := "PedigreeCheck", name := "compatible", desc := "(III)Z" } : Jvm.MethodName) prog_1_method_6_code (14 : Nat) (Option.some Jvm.ClassFile.FieldType.boolean)).before args0 about1 = true := code_word (m := ⟨2, 5⟩) (meth := k2m5) (c := k2c5) (by decide +kernel) rfl rfl rfl (by decide +kernel)
set_option maxRecDepth 65536 in
theorem w_c8 : (Jvm.Cond.code ({ cls := "PedigreeCheck", name := "individualCount", desc := "()I" } : Jvm.MethodName) prog_1_method_34_code (1 : Nat) (Option.some Jvm.ClassFile.FieldType.int)).before args0 about1 = true := code_word (m := ⟨2, 13⟩) (meth := k2m13) (c := k2c13) (by decide +kernel) rfl rfl rfl (by decide +kernel)
set_option maxRecDepth 65536 in
theorem w_c9 : (Jvm.Cond.code ({ cls := "PedigreeCheck", name := "status", desc := "()I" } : Jvm.MethodName) prog_1_method_29_code (1 : Nat) (Option.some Jvm.ClassFile.FieldType.int)).before args0 about1 = true := code_word (m := ⟨2, 10⟩) (meth := k2m10) (c := k2c10) (by decide +kernel) rfl rfl rfl (by decide +kernel)
set_option maxRecDepth 65536 in
theorem w_c10 : (Jvm.Cond.code ({ cls := "PedigreeCheck", name := "conflictFamily", desc := "()I" } : Jvm.MethodName) prog_1_method_32_code (1 : Nat) (Option.some Jvm.ClassFile.FieldType.int)).before args0 about1 = true := code_word (m := ⟨2, 12⟩) (meth := k2m12) (c := k2c12) (by decide +kernel) rfl rfl rfl (by decide +kernel)
set_option maxRecDepth 65536 in
theorem w_c11 : (Jvm.Cond.code ({ cls := "PedigreeCheck", name := "addIndividual", desc := "(III)I" } : Jvm.MethodName) prog_1_method_9_code (4 : Nat) (Option.some Jvm.ClassFile.FieldType.int)).before args0 about1 = true := code_word (m := ⟨2, 8⟩) (meth := k2m8) (c := k2c8) (by decide +kernel) rfl rfl rfl (by decide +kernel)
set_option maxRecDepth 65536 in
theorem w_c12 : (Jvm.Cond.code ({ cls := "PedigreeCheck", name := "candidateCount", desc := "(I)I" } : Jvm.MethodName) prog_1_method_31_code (5 : Nat) (Option.some Jvm.ClassFile.FieldType.int)).before args0 about1 = true := code_word (m := ⟨2, 11⟩) (meth := k2m11) (c := k2c11) (by decide +kernel) rfl rfl rfl (by decide +kernel)
set_option maxRecDepth 65536 in
theorem w_c13 : (Jvm.Cond.code ({ cls := "PedigreeCheck", name := "observe", desc := "(III)I" } : Jvm.MethodName) prog_1_method_10_code (4 : Nat) (Option.some Jvm.ClassFile.FieldType.int)).before args0 about1 = true := code_word (m := ⟨2, 9⟩) (meth := k2m9) (c := k2c9) (by decide +kernel) rfl rfl rfl (by decide +kernel)
set_option maxRecDepth 65536 in
theorem w_c14 : (Jvm.Cond.code ({ cls := "PedigreeCheck", name := "validId", desc := "(I)Z" } : Jvm.MethodName) prog_1_method_7_code (2 : Nat) (Option.some Jvm.ClassFile.FieldType.boolean)).before args0 about1 = true := code_word (m := ⟨2, 6⟩) (meth := k2m6) (c := k2c6) (by decide +kernel) rfl rfl rfl (by decide +kernel)
set_option maxRecDepth 65536 in
theorem w_c15 : (Jvm.Cond.code ({ cls := "PedigreeCheck", name := "validAllele", desc := "(I)Z" } : Jvm.MethodName) prog_1_method_8_code (2 : Nat) (Option.some Jvm.ClassFile.FieldType.boolean)).before args0 about1 = true := code_word (m := ⟨2, 7⟩) (meth := k2m7) (c := k2c7) (by decide +kernel) rfl rfl rfl (by decide +kernel)
def codes1 : List Jvm.Cond := [Jvm.Cond.code x code maxLocals ret, Jvm.Cond.code ({ cls := "PedigreeCheck", name := "<init>", desc := "(II)V" } : Jvm.MethodName) prog_1_method_1_code (4 : Nat) (Option.none : Option Jvm.ClassFile.FieldType), Jvm.Cond.code ({ cls := "java/lang/Object", name := "<init>", desc := "()V" } : Jvm.MethodName) object_method_1_code (1 : Nat) (Option.none : Option Jvm.ClassFile.FieldType), Jvm.Cond.code ({ cls := "PedigreeCheck", name := "clampSeed", desc := "(I)I" } : Jvm.MethodName) prog_1_method_2_code (2 : Nat) (Option.some Jvm.ClassFile.FieldType.int), Jvm.Cond.code ({ cls := "PedigreeCheck", name := "buildGenotypes", desc := "()V" } : Jvm.MethodName) prog_1_method_3_code (4 : Nat) (Option.none : Option Jvm.ClassFile.FieldType), Jvm.Cond.code ({ cls := "PedigreeCheck", name := "buildKidMasks", desc := "()V" } : Jvm.MethodName) prog_1_method_4_code (3 : Nat) (Option.none : Option Jvm.ClassFile.FieldType), Jvm.Cond.code ({ cls := "PedigreeCheck", name := "childMaskFor", desc := "(II)I" } : Jvm.MethodName) prog_1_method_5_code (5 : Nat) (Option.some Jvm.ClassFile.FieldType.int), Jvm.Cond.code ({ cls := "PedigreeCheck", name := "compatible", desc := "(III)Z" } : Jvm.MethodName) prog_1_method_6_code (14 : Nat) (Option.some Jvm.ClassFile.FieldType.boolean), Jvm.Cond.code ({ cls := "PedigreeCheck", name := "individualCount", desc := "()I" } : Jvm.MethodName) prog_1_method_34_code (1 : Nat) (Option.some Jvm.ClassFile.FieldType.int), Jvm.Cond.code ({ cls := "PedigreeCheck", name := "status", desc := "()I" } : Jvm.MethodName) prog_1_method_29_code (1 : Nat) (Option.some Jvm.ClassFile.FieldType.int), Jvm.Cond.code ({ cls := "PedigreeCheck", name := "conflictFamily", desc := "()I" } : Jvm.MethodName) prog_1_method_32_code (1 : Nat) (Option.some Jvm.ClassFile.FieldType.int), Jvm.Cond.code ({ cls := "PedigreeCheck", name := "addIndividual", desc := "(III)I" } : Jvm.MethodName) prog_1_method_9_code (4 : Nat) (Option.some Jvm.ClassFile.FieldType.int), Jvm.Cond.code ({ cls := "PedigreeCheck", name := "candidateCount", desc := "(I)I" } : Jvm.MethodName) prog_1_method_31_code (5 : Nat) (Option.some Jvm.ClassFile.FieldType.int), Jvm.Cond.code ({ cls := "PedigreeCheck", name := "observe", desc := "(III)I" } : Jvm.MethodName) prog_1_method_10_code (4 : Nat) (Option.some Jvm.ClassFile.FieldType.int), Jvm.Cond.code ({ cls := "PedigreeCheck", name := "validId", desc := "(I)Z" } : Jvm.MethodName) prog_1_method_7_code (2 : Nat) (Option.some Jvm.ClassFile.FieldType.boolean), Jvm.Cond.code ({ cls := "PedigreeCheck", name := "validAllele", desc := "(I)Z" } : Jvm.MethodName) prog_1_method_8_code (2 : Nat) (Option.some Jvm.ClassFile.FieldType.boolean)]
set_option maxRecDepth 65536 in
theorem codes_eq : words1.filter isCode = codes1 := rfl
theorem w_codes : ∀ c ∈ words1.filter isCode, c.before args0 about1 = true := by
  rw [codes_eq]
  intro c hc
  simp only [codes1, List.mem_cons, List.not_mem_nil, or_false] at hc
  rcases hc with rfl | rfl | rfl | rfl | rfl | rfl | rfl | rfl | rfl | rfl | rfl | rfl | rfl | rfl | rfl | rfl
  · exact w_c0
  · exact w_c1
  · exact w_c2
  · exact w_c3
  · exact w_c4
  · exact w_c5
  · exact w_c6
  · exact w_c7
  · exact w_c8
  · exact w_c9
  · exact w_c10
  · exact w_c11
  · exact w_c12
  · exact w_c13
  · exact w_c14
  · exact w_c15
set_option maxRecDepth 65536 in
theorem w_t1 : (words1.take 24).all (fun c => isCode c || c.before args0 about1) = true := by decide +kernel
set_option maxRecDepth 65536 in
theorem w_t2 : ((words1.drop 24).take 24).all (fun c => isCode c || c.before args0 about1) = true := by decide +kernel
set_option maxRecDepth 65536 in
theorem w_t3 : (((words1.drop 24).drop 24).take 24).all (fun c => isCode c || c.before args0 about1) = true := by decide +kernel
set_option maxRecDepth 65536 in
theorem w_t4 : ((((words1.drop 24).drop 24).drop 24).take 24).all (fun c => isCode c || c.before args0 about1) = true := by decide +kernel
set_option maxRecDepth 65536 in
theorem w_t5 : ((((words1.drop 24).drop 24).drop 24).drop 24).all (fun c => isCode c || c.before args0 about1) = true := by decide +kernel
theorem w_tables : (allAtoms (Jvm.Cond.code x code maxLocals ret :: tables_1)).before args0 about1 = true := by
  rw [allAtoms_all]
  show words1.all (fun c => c.before args0 about1) = true
  refine all_split ?_ w_codes
  rw [← List.take_append_drop 24 words1, List.all_append, w_t1, ← List.take_append_drop 24 (words1.drop 24), List.all_append, w_t2, ← List.take_append_drop 24 ((words1.drop 24).drop 24), List.all_append, w_t3, ← List.take_append_drop 24 (((words1.drop 24).drop 24).drop 24), List.all_append, w_t4, w_t5]
  rfl
set_option maxRecDepth 65536 in
theorem w_case : (Jvm.Cond.and given_1 narrow_1).before args0 about1 = true := by decide +kernel
theorem w_applies : (headSpec (Jvm.Cond.code x code maxLocals ret :: tables_1) room_1).applies x e0.platform about1 = true :=
  (Spec.applies_iff w_frames).mpr ⟨w_running, w_runnable, w_alone, w_named, w_hears, w_ripe, w_room, w_tables⟩
theorem atStart : AtStart classFile x code maxLocals ret World_1 tables_1 room_1 Calls_1 rest_1 Pre_1 launch0 p0 e0 about1 theMethod args0 below0 :=
  ⟨lists_1, trivial, launch0.admits_env _ _ _, launch0.least_env, fairChoices_fair.cas, fairChoices_fair.clock, w_frames, w_args, w_heap, w_applies, trivial, trivial, w_case⟩
end start1
theorem witness_1 : WitnessClaimed_1 := ⟨start1.p0, start1.e0, start1.about1, start1.theMethod, start1.args0, start1.below0, start1.atStart⟩
end Jvm.Pilot.@@N@@
