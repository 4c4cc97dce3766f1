import JvmDerived
import JvmDerived.Pilot.@@N@@Statement
import JvmDerived.Pilot.@@N@@Code
set_option linter.unusedVariables false
set_option linter.unusedSimpArgs false
set_option maxRecDepth 20000
namespace Jvm.JX
open Sem ClassFile Op Lib
abbrev Cel : Type := FieldType × Nat × Bool × (Nat → Value)
abbrev AH : Type := Nat × (Nat → Cel)
abbrev MInfo : Type := Nat × Nat × Nat × Option FieldType × Jvm.Room
abbrev Prog : Type := (Nat → Nat → Option (Instr × Nat × Int)) × (Nat → MInfo) × (Nat → FieldType) × Nat
abbrev Fm : Type := Nat × List Slot × List Value × Nat × Nat × AH
def na (P : Prog) (m : Nat) : Nat := (P.2.1 m).1
def ml (P : Prog) (m : Nat) : Nat := (P.2.1 m).2.1
def kd (P : Prog) (m : Nat) : Nat := (P.2.1 m).2.2.1
def rt (P : Prog) (m : Nat) : Option FieldType := (P.2.1 m).2.2.2.1
def rm (P : Prog) (m : Nat) : Jvm.Room := (P.2.1 m).2.2.2.2
def isO (H : AH) (a : Nat) : Bool := match (H.2 a).1 with | .object _ => true | _ => false
def isOw (H : AH) (a : Nat) : Bool := isO H a && (H.2 a).2.2.1
def inA (H : AH) (a : Nat) (t : FieldType) (i : Int32) : Bool := decide ((H.2 a).1 = .array t) && !decide (i < 0) && decide (i.toNatClampNeg < (H.2 a).2.1)
def inAw (H : AH) (a : Nat) (t : FieldType) (i : Int32) : Bool := inA H a t i && (H.2 a).2.2.1
def isA (H : AH) (a : Nat) : Bool := match (H.2 a).1 with | .array _ => true | _ => false
def elt (H : AH) (a : Nat) (i : Int32) : Value := (H.2 a).2.2.2 i.toNatClampNeg
def fld (H : AH) (a k : Nat) : Value := (H.2 a).2.2.2 k
def alen (H : AH) (a : Nat) : Nat := (H.2 a).2.1
def wr (H : AH) (a j : Nat) (v : Value) : AH := (H.1, fun b => if b = a then ((H.2 a).1, (H.2 a).2.1, (H.2 a).2.2.1, fun i => if i = j then v else (H.2 a).2.2.2 i) else H.2 b)
def okv : FieldType → Value → Bool
  | .int, .int _ => true
  | .boolean, .int z => z == 0 || z == 1
  | .byte, .int z => z.toInt8.toInt32 == z
  | .long, .long _ => true
  | .array _, .ref _ => true
  | _, _ => false
def mkO (P : Prog) (H : AH) : AH := (H.1 + 1, fun b => if b = H.1 then (.object "", P.2.2.2, true, fun k => defaultValue (P.2.2.1 k)) else H.2 b)
def mkA (t : FieldType) (n : Nat) (H : AH) : AH := (H.1 + 1, fun b => if b = H.1 then (.array t, n, true, fun _ => defaultValue t) else H.2 b)
def cat1 : Slot → Bool | .unset => true | .val v => v.category == 1 | .second => false
def cs (S : List Value) : Nat := (S.map fun v => v.category).sum
def stl (L : List Slot) (i : Nat) (v : Value) : Option (List Slot) :=
  match L[i]? with
  | some .unset => some (L.set i (.val v))
  | some (.val w) => if w.category = 1 then some (L.set i (.val v)) else if i + 1 < L.length then some ((L.set (i + 1) .unset).set i (.val v)) else none
  | some .second => if 1 ≤ i then some ((L.set (i - 1) .unset).set i (.val v)) else none
  | none => none
def stL (L : List Slot) (i : Nat) (v : Value) : Option (List Slot) :=
  match L[i]?, L[i + 1]? with
  | some (.val w), some o2 => if w.category = 2 then some ((L.set i (.val v)).set (i + 1) .second) else if cat1 o2 = true then some ((L.set i (.val v)).set (i + 1) .second) else none
  | some .unset, some o2 => if cat1 o2 = true then some ((L.set i (.val v)).set (i + 1) .second) else none
  | _, _ => none
def ent (P : Prog) (m : Nat) (a : List Value) : List Slot := Sym.laidSlots a ++ List.replicate (ml P m - (Sym.laidSlots a).length) .unset
def ilen : Instr → Nat
  | .bipush _ | .iload _ | .istore _ | .aload _ | .astore _ | .lload _ | .lstore _ | .newarray _ | .ldc _ => 2
  | .sipush _ | .getfield _ | .putfield _ | .new _ | .invokevirtual _ | .invokestatic _ | .invokespecial _ | .ldc2_w _ | .goto _ | .ifCond _ _ | .if_icmp _ _ | .iinc _ _ => 3
  | _ => 1
def ldI (L : List Slot) (i : Nat) : Option Value := match L[i]? with | some (.val (.int x)) => some (.int x) | _ => none
def ldJ (L : List Slot) (i : Nat) : Option Value := match L[i]? with | some (.val (.long x)) => some (.long x) | _ => none
def ldR (L : List Slot) (i : Nat) : Option Value := match L[i]? with | some (.val (.ref x)) => some (.ref x) | _ => none
def jmp (pc : Nat) (o : Int) : Option Nat := if 0 ≤ (pc : Int) + o then some ((pc : Int) + o).toNat else none
def ret (P : Prog) (m : Nat) (ins : Instr) (S : List Value) : Option (Option Value) :=
  match ins with
  | .return_ => if rt P m = none ∧ S = [] then some none else none
  | .ireturn => match S, rt P m with
    | .int z :: _, some .int => some (some (.int z))
    | .int z :: _, some .boolean => if z = 0 ∨ z = 1 then some (some (.int z)) else none
    | _, _ => none
  | .lreturn => match S, rt P m with
    | .long z :: _, some .long => some (some (.long z))
    | _, _ => none
  | _ => none
def rcv (H : AH) : List Value → Bool | .ref a :: _ => isO H a | _ => false
def may (P : Prog) (m m' : Nat) (a r : List Value) (k n : Nat) (H : AH) : Bool :=
  decide ((Sym.laidSlots a).length ≤ ml P m') && decide (a.length = na P m') && decide ((rm P m').frames + 1 ≤ (rm P m).frames) && decide (cs r + (ml P m' + 11) + (rm P m').locals ≤ (rm P m).locals)
    && (decide ((rm P m').cells = 0 ∧ (rm P m').slots = 0) || decide (k + (rm P m').cells ≤ (rm P m).cells ∧ n + (rm P m').slots ≤ (rm P m).slots))
    && (decide (kd P m' = 0) || rcv H a)
def kindOk : Instr → Nat → Bool
  | .invokevirtual _, k => k == 1 || k == 2
  | .invokestatic _, k => k == 0
  | .invokespecial _, k => k == 3
  | _, _ => false
def cal1 (P : Prog) (m : Nat) (ins : Instr) (aux : Int) (S : List Value) (k n : Nat) (H : AH) : Option (Nat × List Value × List Value) :=
  if 0 ≤ aux ∧ kindOk ins (kd P aux.toNat) = true ∧ may P m aux.toNat (S.take (na P aux.toNat)).reverse (S.drop (na P aux.toNat)) k n H = true
  then some (aux.toNat, (S.take (na P aux.toNat)).reverse, S.drop (na P aux.toNat)) else none
def cal (P : Prog) (m : Nat) (ins : Instr) (aux : Int) (S : List Value) (k n : Nat) (H : AH) : Option (Nat × List Value × List Value) :=
  match ins with
  | .invokevirtual _ | .invokestatic _ | .invokespecial _ => cal1 P m ins aux S k n H
  | _ => none
def opI : Instr → Option (Int32 → Int32 → Int32)
  | .iadd => some fun x y => x + y
  | .isub => some fun x y => x - y
  | .imul => some fun x y => x * y
  | .iand => some fun x y => x &&& y
  | .ior => some fun x y => x ||| y
  | .ixor => some fun x y => x ^^^ y
  | .ishl => some fun x y => x <<< (y &&& 31)
  | .ishr => some fun x y => x >>> (y &&& 31)
  | .iushr => some Jvm.Free.XT.ushr
  | _ => none
def opJ : Instr → Option (Int64 → Int64 → Int64)
  | .ladd => some fun x y => x + y
  | .lsub => some fun x y => x - y
  | .lmul => some fun x y => x * y
  | .land => some fun x y => x &&& y
  | .lor => some fun x y => x ||| y
  | .lxor => some fun x y => x ^^^ y
  | _ => none
def opS : Instr → Option (Int64 → Int32 → Int64)
  | .lshl => some fun x y => x <<< (y.toInt64 &&& 63)
  | .lshr => some fun x y => x >>> (y.toInt64 &&& 63)
  | .lushr => some Jvm.Free.XT.ushrL
  | _ => none
def stp (P : Prog) (m : Nat) (ins : Instr) (len : Nat) (aux : Int) (pc : Nat) (L : List Slot) (S : List Value) (k n : Nat) (H : AH) : Option Fm :=
  match ins with
  | .iconst i => some (pc + len, L, .int (Int32.ofInt i) :: S, k, n, H)
  | .bipush i => some (pc + len, L, .int (Int8.ofInt i).toInt32 :: S, k, n, H)
  | .sipush i => some (pc + len, L, .int (Int16.ofInt i).toInt32 :: S, k, n, H)
  | .lconst i => some (pc + len, L, .long (Int64.ofNat i) :: S, k, n, H)
  | .ldc _ => some (pc + len, L, .int (Int32.ofInt aux) :: S, k, n, H)
  | .ldc2_w _ => some (pc + len, L, .long (Int64.ofInt aux) :: S, k, n, H)
  | .iload i => (ldI L i).map fun v => (pc + len, L, v :: S, k, n, H)
  | .iload_n i => (ldI L i.val).map fun v => (pc + len, L, v :: S, k, n, H)
  | .lload i => (ldJ L i).map fun v => (pc + len, L, v :: S, k, n, H)
  | .lload_n i => (ldJ L i.val).map fun v => (pc + len, L, v :: S, k, n, H)
  | .aload i => (ldR L i).map fun v => (pc + len, L, v :: S, k, n, H)
  | .aload_n i => (ldR L i.val).map fun v => (pc + len, L, v :: S, k, n, H)
  | .istore i => match S with | .int x :: S => (stl L i (.int x)).map fun L => (pc + len, L, S, k, n, H) | _ => none
  | .istore_n i => match S with | .int x :: S => (stl L i.val (.int x)).map fun L => (pc + len, L, S, k, n, H) | _ => none
  | .astore i => match S with | .ref x :: S => (stl L i (.ref x)).map fun L => (pc + len, L, S, k, n, H) | _ => none
  | .astore_n i => match S with | .ref x :: S => (stl L i.val (.ref x)).map fun L => (pc + len, L, S, k, n, H) | _ => none
  | .lstore i => match S with | .long x :: S => (stL L i (.long x)).map fun L => (pc + len, L, S, k, n, H) | _ => none
  | .lstore_n i => match S with | .long x :: S => (stL L i.val (.long x)).map fun L => (pc + len, L, S, k, n, H) | _ => none
  | .iinc i c => match L[i]? with | some (.val (.int x)) => some (pc + len, L.set i (.val (.int (x + Int32.ofInt c))), S, k, n, H) | _ => none
  | .iadd | .isub | .imul | .iand | .ior | .ixor | .ishl | .ishr | .iushr => match S with | .int y :: .int x :: S => (opI ins).map fun f => (pc + len, L, .int (f x y) :: S, k, n, H) | _ => none
  | .ladd | .lsub | .lmul | .land | .lor | .lxor => match S with | .long y :: .long x :: S => (opJ ins).map fun f => (pc + len, L, .long (f x y) :: S, k, n, H) | _ => none
  | .lshl | .lshr | .lushr => match S with | .int y :: .long x :: S => (opS ins).map fun f => (pc + len, L, .long (f x y) :: S, k, n, H) | _ => none
  | .idiv => match S with | .int y :: .int x :: S => if y = 0 then none else some (pc + len, L, .int (x / y) :: S, k, n, H) | _ => none
  | .irem => match S with | .int y :: .int x :: S => if y = 0 then none else some (pc + len, L, .int (x % y) :: S, k, n, H) | _ => none
  | .ldiv => match S with | .long y :: .long x :: S => if y = 0 then none else some (pc + len, L, .long (x / y) :: S, k, n, H) | _ => none
  | .lrem => match S with | .long y :: .long x :: S => if y = 0 then none else some (pc + len, L, .long (x % y) :: S, k, n, H) | _ => none
  | .ineg => match S with | .int x :: S => some (pc + len, L, .int (-x) :: S, k, n, H) | _ => none
  | .lneg => match S with | .long x :: S => some (pc + len, L, .long (-x) :: S, k, n, H) | _ => none
  | .i2l => match S with | .int x :: S => some (pc + len, L, .long x.toInt64 :: S, k, n, H) | _ => none
  | .l2i => match S with | .long x :: S => some (pc + len, L, .int x.toInt32 :: S, k, n, H) | _ => none
  | .i2b => match S with | .int x :: S => some (pc + len, L, .int x.toInt8.toInt32 :: S, k, n, H) | _ => none
  | .lcmp => match S with | .long y :: .long x :: S => some (pc + len, L, .int (Jvm.Free.XT.cmpL x y) :: S, k, n, H) | _ => none
  | .dup => match S with | v :: S => if v.category = 1 then some (pc + len, L, v :: v :: S, k, n, H) else none | _ => none
  | .dup2 => match S with
    | .long x :: S => some (pc + len, L, .long x :: .long x :: S, k, n, H)
    | v :: w :: S => if v.category = 1 ∧ w.category = 1 then some (pc + len, L, v :: w :: v :: w :: S, k, n, H) else none
    | _ => none
  | .pop => match S with | v :: S => if v.category = 1 then some (pc + len, L, S, k, n, H) else none | _ => none
  | .goto o => (jmp pc o).map fun q => (q, L, S, k, n, H)
  | .ifCond c o => match S with | .int x :: S => if ifCond.holds c x = true then (jmp pc o).map fun q => (q, L, S, k, n, H) else some (pc + len, L, S, k, n, H) | _ => none
  | .if_icmp c o => match S with | .int y :: .int x :: S => if if_icmp.holds c x y = true then (jmp pc o).map fun q => (q, L, S, k, n, H) else some (pc + len, L, S, k, n, H) | _ => none
  | .tableswitch d lo hi os => match S with
    | .int x :: S => if x.toInt < lo ∨ x.toInt > hi then (jmp pc d).map fun q => (q, L, S, k, n, H) else (os[(x.toInt - lo).toNat]?).bind fun o => (jmp pc o).map fun q => (q, L, S, k, n, H)
    | _ => none
  | .getfield _ => match S with | .ref a :: S => if isO H a = true then some (pc + len, L, fld H a aux.toNat :: S, k, n, H) else none | _ => none
  | .putfield _ => match S with | v :: .ref a :: S => if isOw H a = true ∧ okv (P.2.2.1 aux.toNat) v = true then some (pc + len, L, S, k, n, wr H a aux.toNat v) else none | _ => none
  | .iaload => match S with | .int i :: .ref a :: S => if inA H a .int i = true then some (pc + len, L, elt H a i :: S, k, n, H) else none | _ => none
  | .laload => match S with | .int i :: .ref a :: S => if inA H a .long i = true then some (pc + len, L, elt H a i :: S, k, n, H) else none | _ => none
  | .baload => match S with | .int i :: .ref a :: S => if inA H a .byte i = true ∨ inA H a .boolean i = true then some (pc + len, L, elt H a i :: S, k, n, H) else none | _ => none
  | .iastore => match S with | .int x :: .int i :: .ref a :: S => if inAw H a .int i = true then some (pc + len, L, S, k, n, wr H a i.toNatClampNeg (.int x)) else none | _ => none
  | .lastore => match S with | .long x :: .int i :: .ref a :: S => if inAw H a .long i = true then some (pc + len, L, S, k, n, wr H a i.toNatClampNeg (.long x)) else none | _ => none
  | .bastore => match S with
    | .int x :: .int i :: .ref a :: S => if (inAw H a .byte i = true ∧ okv .byte (.int x) = true) ∨ (inAw H a .boolean i = true ∧ okv .boolean (.int x) = true) then some (pc + len, L, S, k, n, wr H a i.toNatClampNeg (.int x)) else none
    | _ => none
  | .arraylength => match S with | .ref a :: S => if isA H a = true then some (pc + len, L, .int (alen H a).toInt32 :: S, k, n, H) else none | _ => none
  | .newarray t => match S with | .int c :: S => if ¬ c < 0 ∧ c.toNatClampNeg * 8 ≤ 536870912 ∧ k + 1 ≤ (rm P m).cells ∧ n + c.toNatClampNeg ≤ (rm P m).slots then some (pc + len, L, .ref H.1 :: S, k + 1, n + c.toNatClampNeg, mkA (newarray.typeOf t) c.toNatClampNeg H) else none | _ => none
  | .new _ => if 0 ≤ aux ∧ k + 1 ≤ (rm P m).cells ∧ n + aux.toNat ≤ (rm P m).slots then some (pc + len, L, .ref H.1 :: S, k + 1, n + aux.toNat, mkO P H) else none
  | .invokespecial _ => match S with | .ref a :: S => if aux = -1 ∧ 1 ≤ (rm P m).frames ∧ cs S + 12 ≤ (rm P m).locals then some (pc + len, L, S, k, n, H) else none | _ => none
  | _ => none
def run (P : Prog) : Nat → Nat → Nat → List Slot → List Value → Nat → Nat → AH → Option (Option Value × AH)
  | 0, _, _, _, _, _, _, _ => none
  | f + 1, m, pc, L, S, k, n, H =>
    match P.1 m pc with
    | none => none
    | some d =>
      match ret P m d.1 S with
      | some v => some (v, H)
      | none => match cal P m d.1 d.2.2 S k n H with
        | some c => match run P f c.1 0 (ent P c.1 c.2.1) [] 0 0 H with
          | none => none
          | some r => run P f m (pc + d.2.1) L (r.1.toList ++ c.2.2) (k + (rm P c.1).cells) (n + (rm P c.1).slots) r.2
        | none => match stp P m d.1 d.2.1 d.2.2 pc L S k n H with
          | none => none
          | some q => run P f m q.1 q.2.1 q.2.2.1 q.2.2.2.1 q.2.2.2.2.1 q.2.2.2.2.2
end Jvm.JX

namespace Jvm.JX
open Sem ClassFile Op Lib
section
variable {P : Prog}
theorem run_succ (f m pc : Nat) (L : List Slot) (S : List Value) (k n : Nat) (H : AH) : run P (f + 1) m pc L S k n H =
    match P.1 m pc with
    | none => none
    | some d =>
      match ret P m d.1 S with
      | some v => some (v, H)
      | none => match cal P m d.1 d.2.2 S k n H with
        | some c => match run P f c.1 0 (ent P c.1 c.2.1) [] 0 0 H with
          | none => none
          | some r => run P f m (pc + d.2.1) L (r.1.toList ++ c.2.2) (k + (rm P c.1).cells) (n + (rm P c.1).slots) r.2
        | none => match stp P m d.1 d.2.1 d.2.2 pc L S k n H with
          | none => none
          | some q => run P f m q.1 q.2.1 q.2.2.1 q.2.2.2.1 q.2.2.2.2.1 q.2.2.2.2.2 := rfl
theorem run_mono : ∀ (f m pc : Nat) (L : List Slot) (S : List Value) (k n : Nat) (H : AH) (r : Option Value × AH), run P f m pc L S k n H = some r → run P (f + 1) m pc L S k n H = some r := by
  intro f
  induction f with
  | zero => intro m pc L S k n H r h; cases h
  | succ f ih =>
    intro m pc L S k n H r h
    rw [run_succ] at h ⊢
    cases hd : P.1 m pc with
    | none => rw [hd] at h; cases h
    | some d =>
      rw [hd] at h
      simp only at h ⊢
      cases hr : ret P m d.1 S with
      | some v => rw [hr] at h; exact h
      | none =>
        rw [hr] at h
        simp only at h ⊢
        cases hc : cal P m d.1 d.2.2 S k n H with
        | some c =>
          rw [hc] at h
          simp only at h ⊢
          cases hq : run P f c.1 0 (ent P c.1 c.2.1) [] 0 0 H with
          | none => rw [hq] at h; cases h
          | some q =>
            rw [hq] at h
            rw [ih _ _ _ _ _ _ _ _ hq]
            exact ih _ _ _ _ _ _ _ _ h
        | none =>
          rw [hc] at h
          simp only at h ⊢
          cases hs : stp P m d.1 d.2.1 d.2.2 pc L S k n H with
          | none => rw [hs] at h; cases h
          | some q => rw [hs] at h; exact ih _ _ _ _ _ _ _ _ h
theorem run_le {f g : Nat} (hfg : f ≤ g) {m pc : Nat} {L : List Slot} {S : List Value} {k n : Nat} {H : AH} {r : Option Value × AH} (h : run P f m pc L S k n H = some r) : run P g m pc L S k n H = some r := by
  induction hfg with
  | refl => exact h
  | step _ ih => exact run_mono _ _ _ _ _ _ _ _ _ ih
end
def W (P : Prog) (m pc : Nat) (L : List Slot) (S : List Value) (k n : Nat) (H : AH) (Q : Option Value → AH → Prop) : Prop := ∃ f v H', run P f m pc L S k n H = some (v, H') ∧ Q v H'
def Cl (P : Prog) (m : Nat) (a : List Value) (H : AH) (Q : Option Value → AH → Prop) : Prop := W P m 0 (ent P m a) [] 0 0 H Q
section Rules
variable {P : Prog} {m pc : Nat} {L : List Slot} {S : List Value} {k n : Nat} {H : AH} {Q : Option Value → AH → Prop} {ins : Instr} {len : Nat} {aux : Int}
theorem W_r {v : Option Value} (hd : P.1 m pc = some (ins, len, aux)) (hr : ret P m ins S = some v) : W P m pc L S k n H Q ↔ Q v H := by
  constructor
  · rintro ⟨f, v', H', h1, h2⟩
    cases f with
    | zero => cases h1
    | succ f => rw [run_succ, hd] at h1; simp only [hr] at h1; cases h1; exact h2
  · intro h
    refine ⟨1, v, H, ?_, h⟩
    rw [run_succ, hd]; simp only [hr]
theorem W_c {m' : Nat} {a r : List Value} (hd : P.1 m pc = some (ins, len, aux)) (hr : ret P m ins S = none) (hc : cal P m ins aux S k n H = some (m', a, r)) :
    W P m pc L S k n H Q ↔ Cl P m' a H (fun v H' => W P m (pc + len) L (v.toList ++ r) (k + (rm P m').cells) (n + (rm P m').slots) H' Q) := by
  constructor
  · rintro ⟨f, v', H', h1, h2⟩
    cases f with
    | zero => cases h1
    | succ f =>
      rw [run_succ, hd] at h1; simp only [hr, hc] at h1
      cases hq : run P f m' 0 (ent P m' a) [] 0 0 H with
      | none => rw [hq] at h1; cases h1
      | some q => rw [hq] at h1; exact ⟨f, q.1, q.2, hq, f, v', H', h1, h2⟩
  · rintro ⟨f, v, H', h1, g, v', H'', h2, h3⟩
    refine ⟨max f g + 1, v', H'', ?_, h3⟩
    rw [run_succ, hd]; simp only [hr, hc]
    rw [run_le (Nat.le_max_left f g) h1]
    exact run_le (Nat.le_max_right f g) h2
theorem W_q (hd : P.1 m pc = some (ins, len, aux)) (hr : ret P m ins S = none) (hc : cal P m ins aux S k n H = none) :
    W P m pc L S k n H Q ↔ ∃ q, stp P m ins len aux pc L S k n H = some q ∧ W P m q.1 q.2.1 q.2.2.1 q.2.2.2.1 q.2.2.2.2.1 q.2.2.2.2.2 Q := by
  constructor
  · rintro ⟨f, v', H', h1, h2⟩
    cases f with
    | zero => cases h1
    | succ f =>
      rw [run_succ, hd] at h1; simp only [hr, hc] at h1
      cases hq : stp P m ins len aux pc L S k n H with
      | none => rw [hq] at h1; cases h1
      | some q => rw [hq] at h1; exact ⟨q, rfl, f, v', H', h1, h2⟩
  · rintro ⟨q, hq, f, v', H', h1, h2⟩
    refine ⟨f + 1, v', H', ?_, h2⟩
    rw [run_succ, hd]; simp only [hr, hc, hq]; exact h1
theorem W_s {pc' : Nat} {L' : List Slot} {S' : List Value} {k' n' : Nat} {H' : AH} (hd : P.1 m pc = some (ins, len, aux)) (hr : ret P m ins S = none) (hc : cal P m ins aux S k n H = none)
    (hs : stp P m ins len aux pc L S k n H = some (pc', L', S', k', n', H')) : W P m pc L S k n H Q ↔ W P m pc' L' S' k' n' H' Q := by
  rw [W_q hd hr hc, hs]
  exact ⟨fun ⟨q, e, h⟩ => by cases e; exact h, fun h => ⟨_, rfl, h⟩⟩
theorem W_g {G : Prop} [Decidable G] {pc' : Nat} {L' : List Slot} {S' : List Value} {k' n' : Nat} {H' : AH} (hd : P.1 m pc = some (ins, len, aux)) (hr : ret P m ins S = none) (hc : cal P m ins aux S k n H = none)
    (hs : stp P m ins len aux pc L S k n H = if G then some (pc', L', S', k', n', H') else none) : W P m pc L S k n H Q ↔ (G ∧ W P m pc' L' S' k' n' H' Q) := by
  rw [W_q hd hr hc, hs]
  by_cases g : G
  · rw [if_pos g]; exact ⟨fun ⟨q, e, h⟩ => by cases e; exact ⟨g, h⟩, fun h => ⟨_, rfl, h.2⟩⟩
  · rw [if_neg g]; exact ⟨fun ⟨q, e, h⟩ => (by cases e), fun h => absurd h.1 g⟩
theorem W_n {G : Prop} [Decidable G] {pc' : Nat} {L' : List Slot} {S' : List Value} {k' n' : Nat} {H' : AH} (hd : P.1 m pc = some (ins, len, aux)) (hr : ret P m ins S = none) (hc : cal P m ins aux S k n H = none)
    (hs : stp P m ins len aux pc L S k n H = if G then none else some (pc', L', S', k', n', H')) : W P m pc L S k n H Q ↔ (¬ G ∧ W P m pc' L' S' k' n' H' Q) := by
  rw [W_q hd hr hc, hs]
  by_cases g : G
  · rw [if_pos g]; exact ⟨fun ⟨q, e, h⟩ => (by cases e), fun h => absurd g h.1⟩
  · rw [if_neg g]; exact ⟨fun ⟨q, e, h⟩ => by cases e; exact ⟨g, h⟩, fun h => ⟨_, rfl, h.2⟩⟩
theorem W_f {G : Prop} [Decidable G] {q1 q2 : Fm} (hd : P.1 m pc = some (ins, len, aux)) (hr : ret P m ins S = none) (hc : cal P m ins aux S k n H = none)
    (hs : stp P m ins len aux pc L S k n H = if G then some q1 else some q2) : W P m pc L S k n H Q ↔ (if G then W P m q1.1 q1.2.1 q1.2.2.1 q1.2.2.2.1 q1.2.2.2.2.1 q1.2.2.2.2.2 Q else W P m q2.1 q2.2.1 q2.2.2.1 q2.2.2.2.1 q2.2.2.2.2.1 q2.2.2.2.2.2 Q) := by
  rw [W_q hd hr hc, hs]
  by_cases g : G
  · rw [if_pos g, if_pos g]; exact ⟨fun ⟨q, e, h⟩ => by cases e; exact h, fun h => ⟨_, rfl, h⟩⟩
  · rw [if_neg g, if_neg g]; exact ⟨fun ⟨q, e, h⟩ => by cases e; exact h, fun h => ⟨_, rfl, h⟩⟩
section Cmp
variable {x y : Int32} {o : Int} {q : Nat}
theorem W_icmp_eq (hd : P.1 m pc = some (.if_icmp .eq o, len, aux)) (hj : jmp pc o = some q) : W P m pc L (.int y :: .int x :: S) k n H Q ↔ (if x = y then W P m q L S k n H Q else W P m (pc + len) L S k n H Q) :=
  W_f (G := x = y) (q1 := (q, L, S, k, n, H)) (q2 := (pc + len, L, S, k, n, H)) hd rfl rfl (by simp only [stp, hj, if_icmp.holds]; by_cases h : x = y <;> simp [h])
theorem W_icmp_ne (hd : P.1 m pc = some (.if_icmp .ne o, len, aux)) (hj : jmp pc o = some q) : W P m pc L (.int y :: .int x :: S) k n H Q ↔ (if x = y then W P m (pc + len) L S k n H Q else W P m q L S k n H Q) :=
  W_f (G := x = y) (q1 := (pc + len, L, S, k, n, H)) (q2 := (q, L, S, k, n, H)) hd rfl rfl (by simp only [stp, hj, if_icmp.holds]; by_cases h : x = y <;> simp [h])
theorem W_icmp_lt (hd : P.1 m pc = some (.if_icmp .lt o, len, aux)) (hj : jmp pc o = some q) : W P m pc L (.int y :: .int x :: S) k n H Q ↔ (if x < y then W P m q L S k n H Q else W P m (pc + len) L S k n H Q) :=
  W_f (G := x < y) (q1 := (q, L, S, k, n, H)) (q2 := (pc + len, L, S, k, n, H)) hd rfl rfl (by
    by_cases h : x < y
    · simp [stp, hj, Jvm.Free.XT.ii_lt_t h, h]
    · simp [stp, hj, Jvm.Free.XT.ii_lt_f h, h])
theorem W_icmp_ge (hd : P.1 m pc = some (.if_icmp .ge o, len, aux)) (hj : jmp pc o = some q) : W P m pc L (.int y :: .int x :: S) k n H Q ↔ (if x < y then W P m (pc + len) L S k n H Q else W P m q L S k n H Q) :=
  W_f (G := x < y) (q1 := (pc + len, L, S, k, n, H)) (q2 := (q, L, S, k, n, H)) hd rfl rfl (by
    by_cases h : x < y
    · simp [stp, hj, Jvm.Free.XT.ii_ge_f h, h]
    · simp [stp, hj, Jvm.Free.XT.ii_ge_t h, h])
theorem W_icmp_gt (hd : P.1 m pc = some (.if_icmp .gt o, len, aux)) (hj : jmp pc o = some q) : W P m pc L (.int y :: .int x :: S) k n H Q ↔ (if y < x then W P m q L S k n H Q else W P m (pc + len) L S k n H Q) :=
  W_f (G := y < x) (q1 := (q, L, S, k, n, H)) (q2 := (pc + len, L, S, k, n, H)) hd rfl rfl (by
    by_cases h : y < x
    · simp [stp, hj, Jvm.Free.XT.ii_gt_t h, h]
    · simp [stp, hj, Jvm.Free.XT.ii_gt_f h, h])
theorem W_icmp_le (hd : P.1 m pc = some (.if_icmp .le o, len, aux)) (hj : jmp pc o = some q) : W P m pc L (.int y :: .int x :: S) k n H Q ↔ (if y < x then W P m (pc + len) L S k n H Q else W P m q L S k n H Q) :=
  W_f (G := y < x) (q1 := (pc + len, L, S, k, n, H)) (q2 := (q, L, S, k, n, H)) hd rfl rfl (by
    by_cases h : y < x
    · simp [stp, hj, Jvm.Free.XT.ii_le_f h, h]
    · simp [stp, hj, Jvm.Free.XT.ii_le_t h, h])
theorem W_if_eq (hd : P.1 m pc = some (.ifCond .eq o, len, aux)) (hj : jmp pc o = some q) : W P m pc L (.int x :: S) k n H Q ↔ (if x = 0 then W P m q L S k n H Q else W P m (pc + len) L S k n H Q) :=
  W_f (G := x = 0) (q1 := (q, L, S, k, n, H)) (q2 := (pc + len, L, S, k, n, H)) hd rfl rfl (by
    by_cases h : x = 0
    · have e := Jvm.Free.XT.i0_eq_t h; simp only [stp, hj, e, if_pos h, if_true, Option.map_some]
    · simp [stp, hj, Jvm.Free.XT.i0_eq_f h, h])
theorem W_if_ne (hd : P.1 m pc = some (.ifCond .ne o, len, aux)) (hj : jmp pc o = some q) : W P m pc L (.int x :: S) k n H Q ↔ (if x = 0 then W P m (pc + len) L S k n H Q else W P m q L S k n H Q) :=
  W_f (G := x = 0) (q1 := (pc + len, L, S, k, n, H)) (q2 := (q, L, S, k, n, H)) hd rfl rfl (by
    by_cases h : x = 0
    · have e := Jvm.Free.XT.i0_ne_f h; simp only [stp, hj, e, if_pos h, Bool.false_eq_true, if_false]
    · simp [stp, hj, Jvm.Free.XT.i0_ne_t h, h])
theorem W_if_lt (hd : P.1 m pc = some (.ifCond .lt o, len, aux)) (hj : jmp pc o = some q) : W P m pc L (.int x :: S) k n H Q ↔ (if x < 0 then W P m q L S k n H Q else W P m (pc + len) L S k n H Q) :=
  W_f (G := x < 0) (q1 := (q, L, S, k, n, H)) (q2 := (pc + len, L, S, k, n, H)) hd rfl rfl (by
    by_cases h : x < 0
    · simp [stp, hj, Jvm.Free.XT.i0_lt_t h, h]
    · simp [stp, hj, Jvm.Free.XT.i0_lt_f h, h])
theorem W_if_le (hd : P.1 m pc = some (.ifCond .le o, len, aux)) (hj : jmp pc o = some q) : W P m pc L (.int x :: S) k n H Q ↔ (if 0 < x then W P m (pc + len) L S k n H Q else W P m q L S k n H Q) :=
  W_f (G := 0 < x) (q1 := (pc + len, L, S, k, n, H)) (q2 := (q, L, S, k, n, H)) hd rfl rfl (by
    by_cases h : 0 < x
    · simp [stp, hj, Jvm.Free.XT.i0_le_f h, h]
    · simp [stp, hj, Jvm.Free.XT.i0_le_t h, h])
theorem W_goto (hd : P.1 m pc = some (.goto o, len, aux)) (hj : jmp pc o = some q) : W P m pc L S k n H Q ↔ W P m q L S k n H Q := W_s hd rfl rfl (by simp [stp, hj])
end Cmp
section Sto
variable {i : Nat} {o o2 : Slot} {x y : Int32} {v : Value} {l : Int64} {a : Nat}
theorem stl_plain (h : L[i]? = some o) (ho : cat1 o = true) : stl L i v = some (L.set i (.val v)) := by
  unfold stl
  rw [h]
  cases o with
  | unset => rfl
  | second => cases ho
  | val w => simp only [cat1, beq_iff_eq] at ho; simp [ho]
theorem W_ist (hd : P.1 m pc = some (.istore i, len, aux)) (h : L[i]? = some o) (ho : cat1 o = true) : W P m pc L (.int x :: S) k n H Q ↔ W P m (pc + len) (L.set i (.val (.int x))) S k n H Q := W_s hd rfl rfl (by simp [stp, stl_plain h ho])
theorem W_istn {i : Fin 4} (hd : P.1 m pc = some (.istore_n i, len, aux)) (h : L[i.val]? = some o) (ho : cat1 o = true) : W P m pc L (.int x :: S) k n H Q ↔ W P m (pc + len) (L.set i.val (.val (.int x))) S k n H Q := W_s hd rfl rfl (by simp [stp, stl_plain h ho])
theorem W_astn {i : Fin 4} (hd : P.1 m pc = some (.astore_n i, len, aux)) (h : L[i.val]? = some o) (ho : cat1 o = true) : W P m pc L (.ref a :: S) k n H Q ↔ W P m (pc + len) (L.set i.val (.val (.ref a))) S k n H Q := W_s hd rfl rfl (by simp [stp, stl_plain h ho])
theorem cs_nil : cs [] = 0 := by simp [cs]
theorem cs_int : cs (.int x :: S) = 1 + cs S := by simp [cs, Value.category]
theorem cs_ref : cs (.ref a :: S) = 1 + cs S := by simp [cs, Value.category]
end Sto
section Heap
variable {a j : Nat} {i x c : Int32} {v : Value} {l : Int64}
theorem W_getf {ix : Nat} (hd : P.1 m pc = some (.getfield ix, len, aux)) : W P m pc L (.ref a :: S) k n H Q ↔ (isO H a = true ∧ W P m (pc + len) L (fld H a aux.toNat :: S) k n H Q) := W_g hd rfl rfl rfl
theorem W_putf {ix : Nat} (hd : P.1 m pc = some (.putfield ix, len, aux)) : W P m pc L (v :: .ref a :: S) k n H Q ↔ ((isOw H a = true ∧ okv (P.2.2.1 aux.toNat) v = true) ∧ W P m (pc + len) L S k n (wr H a aux.toNat v) Q) := W_g hd rfl rfl rfl
theorem W_iaload (hd : P.1 m pc = some (.iaload, len, aux)) : W P m pc L (.int i :: .ref a :: S) k n H Q ↔ (inA H a .int i = true ∧ W P m (pc + len) L (elt H a i :: S) k n H Q) := W_g hd rfl rfl rfl
theorem W_iastore (hd : P.1 m pc = some (.iastore, len, aux)) : W P m pc L (.int x :: .int i :: .ref a :: S) k n H Q ↔ (inAw H a .int i = true ∧ W P m (pc + len) L S k n (wr H a i.toNatClampNeg (.int x)) Q) := W_g hd rfl rfl rfl
theorem W_alen (hd : P.1 m pc = some (.arraylength, len, aux)) : W P m pc L (.ref a :: S) k n H Q ↔ (isA H a = true ∧ W P m (pc + len) L (.int (alen H a).toInt32 :: S) k n H Q) := W_g hd rfl rfl rfl
theorem W_newarr {t : ArrayType} (hd : P.1 m pc = some (.newarray t, len, aux)) : W P m pc L (.int c :: S) k n H Q ↔ ((¬ c < 0 ∧ c.toNatClampNeg * 8 ≤ 536870912 ∧ k + 1 ≤ (rm P m).cells ∧ n + c.toNatClampNeg ≤ (rm P m).slots) ∧ W P m (pc + len) L (.ref H.1 :: S) (k + 1) (n + c.toNatClampNeg) (mkA (newarray.typeOf t) c.toNatClampNeg H) Q) := W_g hd rfl rfl rfl
theorem W_new {ix : Nat} (hd : P.1 m pc = some (.new ix, len, aux)) : W P m pc L S k n H Q ↔ ((0 ≤ aux ∧ k + 1 ≤ (rm P m).cells ∧ n + aux.toNat ≤ (rm P m).slots) ∧ W P m (pc + len) L (.ref H.1 :: S) (k + 1) (n + aux.toNat) (mkO P H) Q) := W_g hd rfl rfl rfl
theorem W_oinit {ix : Nat} (hd : P.1 m pc = some (.invokespecial ix, len, -1)) : W P m pc L (.ref a :: S) k n H Q ↔ ((1 ≤ (rm P m).frames ∧ cs S + 12 ≤ (rm P m).locals) ∧ W P m (pc + len) L S k n H Q) :=
  W_g (G := 1 ≤ (rm P m).frames ∧ cs S + 12 ≤ (rm P m).locals) hd rfl (by simp [cal, cal1]) (by simp [stp])
theorem W_idiv {y : Int32} (hd : P.1 m pc = some (.idiv, len, aux)) : W P m pc L (.int y :: .int x :: S) k n H Q ↔ (¬ y = 0 ∧ W P m (pc + len) L (.int (x / y) :: S) k n H Q) := W_n hd rfl rfl rfl
theorem W_irem {y : Int32} (hd : P.1 m pc = some (.irem, len, aux)) : W P m pc L (.int y :: .int x :: S) k n H Q ↔ (¬ y = 0 ∧ W P m (pc + len) L (.int (x % y) :: S) k n H Q) := W_n hd rfl rfl rfl
end Heap
section Call
variable {m' : Nat} {a r : List Value} {b : Nat}
theorem cal_eq (hk : kindOk ins (kd P m') = true) (hl : a.length = na P m') : cal P m ins (m' : Int) (a.reverse ++ r) k n H = if may P m m' a r k n H = true then some (m', a, r) else none := by
  have e1 : (a.reverse ++ r).take (na P m') = a.reverse := by rw [← hl, ← List.length_reverse (as := a)]; exact List.take_left ..
  have e2 : (a.reverse ++ r).drop (na P m') = r := by rw [← hl, ← List.length_reverse (as := a)]; exact List.drop_left ..
  have key : cal1 P m ins (m' : Int) (a.reverse ++ r) k n H = if may P m m' a r k n H = true then some (m', a, r) else none := by
    unfold cal1
    rw [Int.toNat_natCast, e1, e2, List.reverse_reverse]
    simp [hk]
  cases ins <;> first | exact key | (cases hk)
theorem W_call (hd : P.1 m pc = some (ins, len, (m' : Int))) (hr : ret P m ins S = none) (hk : kindOk ins (kd P m') = true) (hl : a.length = na P m') (hS : S = a.reverse ++ r) (hns : stp P m ins len (m' : Int) pc L S k n H = none) :
    W P m pc L S k n H Q ↔ (may P m m' a r k n H = true ∧ Cl P m' a H (fun v H' => W P m (pc + len) L (v.toList ++ r) (k + (rm P m').cells) (n + (rm P m').slots) H' Q)) := by
  have hc : cal P m ins (m' : Int) S k n H = if may P m m' a r k n H = true then some (m', a, r) else none := by rw [hS]; exact cal_eq hk hl
  by_cases g : may P m m' a r k n H = true
  · rw [if_pos g] at hc
    rw [W_c hd hr hc]; simp [g]
  · rw [if_neg g] at hc
    rw [W_q hd hr hc, hns]
    exact ⟨fun ⟨q, e, h⟩ => (by cases e), fun h => absurd h.1 g⟩
theorem W_inst {ix : Nat} {as : List Value} (hd : P.1 m pc = some (.invokevirtual ix, len, (m' : Int))) (hk : kindOk (.invokevirtual ix) (kd P m') = true) (hl : as.length + 1 = na P m') (hS : S = as.reverse ++ .ref b :: r)
    (h1 : (Sym.laidSlots (.ref b :: as)).length ≤ ml P m') (h2 : (rm P m').frames + 1 ≤ (rm P m).frames) (h3 : (rm P m').cells = 0 ∧ (rm P m').slots = 0) :
    W P m pc L S k n H Q ↔ ((isO H b = true ∧ cs r + (ml P m' + 11) + (rm P m').locals ≤ (rm P m).locals) ∧ Cl P m' (.ref b :: as) H (fun v H' => W P m (pc + len) L (v.toList ++ r) k n H' Q)) := by
  rw [W_call (a := .ref b :: as) (r := r) hd rfl hk hl (by rw [hS]; simp) rfl]
  have e : may P m m' (.ref b :: as) r k n H = true ↔ (isO H b = true ∧ cs r + (ml P m' + 11) + (rm P m').locals ≤ (rm P m).locals) := by
    have hk0 : kd P m' ≠ 0 := by intro h; rw [h] at hk; cases hk
    simp [may, rcv, h1, h2, h3, ← hl, hk0]; exact And.comm
  rw [e, h3.1, h3.2]; rfl
theorem W_stat {ix : Nat} (hd : P.1 m pc = some (.invokestatic ix, len, (m' : Int))) (hk : kindOk (.invokestatic ix) (kd P m') = true) (hl : a.length = na P m') (hS : S = a.reverse ++ r)
    (h1 : (Sym.laidSlots a).length ≤ ml P m') (h2 : (rm P m').frames + 1 ≤ (rm P m).frames) (h3 : (rm P m').cells = 0 ∧ (rm P m').slots = 0) :
    W P m pc L S k n H Q ↔ ((cs r + (ml P m' + 11) + (rm P m').locals ≤ (rm P m).locals) ∧ Cl P m' a H (fun v H' => W P m (pc + len) L (v.toList ++ r) k n H' Q)) := by
  rw [W_call (a := a) (r := r) hd rfl hk hl hS rfl]
  have e : may P m m' a r k n H = true ↔ (cs r + (ml P m' + 11) + (rm P m').locals ≤ (rm P m).locals) := by
    have hk0 : kd P m' = 0 := by simpa [kindOk] using hk
    simp [may, h1, h2, h3, hl, hk0]
  rw [e, h3.1, h3.2]; rfl
theorem W_init {ix : Nat} {as : List Value} (hd : P.1 m pc = some (.invokespecial ix, len, (m' : Int))) (hk : kindOk (.invokespecial ix) (kd P m') = true) (hl : as.length + 1 = na P m') (hS : S = as.reverse ++ .ref b :: r)
    (h1 : (Sym.laidSlots (.ref b :: as)).length ≤ ml P m') (h2 : (rm P m').frames + 1 ≤ (rm P m).frames) (h3 : ¬ ((rm P m').cells = 0 ∧ (rm P m').slots = 0)) :
    W P m pc L S k n H Q ↔ ((isO H b = true ∧ cs r + (ml P m' + 11) + (rm P m').locals ≤ (rm P m).locals ∧ k + (rm P m').cells ≤ (rm P m).cells ∧ n + (rm P m').slots ≤ (rm P m).slots) ∧ Cl P m' (.ref b :: as) H (fun v H' => W P m (pc + len) L (v.toList ++ r) (k + (rm P m').cells) (n + (rm P m').slots) H' Q)) := by
  have hns : stp P m (.invokespecial ix) len (m' : Int) pc L S k n H = none := by
    dsimp only [stp]
    split
    · rw [if_neg]; omega
    · rfl
  rw [W_call (a := .ref b :: as) (r := r) hd rfl hk hl (by rw [hS]; simp) hns]
  have e : may P m m' (.ref b :: as) r k n H = true ↔ (isO H b = true ∧ cs r + (ml P m' + 11) + (rm P m').locals ≤ (rm P m).locals ∧ k + (rm P m').cells ≤ (rm P m).cells ∧ n + (rm P m').slots ≤ (rm P m).slots) := by
    have hk0 : kd P m' ≠ 0 := by intro h; rw [h] at hk; cases hk
    simp only [may, rcv, h1, h2, h3, ← hl, hk0, List.length_cons, decide_true, decide_false, Bool.true_and, Bool.false_or, Bool.and_eq_true, decide_eq_true_eq]
    constructor
    · rintro ⟨⟨q1, q2⟩, q3⟩; exact ⟨q3, q1, q2⟩
    · rintro ⟨q3, q1, q2⟩; exact ⟨⟨q1, q2⟩, q3⟩
  rw [e]
end Call
section Last
theorem W_rz {x : Int32} (hd : P.1 m pc = some (.ireturn, len, aux)) (hr : rt P m = some .boolean) : W P m pc L (.int x :: S) k n H Q ↔ ((x = 0 ∨ x = 1) ∧ Q (some (.int x)) H) := by
  by_cases g : x = 0 ∨ x = 1
  · rw [W_r hd (by simp only [ret, hr]; rw [if_pos g])]; simp [g]
  · rw [W_q hd (by simp only [ret, hr]; rw [if_neg g]) rfl]
    constructor
    · rintro ⟨q, e, -⟩; cases e
    · intro h; exact absurd h.1 g
theorem W_newarr' {t : ArrayType} {c : Int32} {N : Nat} (hd : P.1 m pc = some (.newarray t, len, aux)) (hN : c.toNatClampNeg = N) (h1 : ¬ c < 0) (h2 : N * 8 ≤ 536870912) :
    W P m pc L (.int c :: S) k n H Q ↔ ((k + 1 ≤ (rm P m).cells ∧ n + N ≤ (rm P m).slots) ∧ W P m (pc + len) L (.ref H.1 :: S) (k + 1) (n + N) (mkA (newarray.typeOf t) N H) Q) := by
  rw [W_newarr hd, hN]; simp [h1, h2]
theorem W_new' {ix : Nat} (hd : P.1 m pc = some (.new ix, len, aux)) (h0 : 0 ≤ aux) : W P m pc L S k n H Q ↔ ((k + 1 ≤ (rm P m).cells ∧ n + aux.toNat ≤ (rm P m).slots) ∧ W P m (pc + len) L (.ref H.1 :: S) (k + 1) (n + aux.toNat) (mkO P H) Q) := by
  rw [W_new hd]; simp [h0]
end Last
end Rules
abbrev LW : Type := (Nat → Nat → Option (Instr × Nat × Int)) × (Nat → MInfo)
abbrev Row : Type := Nat × Instr × Nat × Int
end Jvm.JX

namespace Jvm.JX
open Sem ClassFile Op Lib
abbrev St : Type := (Nat → Int32) × (Nat → Int64) × (Nat → Nat → Int32) × (Nat → Nat → Int64)
abbrev Lay : Type := List (FieldType × Nat) × List (FieldType × Nat)
def sI (s : St) (k : Nat) : Int32 := s.1 k
def sJ (s : St) (k : Nat) : Int64 := s.2.1 k
def sA (s : St) (t i : Nat) : Int32 := s.2.2.1 t i
def sB (s : St) (t i : Nat) : Int64 := s.2.2.2 t i
def uI (s : St) (k : Nat) (v : Int32) : St := (fun j => if j = k then v else s.1 j, s.2.1, s.2.2.1, s.2.2.2)
def uJ (s : St) (k : Nat) (v : Int64) : St := (s.1, fun j => if j = k then v else s.2.1 j, s.2.2.1, s.2.2.2)
def uA (s : St) (t i : Nat) (v : Int32) : St := (s.1, s.2.1, fun t' i' => if t' = t ∧ i' = i then v else s.2.2.1 t' i', s.2.2.2)
def uB (s : St) (t i : Nat) (v : Int64) : St := (s.1, s.2.1, s.2.2.1, fun t' i' => if t' = t ∧ i' = i then v else s.2.2.2 t' i')
def z0 : St := (fun _ => 0, fun _ => 0, fun _ _ => 0, fun _ _ => 0)
section St
variable {s : St} {k j t i t' i' : Nat} {v : Int32} {w : Int64}
theorem sI_uI : sI (uI s k v) j = if j = k then v else sI s j := by simp [sI, sJ, sA, sB, uI, uJ, uA, uB, z0]
theorem sI_uA : sI (uA s t i v) j = sI s j := by simp [sI, sJ, sA, sB, uI, uJ, uA, uB, z0]
theorem sJ_uI : sJ (uI s k v) j = sJ s j := by simp [sI, sJ, sA, sB, uI, uJ, uA, uB, z0]
theorem sJ_uA : sJ (uA s t i v) j = sJ s j := by simp [sI, sJ, sA, sB, uI, uJ, uA, uB, z0]
theorem sA_uI : sA (uI s k v) t' i' = sA s t' i' := by simp [sI, sJ, sA, sB, uI, uJ, uA, uB, z0]
theorem sA_uA : sA (uA s t i v) t' i' = if t' = t ∧ i' = i then v else sA s t' i' := by simp [sI, sJ, sA, sB, uI, uJ, uA, uB, z0]
theorem sB_uI : sB (uI s k v) t' i' = sB s t' i' := by simp [sI, sJ, sA, sB, uI, uJ, uA, uB, z0]
theorem sB_uA : sB (uA s t i v) t' i' = sB s t' i' := by simp [sI, sJ, sA, sB, uI, uJ, uA, uB, z0]
theorem sI_z0 : sI z0 k = 0 := by simp [sI, sJ, sA, sB, uI, uJ, uA, uB, z0]
theorem sA_z0 : sA z0 t i = 0 := by simp [sI, sJ, sA, sB, uI, uJ, uA, uB, z0]
theorem sB_z0 : sB z0 t i = 0 := by simp [sI, sJ, sA, sB, uI, uJ, uA, uB, z0]
theorem St_ext {s s' : St} (h1 : ∀ k, sI s k = sI s' k) (h2 : ∀ k, sJ s k = sJ s' k) (h3 : ∀ t i, sA s t i = sA s' t i) (h4 : ∀ t i, sB s t i = sB s' t i) : s = s' :=
  Prod.ext (funext h1) (Prod.ext (funext h2) (Prod.ext (funext fun t => funext (h3 t)) (funext fun t => funext (h4 t))))
end St
def zr (s : St) (t : Nat) : Prop := (∀ i, sA s t i = 0) ∧ ∀ i, sB s t i = 0
theorem zr_z0 {t : Nat} : zr z0 t = True := by simp [zr, sA_z0, sB_z0]
def fvl (y : Lay) (j p : Nat) (s : St) (k : Nat) : Value := match y.1[k]? with
  | some (.long, _) => .long (sJ s k)
  | some (.array _, t) => if t ≤ j then .ref (p + t) else .null
  | _ => .int (sI s k)
def blk (y : Lay) (j p : Nat) (s : St) : Nat → Cel
  | 0 => (.object "", y.1.length, true, fvl y j p s)
  | t + 1 => match y.2[t]? with
    | some (.long, n) => (.array .long, n, true, fun i => .long (sB s (t + 1) i))
    | some (ty, n) => (.array ty, n, true, fun i => .int (sA s (t + 1) i))
    | none => (.char, 0, false, fun _ => .null)
def put (y : Lay) (j : Nat) (H : AH) (p : Nat) (s : St) : AH := (H.1, fun a => if p ≤ a ∧ a ≤ p + j then blk y j p s (a - p) else H.2 a)
section Put
variable {y : Lay} {j : Nat} {H : AH} {p : Nat} {s : St} {k t n : Nat} {ty : FieldType} {i : Int32}
theorem put_0 : (put y j H p s).2 p = (.object "", y.1.length, true, fvl y j p s) := by simp [put, blk]
theorem put_t (ht : t ≤ j) : (put y j H p s).2 (p + t) = blk y j p s t := by simp [put, ht]
theorem put_ot {a : Nat} (h : a < p ∨ p + j < a) : (put y j H p s).2 a = H.2 a := by
  have : ¬ (p ≤ a ∧ a ≤ p + j) := by omega
  simp [put, this]
theorem isO_put : isO (put y j H p s) p = true := by simp [isO, put_0]
theorem isOw_put : isOw (put y j H p s) p = true := by simp [isOw, isO_put, put_0]
theorem fld_I (h : y.1[k]? = some (ty, t)) (hl : ty ≠ .long) (ha : ∀ e, ty ≠ .array e) : fld (put y j H p s) p k = .int (sI s k) := by
  simp only [fld, put_0, fvl, h]; cases ty <;> first | rfl | exact absurd rfl hl | exact absurd rfl (ha _)
theorem fld_R (h : y.1[k]? = some (.array ty, t)) (ht : t ≤ j) : fld (put y j H p s) p k = .ref (p + t) := by simp only [fld, put_0, fvl, h, ht, if_true]
theorem blk_I (h : y.2[t]? = some (ty, n)) (hl : ty ≠ .long) : blk y j p s (t + 1) = (.array ty, n, true, fun i => .int (sA s (t + 1) i)) := by
  simp only [blk, h]
theorem clamp_lt {i : Int32} {n : Nat} : (¬ i < 0 ∧ i.toNatClampNeg < n) ↔ (0 ≤ i.toInt ∧ i.toInt < n) := by
  simp only [Int32.lt_iff_toInt_lt, Int32.toNatClampNeg, Int32.reduceToInt]; omega
theorem inA_I (h : y.2[t]? = some (ty, n)) (hl : ty ≠ .long) (ht : t + 1 ≤ j) : inA (put y j H p s) (p + (t + 1)) ty i = true ↔ (0 ≤ i.toInt ∧ i.toInt < n) := by
  rw [← clamp_lt]; simp [inA, put_t ht, blk_I h hl]
theorem inAw_I (h : y.2[t]? = some (ty, n)) (hl : ty ≠ .long) (ht : t + 1 ≤ j) : inAw (put y j H p s) (p + (t + 1)) ty i = true ↔ (0 ≤ i.toInt ∧ i.toInt < n) := by
  rw [← inA_I (H := H) (p := p) (s := s) h hl ht]; simp [inAw, put_t ht, blk_I h hl]
theorem elt_I (h : y.2[t]? = some (ty, n)) (hl : ty ≠ .long) (ht : t + 1 ≤ j) : elt (put y j H p s) (p + (t + 1)) i = .int (sA s (t + 1) i.toNatClampNeg) := by
  simp only [elt, put_t ht, blk_I h hl]
theorem put_wr {s' : St} {t q : Nat} {v : Value} (ht : t ≤ j) (hb : ∀ t', blk y j p s' t' = if t' = t then ((blk y j p s t).1, (blk y j p s t).2.1, (blk y j p s t).2.2.1, fun i => if i = q then v else (blk y j p s t).2.2.2 i) else blk y j p s t') :
    wr (put y j H p s) (p + t) q v = put y j H p s' := by
  refine Prod.ext rfl (funext fun a => ?_)
  simp only [wr, put_t ht]
  by_cases e : a = p + t
  · subst e; simp [put, ht, hb]
  · simp only [e, if_false, put]
    by_cases g : p ≤ a ∧ a ≤ p + j
    · have : a - p ≠ t := by omega
      simp [g, hb, this]
    · simp [g]
theorem fvl_uI {v : Int32} (h : y.1[k]? = some (ty, t)) (hl : ty ≠ .long) (ha : ∀ e, ty ≠ .array e) (i : Nat) : fvl y j p (uI s k v) i = if i = k then .int v else fvl y j p s i := by
  by_cases e : i = k
  · subst e; simp only [fvl, h, if_true]; cases ty <;> first | (simp [sI_uI]; done) | exact absurd rfl hl | exact absurd rfl (ha _)
  · simp only [fvl, e, if_false, sI_uI, sJ_uI]
theorem wr_I {v : Int32} (h : y.1[k]? = some (ty, t)) (hl : ty ≠ .long) (ha : ∀ e, ty ≠ .array e) : wr (put y j H p s) p k (.int v) = put y j H p (uI s k v) := by
  refine put_wr (t := 0) (Nat.zero_le _) fun t' => ?_
  cases t' with
  | zero => simp only [blk, if_true]; exact congrArg (fun f => (_, _, _, f)) (funext fun i => fvl_uI h hl ha i)
  | succ t' => simp [blk, sA_uI, sB_uI]
theorem wr_A {v : Int32} {q : Nat} (h : y.2[t]? = some (ty, n)) (hl : ty ≠ .long) (ht : t + 1 ≤ j) : wr (put y j H p s) (p + (t + 1)) q (.int v) = put y j H p (uA s (t + 1) q v) := by
  refine put_wr ht fun t' => ?_
  by_cases e : t' = t + 1
  · subst e
    simp only [blk_I h hl, if_true, sA_uA, true_and]
    exact congrArg (fun f => (_, _, _, f)) (funext fun i => by split <;> rfl)
  · simp only [e, if_false]
    cases t' with
    | zero => rfl
    | succ t' => have : ¬ t' = t := fun q => e (by rw [q]); simp [blk, sA_uA, sB_uA, this]
theorem mkO_put {P : Prog} (hn : P.2.2.2 = y.1.length) (hf : ∀ k, defaultValue (P.2.2.1 k) = fvl y 0 H.1 z0 k) : mkO P H = put y 0 (H.1 + 1, H.2) H.1 z0 := by
  refine Prod.ext rfl (funext fun a => ?_)
  by_cases e : a = H.1
  · subst e; simp only [mkO, if_true, put_0, hn]; exact congrArg (fun f => (_, _, _, f)) (funext fun k => hf k)
  · have : ¬ (H.1 ≤ a ∧ a ≤ H.1 + 0) := by omega
    simp only [mkO, put, e, if_false, if_neg this]
theorem mkA_put {h : Nat → Cel} (h1 : y.1[k]? = some (.array ty, j + 1)) (h2 : y.2[j]? = some (ty, n)) (hu : (List.range y.1.length).all (fun k' => decide (k' = k) || ((y.1.getD k' (.int, 0)).2 != j + 1)) = true) (hz : ∀ i, sA s (j + 1) i = 0) (hz' : ∀ i, sB s (j + 1) i = 0) (hty : ty = .int ∨ ty = .long ∨ ty = .byte ∨ ty = .boolean) :
    wr (mkA ty n (put y j (p + (j + 1), h) p s)) p k (.ref (p + (j + 1))) = put y (j + 1) (p + (j + 1) + 1, h) p s := by
  refine Prod.ext rfl (funext fun a => ?_)
  have hp : ¬ p = p + (j + 1) := by omega
  have hN : (put y j (p + (j + 1), h) p s).1 = p + (j + 1) := rfl
  by_cases e : a = p
  · subst e
    simp only [wr, mkA, hN, if_true, hp, if_false, put_0]
    refine congrArg (fun f => (_, _, _, f)) (funext fun i => ?_)
    by_cases e2 : i = k
    · subst e2; simp [fvl, h1]
    · simp only [e2, if_false, fvl]
      cases hq : y.1[i]? with
      | none => rfl
      | some x =>
        obtain ⟨x1, x2⟩ := x
        cases x1 <;> try rfl
        rename_i el
        have : x2 ≠ j + 1 := fun q => by
          have hlt : i < y.1.length := (List.getElem?_eq_some_iff.mp hq).1
          have u := List.all_eq_true.mp hu i (List.mem_range.mpr hlt)
          simp [e2, hq, q] at u
        have : (x2 ≤ j + 1) = (x2 ≤ j) := propext ⟨fun _ => by omega, fun _ => by omega⟩
        simp [this]
  · simp only [wr, mkA, hN, e, if_false]
    by_cases e2 : a = p + (j + 1)
    · subst e2
      simp only [if_true, put_t (Nat.le_refl (j + 1))]
      rcases hty with rfl | rfl | rfl | rfl
      · simp only [blk, h2, hz]; rfl
      · simp only [blk, h2, hz']; rfl
      · simp only [blk, h2, hz]; rfl
      · simp only [blk, h2, hz]; rfl
    · simp only [e2, if_false, put]
      by_cases g : p ≤ a ∧ a ≤ p + j
      · have g2 : p ≤ a ∧ a ≤ p + (j + 1) := by omega
        simp only [g, g2, and_self, if_true]
        obtain ⟨t, ht⟩ : ∃ t, a - p = t + 1 := ⟨a - p - 1, by omega⟩
        rw [ht]; rfl
      · have g2 : ¬ (p ≤ a ∧ a ≤ p + (j + 1)) := by omega
        simp only [g, g2, if_false]
theorem isOw_mk {h : Nat → Cel} {c : Nat} : isOw (mkA ty n (put y j (p + (c + 1), h) p s)) p = true := by
  have : ¬ p = p + (c + 1) := by omega
  have hN : (put y j (p + (c + 1), h) p s).1 = p + (c + 1) := rfl
  simp [isOw, isO, mkA, hN, this, put_0]
theorem put_fst : (put y j H p s).1 = H.1 := by simp [put]
theorem cl_unf {P : Prog} {m : Nat} {a : List Value} {L : List Slot} {Q : Option Value → AH → Prop} (h : ent P m a = L) : Cl P m a H Q ↔ W P m 0 L [] 0 0 H Q := by unfold Cl; rw [h]
theorem put_comm {y' : Lay} {j' p' : Nat} {s' : St} (h : p + j < p' ∨ p' + j' < p) : put y j (put y' j' H p' s') p s = put y' j' (put y j H p s) p' s' := by
  refine Prod.ext rfl (funext fun a => ?_)
  simp only [put]
  by_cases g : p ≤ a ∧ a ≤ p + j
  · have g2 : ¬ (p' ≤ a ∧ a ≤ p' + j') := by omega
    simp [g, g2]
  · simp only [g, if_false]
theorem inA_ot {a : Nat} (h : a < p ∨ p + j < a) : inA (put y j H p s) a ty i = inA H a ty i := by simp only [inA, put_ot h]
theorem isA_ot {a : Nat} (h : a < p ∨ p + j < a) : isA (put y j H p s) a = isA H a := by simp only [isA, put_ot h]
theorem elt_ot {a : Nat} (h : a < p ∨ p + j < a) : elt (put y j H p s) a i = elt H a i := by simp only [elt, put_ot h]
theorem alen_ot {a : Nat} (h : a < p ∨ p + j < a) : alen (put y j H p s) a = alen H a := by simp only [alen, put_ot h]
end Put
def noc : Cel := (.char, 0, false, fun _ => .null)
def H1 (n a len : Nat) (f : Nat → Int32) : AH := (n, fun b => if b = a then (.array .int, len, false, fun i => .int (f i)) else noc)
theorem isA_H1 {n a len : Nat} {f : Nat → Int32} : isA (H1 n a len f) a = true := by simp [isA, H1]
theorem alen_H1 {n a len : Nat} {f : Nat → Int32} : alen (H1 n a len f) a = len := by simp [alen, H1]
theorem inA_H1 {n a len : Nat} {f : Nat → Int32} {i : Int32} : inA (H1 n a len f) a .int i = true ↔ (0 ≤ i.toInt ∧ i.toInt < len) := by rw [← clamp_lt]; simp [inA, H1]
theorem elt_H1 {n a len : Nat} {f : Nat → Int32} {i : Int32} : elt (H1 n a len f) a i = .int (f i.toNatClampNeg) := by simp [elt, H1]
def cl (lo hi v : Int32) : Int32 := if v < lo then lo else if hi < v then hi else v
section Okv
variable {x : Int32} {l : Int64} {a : Nat} {t : FieldType}
theorem okv_int : (okv .int (.int x) = true) = True := by simp [okv]
theorem okv_ref : (okv (.array t) (.ref a) = true) = True := by simp [okv]
end Okv
end Jvm.JX

namespace Jvm.JX
open Sem ClassFile Op Lib
section Num
theorem ia {x y : Int32} (h1 : -2147483648 ≤ x.toInt + y.toInt) (h2 : x.toInt + y.toInt ≤ 2147483647) : (x + y).toInt = x.toInt + y.toInt := by
  rw [Int32.toInt_add]; exact Int.bmod_eq_of_le (by omega) (by omega)
theorem isb {x y : Int32} (h1 : -2147483648 ≤ x.toInt - y.toInt) (h2 : x.toInt - y.toInt ≤ 2147483647) : (x - y).toInt = x.toInt - y.toInt := by
  rw [Int32.toInt_sub]; exact Int.bmod_eq_of_le (by omega) (by omega)
theorem im {x y : Int32} (h1 : -2147483648 ≤ x.toInt * y.toInt) (h2 : x.toInt * y.toInt ≤ 2147483647) : (x * y).toInt = x.toInt * y.toInt := by
  rw [Int32.toInt_mul]; exact Int.bmod_eq_of_le (by omega) (by omega)
theorem lt32 {x y : Int32} : x < y ↔ x.toInt < y.toInt := Int32.lt_iff_toInt_lt
theorem eq32 {x y : Int32} : x = y ↔ x.toInt = y.toInt := Int32.toInt_inj.symm
theorem cln {i : Int32} : i.toNatClampNeg = i.toInt.toNat := rfl
theorem cl_rg {lo hi : Int32} (v : Int32) (h : lo.toInt ≤ hi.toInt) : lo.toInt ≤ (cl lo hi v).toInt ∧ (cl lo hi v).toInt ≤ hi.toInt := by
  unfold cl
  by_cases h1 : v < lo
  · rw [if_pos h1]; omega
  · rw [if_neg h1]
    by_cases h2 : hi < v
    · rw [if_pos h2]; omega
    · rw [if_neg h2]; rw [lt32] at h1 h2; omega
end Num
section Fill
def fA (s : St) (t lo hi : Nat) (v : Int32) : St := (s.1, s.2.1, fun t' i => if t' = t ∧ lo ≤ i ∧ i < hi then v else s.2.2.1 t' i, s.2.2.2)
variable {s : St} {t lo hi k i t' : Nat} {v : Int32}
theorem sI_fA : sI (fA s t lo hi v) k = sI s k := by simp [sI, fA]
theorem sJ_fA : sJ (fA s t lo hi v) k = sJ s k := by simp [sJ, fA]
theorem sA_fA : sA (fA s t lo hi v) t' i = if t' = t ∧ lo ≤ i ∧ i < hi then v else sA s t' i := by simp [sA, fA]
theorem sB_fA : sB (fA s t lo hi v) t' i = sB s t' i := by simp [sB, fA]
theorem fA_nil (h : hi ≤ lo) : fA s t lo hi v = s := by
  refine St_ext (fun k => sI_fA) (fun k => sJ_fA) (fun t' i => ?_) (fun t' i => sB_fA)
  rw [sA_fA, if_neg (by omega)]
theorem fA_step (h : lo < hi) : fA (uA s t lo v) t (lo + 1) hi v = fA s t lo hi v := by
  refine St_ext (fun k => by simp only [sI_fA, sI_uA]) (fun k => by simp only [sJ_fA, sJ_uA]) (fun t' i => ?_) (fun t' i => by simp only [sB_fA, sB_uA])
  simp only [sA_fA, sA_uA]
  by_cases h1 : t' = t ∧ lo + 1 ≤ i ∧ i < hi
  · rw [if_pos h1, if_pos (by omega)]
  · rw [if_neg h1]
    by_cases h2 : t' = t ∧ i = lo
    · rw [if_pos h2, if_pos (by omega)]
    · rw [if_neg h2, if_neg (by omega)]
end Fill
section Cnt
def cnt (f : Nat → Bool) : Nat → Nat → Nat
  | _, 0 => 0
  | j, k + 1 => (if f j = true then 1 else 0) + cnt f (j + 1) k
theorem ofNat_one_add (c : Int32) (x : Nat) : c + 1 + Int32.ofNat x = c + Int32.ofNat (1 + x) := by
  rw [Int32.ofNat_add, Int32.add_assoc]; rfl
theorem add_ofNat_zero (c : Int32) : c + Int32.ofNat 0 = c := Int32.add_zero c
end Cnt
section Ite
variable {P : Prog} {m pc : Nat} {L : List Slot} {S : List Value} {k n : Nat} {H : AH} {Q : Option Value → AH → Prop} {c : Prop} [Decidable c]
end Ite
end Jvm.JX

namespace Jvm.JX
open Sem ClassFile Op Lib
section Forget
variable {P : Prog} {m pc len k n i : Nat} {aux : Int} {ins : Instr} {L L' M : List Slot} {S : List Value} {H : AH} {v : Value} {Q : Option Value → AH → Prop}
def lel (L L' : List Slot) : Prop := ∀ i : Nat, L[i]? = L'[i]? ∨ (L[i]? = some .unset ∧ ∃ o, L'[i]? = some o ∧ cat1 o = true)
theorem lel_refl : lel L L := fun _ => Or.inl rfl
theorem lel_cons {a : Slot} (h : lel L L') : lel (a :: L) (a :: L') := fun i => by cases i with
  | zero => exact Or.inl rfl
  | succ i => simpa using h i
theorem lel_un {o : Slot} (ho : cat1 o = true) (h : lel L L') : lel (.unset :: L) (o :: L') := fun i => by cases i with
  | zero => exact Or.inr ⟨rfl, o, rfl, ho⟩
  | succ i => simpa using h i
theorem lel_len (h : lel L L') : L.length = L'.length := by
  rcases Nat.lt_trichotomy L.length L'.length with g | g | g
  · have h1 : L[L.length]? = none := List.getElem?_eq_none (Nat.le_refl _)
    rcases h L.length with e | ⟨e, -⟩
    · rw [h1] at e; have := List.getElem?_eq_none_iff.mp e.symm; omega
    · rw [h1] at e; cases e
  · exact g
  · have h1 : L'[L'.length]? = none := List.getElem?_eq_none (Nat.le_refl _)
    rcases h L'.length with e | ⟨-, o, e, -⟩
    · rw [h1] at e; have := List.getElem?_eq_none_iff.mp e; omega
    · rw [h1] at e; cases e
theorem lel_set {a : Slot} (h : lel L L') : lel (L.set i a) (L'.set i a) := fun j => by
  rw [List.getElem?_set, List.getElem?_set, lel_len h]
  by_cases e : i = j
  · rw [if_pos e, if_pos e]; exact Or.inl rfl
  · rw [if_neg e, if_neg e]; exact h j
theorem ldI_le (h : lel L L') (e : ldI L i = some v) : ldI L' i = some v := by
  unfold ldI at *; rcases h i with g | ⟨g, -⟩
  · rw [← g]; exact e
  · rw [g] at e; cases e
theorem ldJ_le (h : lel L L') (e : ldJ L i = some v) : ldJ L' i = some v := by
  unfold ldJ at *; rcases h i with g | ⟨g, -⟩
  · rw [← g]; exact e
  · rw [g] at e; cases e
theorem ldR_le (h : lel L L') (e : ldR L i = some v) : ldR L' i = some v := by
  unfold ldR at *; rcases h i with g | ⟨g, -⟩
  · rw [← g]; exact e
  · rw [g] at e; cases e
theorem stl_le (h : lel L L') (e : stl L i v = some M) : ∃ M', stl L' i v = some M' ∧ lel M M' := by
  unfold stl at *
  rcases h i with g | ⟨g, o, g', ho⟩
  · rw [← g, ← lel_len h]
    revert e; generalize L[i]? = x; intro e
    match x, e with
    | some .unset, e => cases e; exact ⟨_, rfl, lel_set h⟩
    | some (.val w), e =>
      simp only at e ⊢
      by_cases c : w.category = 1
      · simp only [c, if_true] at e ⊢; cases e; exact ⟨_, rfl, lel_set h⟩
      · simp only [c, if_false] at e ⊢
        by_cases d : i + 1 < L.length
        · simp only [d, if_true] at e ⊢; cases e; exact ⟨_, rfl, lel_set (lel_set h)⟩
        · simp only [d, if_false] at e; cases e
    | some .second, e =>
      simp only at e ⊢
      by_cases d : 1 ≤ i
      · simp only [d, if_true] at e ⊢; cases e; exact ⟨_, rfl, lel_set (lel_set h)⟩
      · simp only [d, if_false] at e; cases e
    | none, e => cases e
  · rw [g] at e; cases e; rw [g']
    match o, ho with
    | .unset, _ => exact ⟨_, rfl, lel_set h⟩
    | .val w, ho =>
      have c : w.category = 1 := by simpa [cat1] using ho
      simp only [c, if_true]; exact ⟨_, rfl, lel_set h⟩
theorem stL_le (h : lel L L') (e : stL L i v = some M) : ∃ M', stL L' i v = some M' ∧ lel M M' := by
  have key : ∀ o2, L[i + 1]? = some o2 → ∃ o3, L'[i + 1]? = some o3 ∧ (cat1 o2 = true → cat1 o3 = true) := by
    intro o2 e2
    rcases h (i + 1) with g | ⟨g, o, g', ho⟩
    · exact ⟨o2, by rw [← g]; exact e2, id⟩
    · exact ⟨o, g', fun _ => ho⟩
  unfold stL at *
  have hs : lel ((L.set i (.val v)).set (i + 1) .second) ((L'.set i (.val v)).set (i + 1) .second) := lel_set (lel_set h)
  cases e2 : L[i + 1]? with
  | none => rw [e2] at e; revert e; cases L[i]? with
    | none => intro e; cases e
    | some o => intro e; cases o <;> cases e
  | some o2 =>
    obtain ⟨o3, g3, c3⟩ := key o2 e2
    rw [e2] at e; rw [g3]
    rcases h i with g | ⟨g, o, g', ho⟩
    · rw [← g]
      revert e; generalize L[i]? = x; intro e
      match x, e with
      | some .unset, e =>
        simp only at e ⊢
        by_cases c : cat1 o2 = true
        · simp only [c, if_true] at e; cases e; simp only [c3 c, if_true]; exact ⟨_, rfl, hs⟩
        · simp only [c] at e; cases e
      | some (.val w), e =>
        simp only at e ⊢
        by_cases d : w.category = 2
        · simp only [d, if_true] at e ⊢; cases e; exact ⟨_, rfl, hs⟩
        · simp only [d, if_false] at e ⊢
          by_cases c : cat1 o2 = true
          · simp only [c, if_true] at e; cases e; simp only [c3 c, if_true]; exact ⟨_, rfl, hs⟩
          · simp only [c] at e; cases e
      | some .second, e => cases e
      | none, e => cases e
    · rw [g] at e; rw [g']
      simp only at e
      by_cases c : cat1 o2 = true
      · simp only [c, if_true] at e; cases e
        match o, ho with
        | .unset, _ => simp only [c3 c, if_true]; exact ⟨_, rfl, hs⟩
        | .val w, ho =>
          by_cases d : w.category = 2
          · simp only [d, if_true]; exact ⟨_, rfl, hs⟩
          · simp only [d, if_false, c3 c, if_true]; exact ⟨_, rfl, hs⟩
      · simp only [c] at e; cases e
def loc : Instr → Bool
  | .iload _ | .iload_n _ | .lload _ | .lload_n _ | .aload _ | .aload_n _ | .istore _ | .istore_n _ | .astore _ | .astore_n _ | .lstore _ | .lstore_n _ | .iinc _ _ => true
  | _ => false
theorem stp_fr {q : Fm} (hl : loc ins = false) (e : stp P m ins len aux pc L S k n H = some q) : q.2.1 = L ∧ stp P m ins len aux pc L' S k n H = some (q.1, L', q.2.2) := by
  cases ins <;> first
    | (cases hl; done)
    | (simp only [stp] at e ⊢; cases e; done)
    | (simp only [stp] at e ⊢; cases e; exact ⟨rfl, rfl⟩)
    | (simp only [stp, Option.map_eq_some_iff] at e ⊢; (repeat' split at e) <;> first
        | (cases e; done)
        | (cases e; exact ⟨rfl, rfl⟩)
        | (obtain ⟨w, h1, h2⟩ := e; subst h2; exact ⟨rfl, w, h1, rfl⟩)
        | (simp_all; done)
        | (simp_all; subst e; simp; done)
        | (simp_all; obtain ⟨e1, e2, e3⟩ := e; subst e3; simp_all; done)
        | (simp only [Option.bind_eq_some_iff, Option.map_eq_some_iff] at e; obtain ⟨w, h1, u, h2, h3⟩ := e; subst h3; simp_all; done)
        | (simp only [Option.bind_eq_some_iff, Option.map_eq_some_iff] at e; obtain ⟨w, h1, u, h2, h3⟩ := e; subst h3; simp_all; omega))
theorem stp_le {q : Fm} (h : lel L L') (e : stp P m ins len aux pc L S k n H = some q) : ∃ M, stp P m ins len aux pc L' S k n H = some (q.1, M, q.2.2) ∧ lel q.2.1 M := by
  cases hl : loc ins with
  | false =>
    obtain ⟨h1, h2⟩ := stp_fr (L' := L') hl e
    exact ⟨L', h2, by rw [h1]; exact h⟩
  | true =>
    cases ins <;> first
      | (cases hl; done)
      | (simp only [stp, Option.map_eq_some_iff] at e ⊢; obtain ⟨w, h1, h2⟩ := e; subst h2; first
          | exact ⟨L', ⟨w, ldI_le h h1, rfl⟩, h⟩
          | exact ⟨L', ⟨w, ldJ_le h h1, rfl⟩, h⟩
          | exact ⟨L', ⟨w, ldR_le h h1, rfl⟩, h⟩)
      | (simp only [stp] at e ⊢; split at e
         · simp only [Option.map_eq_some_iff] at e ⊢
           obtain ⟨w, h1, h2⟩ := e; subst h2
           first
            | (obtain ⟨M, g1, g2⟩ := stl_le h h1; exact ⟨M, ⟨M, g1, rfl⟩, g2⟩)
            | (obtain ⟨M, g1, g2⟩ := stL_le h h1; exact ⟨M, ⟨M, g1, rfl⟩, g2⟩)
         · cases e)
      | (simp only [stp] at e ⊢; rename_i i c; rcases h i with g | ⟨g, -⟩
         · rw [← g]; revert e; generalize L[i]? = x; intro e
           split at e
           · cases e; exact ⟨_, rfl, lel_set h⟩
           · cases e
         · rw [g] at e; cases e)
theorem run_fg : ∀ (f m pc : Nat) (L L' : List Slot) (S : List Value) (k n : Nat) (H : AH) (r : Option Value × AH), lel L L' → run P f m pc L S k n H = some r → run P f m pc L' S k n H = some r
  | 0, _, _, _, _, _, _, _, _, _, _, e => by cases e
  | f + 1, m, pc, L, L', S, k, n, H, r, h, e => by
    unfold run at e ⊢
    cases hd : P.1 m pc with
    | none => rw [hd] at e; cases e
    | some d =>
      rw [hd] at e; simp only at e ⊢
      cases hr : ret P m d.1 S with
      | some v => rw [hr] at e; exact e
      | none =>
        rw [hr] at e; simp only at e ⊢
        cases hc : cal P m d.1 d.2.2 S k n H with
        | some c =>
          rw [hc] at e; simp only at e ⊢
          cases hx : run P f c.1 0 (ent P c.1 c.2.1) [] 0 0 H with
          | none => rw [hx] at e; cases e
          | some y => rw [hx] at e; simp only at e ⊢; exact run_fg f _ _ _ _ _ _ _ _ _ h e
        | none =>
          rw [hc] at e; simp only at e ⊢
          cases hs : stp P m d.1 d.2.1 d.2.2 pc L S k n H with
          | none => rw [hs] at e; cases e
          | some q =>
            rw [hs] at e; simp only at e
            obtain ⟨M, g1, g2⟩ := stp_le h hs
            rw [g1]; exact run_fg f _ _ _ _ _ _ _ _ _ g2 e
theorem W_fg (h : lel L L') (w : W P m pc L S k n H Q) : W P m pc L' S k n H Q := by
  obtain ⟨f, v, H', e, q⟩ := w
  exact ⟨f, v, H', run_fg f m pc L L' S k n H _ h e, q⟩
end Forget
section Ist
variable {P : Prog} {m pc len k n i : Nat} {aux : Int} {L : List Slot} {S : List Value} {H : AH} {Q : Option Value → AH → Prop} {x : Int32} {l : Int64}
end Ist
section Num2
theorem nn32 {x : Int32} (h : 0 ≤ x.toInt) : x.toInt = (x.toBitVec.toNat : Int) ∧ x.toBitVec.toNat < 2147483648 := by
  have e : x.toInt = x.toBitVec.toInt := rfl
  rw [e, BitVec.toInt_eq_toNat_cond] at h ⊢
  have := x.toBitVec.isLt
  split at h
  · rename_i g; rw [if_pos g]; exact ⟨rfl, by omega⟩
  · omega
theorem of_nn {x : Int32} (h : x.toBitVec.toNat < 2147483648) : x.toInt = (x.toBitVec.toNat : Int) := by
  have e : x.toInt = x.toBitVec.toInt := rfl
  rw [e, BitVec.toInt_eq_toNat_cond, if_pos (by omega)]
theorem and_rg {x m : Int32} (h : 0 ≤ m.toInt) : 0 ≤ (x &&& m).toInt ∧ (x &&& m).toInt ≤ m.toInt := by
  obtain ⟨e, hm⟩ := nn32 h
  have h1 : (x &&& m).toBitVec.toNat ≤ m.toBitVec.toNat := by
    rw [Int32.toBitVec_and, BitVec.toNat_and]; exact Nat.and_le_right
  rw [of_nn (x := x &&& m) (by omega), e]; omega
theorem len32 {n : Nat} (h : n < 2147483648) : (n.toInt32).toInt = n := by
  rw [show n.toInt32 = Int32.ofNat n from rfl, Int32.toInt_ofNat_of_lt (by omega)]
end Num2
end Jvm.JX

namespace Jvm.JX
open Sem ClassFile Op Lib
end Jvm.JX

namespace Jvm.JX
open Sem ClassFile Op Lib Jvm.Stand Jvm.Free Jvm.LawKit Jvm.RoadKit
def CRel (C : String) (fn : Nat → String × String) (F : List Nat) (Z : State) (n0 : Nat) (h : Heap) (a : Nat) (c : Cel) : Prop :=
  (c.2.2.1 = true → n0 ≤ a) ∧
  match c.1 with
  | .object _ => Exa Z h a C ∧ ∀ k ∈ F, Fld Z h a C (fn k).1 (fn k).2 (c.2.2.2 k)
  | .array t => c.2.1 < 2 ^ 31 ∧ ∃ cl : Cell, Arr Z h a cl t ∧ cl.slots.size = c.2.1 ∧ ∀ i, i < c.2.1 → cl.slots[i]? = some (c.2.2.2 i)
  | _ => True
def RelH (C : String) (fn : Nat → String × String) (F : List Nat) (Z : State) (n0 : Nat) (h : Heap) (H : AH) : Prop := h.size = H.1 ∧ n0 ≤ H.1 ∧ ∀ a, CRel C fn F Z n0 h a (H.2 a)
def ilen2 : Instr → Nat → Nat
  | .tableswitch _ _ _ _, l => l
  | i, _ => ilen i
def RowOk (P : Prog) (tb : List Jvm.Cond) (C : String) (fn : Nat → String × String) (F : List Nat) (nsl : Nat) (nm : Nat → MethodName) (R : List Nat) (m : Nat) (ins : Instr) (aux : Int) : Prop :=
  match ins with
  | .getfield i => aux.toNat ∈ F ∧ Jvm.Cond.fieldLink (nm m).cls i C (fn aux.toNat).1 (fn aux.toNat).2 ∈ tb
  | .putfield i => aux.toNat ∈ F ∧ Jvm.Cond.fieldLink (nm m).cls i C (fn aux.toNat).1 (fn aux.toNat).2 ∈ tb ∧ (Jvm.Cond.lays C C (fn aux.toNat).1 (fn aux.toNat).2 ∈ tb ∨ (nm m).cls = C ∧ (nm m).name = "<init>")
  | .new i => aux.toNat = nsl ∧ Jvm.Cond.classLink (nm m).cls i C ∈ tb
  | .newarray t => Jvm.Cond.arrayClass (newarray.typeOf t) ∈ tb
  | .ldc i => Jvm.Cond.constant (nm m).cls i (Int32.ofInt aux) ∈ tb
  | .ldc2_w i => Jvm.Cond.constantLong (nm m).cls i (Int64.ofInt aux) ∈ tb
  | .invokevirtual i => aux.toNat ∈ R ∧ Jvm.Cond.methodLink (nm m).cls i (nm aux.toNat) ∈ tb
  | .invokestatic i => aux.toNat ∈ R ∧ Jvm.Cond.methodLink (nm m).cls i (nm aux.toNat) ∈ tb
  | .invokespecial i => (aux = -1 → Jvm.Cond.methodLink (nm m).cls i Lib.objectInit ∈ tb ∧ Jvm.Cond.instanceMethod Lib.objectInit ∈ tb ∧ Jvm.Cond.code Lib.objectInit ⟨#[0xb1]⟩ 1 none ∈ tb) ∧ (0 ≤ aux → aux.toNat ∈ R ∧ Jvm.Cond.methodLink (nm m).cls i (nm aux.toNat) ∈ tb)
  | _ => True
def CalOk (P : Prog) (tb : List Jvm.Cond) (C : String) (nm : Nat → MethodName) (bt : Nat → ByteArray) (m : Nat) : Prop :=
  Jvm.Cond.code (nm m) (bt m) (ml P m) (rt P m) ∈ tb ∧ Jvm.Cond.initialized (nm m).cls ∈ tb ∧ (∃ ps r, parseMethodDescriptor (nm m).desc = some ⟨ps, r⟩ ∧ ps.length + (if kd P m = 0 then 0 else 1) = na P m) ∧
  (kd P m = 0 → Jvm.Cond.static (nm m) ∈ tb) ∧
  (kd P m ≠ 0 → (nm m).cls = C ∧ Jvm.Cond.instanceMethod (nm m) ∈ tb) ∧
  (kd P m = 1 → Jvm.Cond.declares (nm m) ∈ tb ∧ Jvm.Cond.selects C (nm m) (nm m) ∈ tb) ∧
  (kd P m = 2 → Jvm.Cond.privateMethod (nm m) ∈ tb) ∧
  (kd P m = 3 → (nm m).name = "<init>" ∧ rt P m = none)
def Good (P : Prog) (tb : List Jvm.Cond) (C : String) (fn : Nat → String × String) (F : List Nat) (nsl : Nat) (nm : Nat → MethodName) (bt : Nat → ByteArray) (R : List Nat) (top : Nat) : Prop :=
  Jvm.Cond.instantiable C nsl ∈ tb ∧ Jvm.Cond.initialized C ∈ tb ∧
  (∀ k ∈ F, parseFieldDescriptor (fn k).2 = some (P.2.2.1 k) ∧ (Jvm.Cond.lays C C (fn k).1 (fn k).2 ∈ tb ∨ Jvm.Cond.laysFinal C C (fn k).1 (fn k).2 ∈ tb)) ∧
  (∀ j ∈ F, ∀ k ∈ F, (fn j).1 = (fn k).1 → j = k) ∧
  (∀ m ∈ R, plainName (nm m).cls = true ∧ ((nm m).cls ≠ "java/lang/invoke/MethodHandle" ∧ (nm m).cls ≠ "java/lang/invoke/VarHandle") ∧
    ∀ pc ins len aux, P.1 m pc = some (ins, len, aux) → decode (bt m) pc = .ok (ins, len) ∧ len = ilen2 ins len ∧ RowOk P tb C fn F nsl nm R m ins aux) ∧
  (∀ m ∈ R, m ≠ top → CalOk P tb C nm bt m) ∧
  (∀ m ∈ R, ∀ pc ins len aux, P.1 m pc = some (ins, len, aux) → aux = (top : Int) → kindOk ins (kd P top) = false)
section Rel
variable {C : String} {fn : Nat → String × String} {F : List Nat} {Z : State} {n0 : Nat} {h h' : Heap} {H : AH}
theorem RelH.obj (r : RelH C fn F Z n0 h H) {a : Nat} (ha : isO H a = true) : Exa Z h a C ∧ ∀ k ∈ F, Fld Z h a C (fn k).1 (fn k).2 (fld H a k) := by
  have q := (r.2.2 a).2
  unfold isO at ha
  cases hk : (H.2 a).1 <;> rw [hk] at ha <;> first | (cases ha; done) | (simp only [hk] at q; exact q)
theorem RelH.own (r : RelH C fn F Z n0 h H) {a : Nat} (ha : (H.2 a).2.2.1 = true) : n0 ≤ a := (r.2.2 a).1 ha
theorem RelH.arr (r : RelH C fn F Z n0 h H) {a : Nat} {t : FieldType} (ha : (H.2 a).1 = .array t) : (H.2 a).2.1 < 2 ^ 31 ∧ ∃ cl : Cell, Arr Z h a cl t ∧ cl.slots.size = (H.2 a).2.1 ∧ ∀ i, i < (H.2 a).2.1 → cl.slots[i]? = some ((H.2 a).2.2.2 i) := by
  have q := (r.2.2 a).2
  simp only [ha] at q; exact q
theorem RelH.ext (r : RelH C fn F Z n0 h H) (E : Ext h h') {c : Cel} (hs : h'.size = h.size + 1) (hc : CRel C fn F Z n0 h' h.size c) : RelH C fn F Z n0 h' (H.1 + 1, fun b => if b = H.1 then c else H.2 b) := by
  refine ⟨by rw [hs, r.1], Nat.le_succ_of_le r.2.1, fun a => ?_⟩
  by_cases e : a = H.1
  · subst e; simp only [if_true]; rw [← r.1]; exact hc
  · simp only [e, if_false]
    obtain ⟨q1, q2⟩ := r.2.2 a
    refine ⟨q1, ?_⟩
    cases hk : (H.2 a).1 <;> simp only [hk] at q2 ⊢
    · exact ⟨q2.1.ext E, fun k hk => (q2.2 k hk).ext E⟩
    · obtain ⟨q3, cl, q4, q5⟩ := q2; exact ⟨q3, cl, q4.ext E, q5⟩
end Rel
def Go (C : String) (fn : Nat → String × String) (F : List Nat) (Z : State) (n0 : Nat) (p : Program) (l : Launch) (e : Env) (R : Jvm.Room) (s : State) (mid : MethodId) (args : Array Value) (below : List Frame) (meth : Method) (c : Code) (start : State) (nl : Nat) (q : Fm) : Prop :=
  ∃ T' locs', Stand p l e R s mid args below meth c T' locs' q.2.2.2.1 q.2.2.2.2.1 ∧ RelH C fn F Z n0 T'.heap q.2.2.2.2.2 ∧ Fr n0 locs' ∧ q.2.2.2.1 ≤ R.cells ∧ q.2.2.2.2.1 ≤ R.slots ∧ q.2.1.length = nl ∧
    ∀ target, Steps p.tables e below (T'.setTop (mkF mid q.1 q.2.1.toArray q.2.2.1)) target → Steps p.tables e below start target
theorem lrem_mod (x y : Int64) : x - (x / y) * y = x % y := by
  apply Int64.toInt_inj.mp
  have h1 := Int64.le_toInt (x % y)
  have h2 := Int64.toInt_lt (x % y)
  rw [Int64.toInt_sub, Int64.toInt_mul, Int64.toInt_div, Int.bmod_mul_bmod, Int.sub_bmod_bmod, Int.mul_comm (x.toInt.tdiv y.toInt), ← Int.tmod_def, ← Int64.toInt_mod]
  exact Int.bmod_eq_of_le_mul_two (by omega) (by omega)
theorem arr_get {L : List Slot} {i : Nat} {o : Slot} (h : L[i]? = some o) : L.toArray[i]? = some o := by simpa using h
theorem stl_ok {L L' : List Slot} {i : Nat} {v : Value} (hv : v.category = 1) (h : stl L i v = some L') : storeLocals L.toArray i v = some L'.toArray ∧ L'.length = L.length := by
  unfold stl at h
  unfold storeLocals
  cases hi : L[i]? with
  | none => rw [hi] at h; cases h
  | some o =>
    have hlt : i < L.length := (List.getElem?_eq_some_iff.mp hi).1
    rw [hi] at h
    rw [arr_get hi]
    cases o with
    | unset => cases h; simp [storeSelf, setAt, hlt, hv]
    | second =>
      simp only at h
      split at h
      · cases h; simp [storeSelf, setAt, hv, hlt, Nat.lt_of_le_of_lt (Nat.sub_le i 1) hlt]
      · cases h
    | val w =>
      simp only at h
      split at h
      · rename_i hw; cases h; simp [storeSelf, setAt, hv, hlt, hw]
      · rename_i hw
        split at h
        · rename_i h1
          have hw2 : w.category = 2 := by cases w <;> simp [Value.category] at hw ⊢
          cases h; simp [storeSelf, setAt, hv, hlt, hw2, h1]
        · cases h
theorem stL_ok {L L' : List Slot} {i : Nat} {v : Value} (hv : v.category = 2) (h : stL L i v = some L') : storeLocals L.toArray i v = some L'.toArray ∧ L'.length = L.length := by
  unfold stL at h
  unfold storeLocals
  cases hi : L[i]? with
  | none => rw [hi] at h; cases h
  | some o =>
    cases hi2 : L[i + 1]? with
    | none => rw [hi, hi2] at h; cases o <;> cases h
    | some o2 =>
      have hlt : i < L.length := (List.getElem?_eq_some_iff.mp hi).1
      have hlt2 : i + 1 < L.length := (List.getElem?_eq_some_iff.mp hi2).1
      rw [hi, hi2] at h
      rw [arr_get hi]
      have g2 : (L.set i (.val v))[i + 1]? = some o2 := by rw [List.getElem?_set_ne (by omega)]; exact hi2
      have g4 : L[i + 1] = o2 := (List.getElem?_eq_some_iff.mp hi2).2
      cases o with
      | second => cases h
      | unset =>
        simp only at h
        split at h
        · rename_i hc
          cases h
          cases o2 with
          | second => cases hc
          | unset => simp [storeSelf, setAt, hv, hlt, hlt2, g2, g4]
          | val w => simp only [cat1, beq_iff_eq] at hc; simp [storeSelf, setAt, hv, hlt, hlt2, g2, g4, hc]
        · cases h
      | val w =>
        simp only at h
        split at h
        · rename_i hw
          cases h
          have g3 : ((L.set (i + 1) .unset).set i (.val v))[i + 1]? = some .unset := by rw [List.getElem?_set_ne (by omega)]; simp [hlt2]
          simp [storeSelf, setAt, hv, hlt, hlt2, hw, g3]
          rw [List.set_comm _ _ (by omega), List.set_set, List.set_comm _ _ (by omega)]
        · rename_i hw
          have hw1 : ¬ w.category = 2 := hw
          split at h
          · rename_i hc
            cases h
            cases o2 with
            | second => cases hc
            | unset => simp [storeSelf, setAt, hv, hlt, hlt2, g2, g4, hw1]
            | val w => simp only [cat1, beq_iff_eq] at hc; simp [storeSelf, setAt, hv, hlt, hlt2, g2, g4, hw1, hc]
          · cases h
theorem jmp_ok {pc q : Nat} {o : Int} (h : jmp pc o = some q) : 0 ≤ (pc : Int) + o ∧ ((pc : Int) + o).toNat = q := by
  unfold jmp at h
  split at h
  · rename_i g; cases h; exact ⟨g, rfl⟩
  · cases h
theorem ldI_ok {L : List Slot} {i : Nat} {v : Value} (h : ldI L i = some v) : ∃ x, v = .int x ∧ L.toArray[i]? = some (.val (.int x)) := by
  unfold ldI at h
  split at h
  · rename_i x e; cases h; exact ⟨x, rfl, arr_get e⟩
  · cases h
theorem ldJ_ok {L : List Slot} {i : Nat} {v : Value} (h : ldJ L i = some v) : ∃ x, v = .long x ∧ L.toArray[i]? = some (.val (.long x)) := by
  unfold ldJ at h
  split at h
  · rename_i x e; cases h; exact ⟨x, rfl, arr_get e⟩
  · cases h
theorem ldR_ok {L : List Slot} {i : Nat} {v : Value} (h : ldR L i = some v) : ∃ x, v = .ref x ∧ L.toArray[i]? = some (.val (.ref x)) := by
  unfold ldR at h
  split at h
  · rename_i x e; cases h; exact ⟨x, rfl, arr_get e⟩
  · cases h
theorem okv_ok {t : FieldType} {v : Value} (h : okv t v = true) : narrow t v = v ∧ fits t v = true := by
  unfold okv at h
  split at h
  · exact ⟨rfl, rfl⟩
  · rename_i z
    simp only [Bool.or_eq_true, beq_iff_eq] at h
    rcases h with rfl | rfl <;> exact ⟨rfl, rfl⟩
  · rename_i z
    simp only [beq_iff_eq] at h
    have q := fits_nar_byte z
    rw [h] at q
    exact ⟨by show Value.int _ = _; rw [h], q⟩
  · exact ⟨rfl, rfl⟩
  · exact ⟨rfl, rfl⟩
  · cases h
end Jvm.JX

namespace Jvm.JX
open Sem ClassFile Op Lib Jvm.Stand Jvm.Free Jvm.LawKit Jvm.RoadKit
section Step
variable {P : Prog} {tb : List Jvm.Cond} {C : String} {fn : Nat → String × String} {F : List Nat} {nsl : Nat} {nm : Nat → MethodName} {bt : Nat → ByteArray} {R : List Nat} {top : Nat}
variable {l : Launch} {Z : State} {a0 : Array Value} {n0 : Nat} {m pc len k n : Nat} {aux : Int} {L : List Slot} {S : List Value} {H : AH} {ins : Instr} {q : Fm}
variable {p : Program} {e : Env} {s : State} {mid : MethodId} {args : Array Value} {below : List Frame} {meth : Method} {c : Code} {T : State} {locs : List Loc} {Rm : Jvm.Room}
theorem go_same {start : State} {nl pc' : Nat} {L' : List Slot} {S' : List Value} (X : Stand p l e Rm s mid args below meth c T locs k n) (r : RelH C fn F Z n0 T.heap H) (N : Fr n0 locs) (hk : k ≤ Rm.cells) (hn : n ≤ Rm.slots) (hL : L'.length = nl)
    (st : ∀ target, Steps p.tables e below (T.setTop (mkF mid pc' L'.toArray S')) target → Steps p.tables e below start target) : Go C fn F Z n0 p l e Rm s mid args below meth c start nl (pc', L', S', k, n, H) := ⟨T, locs, X, r, N, hk, hn, hL, st⟩
theorem go_heap {start : State} {nl pc' : Nat} {L' : List Slot} {S' : List Value} {T' : State} (X : Stand p l e Rm s mid args below meth c T' locs k n) (r : RelH C fn F Z n0 T.heap H) (hh : T'.heap = T.heap) (N : Fr n0 locs) (hk : k ≤ Rm.cells) (hn : n ≤ Rm.slots) (hL : L'.length = nl)
    (st : ∀ target, Steps p.tables e below (T'.setTop (mkF mid pc' L'.toArray S')) target → Steps p.tables e below start target) : Go C fn F Z n0 p l e Rm s mid args below meth c start nl (pc', L', S', k, n, H) := ⟨T', locs, X, by rw [hh]; exact r, N, hk, hn, hL, st⟩
theorem idx_not {i : Int32} {n : Nat} (h1 : ¬ i < 0) (h2 : i.toNatClampNeg < n) : ¬ (i < 0 ∨ n ≤ i.toNatClampNeg) := fun h => h.elim h1 (Nat.not_le.mpr h2)
theorem inA_ok {a : Nat} {t : FieldType} {i : Int32} (h : inA H a t i = true) : (H.2 a).1 = .array t ∧ ¬ i < 0 ∧ i.toNatClampNeg < (H.2 a).2.1 := by
  simpa [inA, and_assoc] using h
theorem inAw_ok {a : Nat} {t : FieldType} {i : Int32} (h : inAw H a t i = true) : inA H a t i = true ∧ (H.2 a).2.2.1 = true := by
  simpa [inAw] using h
theorem isOw_ok {a : Nat} (h : isOw H a = true) : isO H a = true ∧ (H.2 a).2.2.1 = true := by simpa [isOw] using h
theorem RelH.wrF {h h' : Heap} {a j : Nat} {v : Value} (hG : Good P tb C fn F nsl nm bt R top) (hw : ∀ d ∈ tb, d.before a0 Z = true) (r : RelH C fn F Z n0 h H) (ha : isO H a = true) (hj : j ∈ F) (Wt : Wr h h' a (Jvm.RoadKit.slotOf Z C (fn j).1 (fn j).2) v) : RelH C fn F Z n0 h' (wr H a j v) := by
  refine ⟨by rw [Wt.size]; exact r.1, r.2.1, fun b => ?_⟩
  by_cases e : b = a
  · subst e
    obtain ⟨q1, q2⟩ := r.2.2 b
    obtain ⟨E, Fs⟩ := r.obj ha
    simp only [wr, if_true]
    refine ⟨q1, ?_⟩
    unfold isO at ha
    cases hk : (H.2 b).1 <;> rw [hk] at ha <;> try (cases ha; done)
    simp only
    refine ⟨E.wr Wt, fun i hi => ?_⟩
    by_cases e2 : i = j
    · subst e2; simp only [if_true]; exact (Fs i hi).same Wt
    · simp only [e2, if_false]
      refine (Fs i hi).other Wt (Or.inr ?_)
      have lw : ∀ k ∈ F, Laid Z a0 C C (fn k).1 (fn k).2 := fun k hk => ((hG.2.2.1 k hk).2).imp (hw _) (hw _)
      exact slot_ne (lw i hi) (lw j hj) (fun q => e2 (hG.2.2.2.1 i hi j hj q)) (hG.2.2.1 i hi).1 (hG.2.2.1 j hj).1
  · simp only [wr, e, if_false]
    obtain ⟨q1, q2⟩ := r.2.2 b
    refine ⟨q1, ?_⟩
    cases hk : (H.2 b).1 <;> simp only [hk] at q2 ⊢
    · exact ⟨q2.1.wr Wt, fun k hk => (q2.2 k hk).other Wt (Or.inl e)⟩
    · obtain ⟨q3, cl, q4, q5⟩ := q2; exact ⟨q3, cl, q4.other Wt e, q5⟩
theorem RelH.wrA {h h' : Heap} {a j : Nat} {t : FieldType} {v : Value} (r : RelH C fn F Z n0 h H) (ha : (H.2 a).1 = .array t) (hj : j < (H.2 a).2.1) (Wt : Wr h h' a j v) : RelH C fn F Z n0 h' (wr H a j v) := by
  refine ⟨by rw [Wt.size]; exact r.1, r.2.1, fun b => ?_⟩
  by_cases e : b = a
  · subst e
    obtain ⟨q1, q2⟩ := r.2.2 b
    obtain ⟨g1, cl, g2, g3, g4⟩ := r.arr ha
    simp only [wr, if_true]
    refine ⟨q1, ?_⟩
    simp only [ha]
    refine ⟨g1, cl.setSlot j v, g2.same Wt, by rw [sz_set]; exact g3, fun i hi => ?_⟩
    by_cases e2 : i = j
    · subst e2; simp [Cell.setSlot, g3, hj]
    · simp only [e2, if_false]; rw [← g4 i hi]; exact Array.getElem?_setIfInBounds_ne (Ne.symm e2)
  · simp only [wr, e, if_false]
    obtain ⟨q1, q2⟩ := r.2.2 b
    refine ⟨q1, ?_⟩
    cases hk : (H.2 b).1 <;> simp only [hk] at q2 ⊢
    · exact ⟨q2.1.wr Wt, fun k hk => (q2.2 k hk).other Wt (Or.inl e)⟩
    · obtain ⟨q3, cl, q4, q5⟩ := q2; exact ⟨q3, cl, q4.other Wt e, q5⟩
theorem ext_push (h : Heap) (x : Cell) : Ext h (h.push x) := ⟨by simp, fun a c q => by rw [Array.getElem?_push_lt (Array.getElem?_eq_some_iff.mp q).1]; exact (Array.getElem?_eq_getElem _).symm.trans q⟩
theorem made_obj {h : Heap} {cC : ClassId} {kC : Class} (hZ : Z.Warmed39 s.vm) (h1 : s.vm.findClass C = some cC) (h2 : s.vm.classes[cC]? = some kC) :
    Exa Z (h.push { cls := cC, slots := kC.instanceTypes.map defaultValue, vm := .none }) h.size C ∧ ∀ {nm d : String} {ty : FieldType}, Laid Z a0 C C nm d → parseFieldDescriptor d = some ty → Fld Z (h.push { cls := cC, slots := kC.instanceTypes.map defaultValue, vm := .none }) h.size C nm d (defaultValue ty) := by
  rw [hZ.alike.findClass] at h1
  obtain ⟨kZ, z1, -⟩ := Vm.findClass_spec h1
  obtain ⟨k', z2, z3⟩ := hZ.alike.2.2 _ _ z1
  cases h2.symm.trans z2
  have ei : kC.instanceTypes = kZ.instanceTypes := by rw [z3]
  have hN : ∀ x : Cell, (h.push x)[h.size]? = some x := fun x => by simp
  refine ⟨⟨_, kZ, hN _, h1, z1, rfl, fun _ => by simp [ei]⟩, fun {nm d ty} lw ht => ?_⟩
  obtain ⟨c1, k1, cf, kf, i, f, a1, a2, a3, a4, a5, a6, -⟩ := lw.spec
  cases h1.symm.trans a1
  cases z1.symm.trans a2
  exact ⟨_, cf, kf, i, f, hN _, a3, a4, by simp, rfl, a5, by simp [ei, a6, (State.fieldFound?_type a3 ht).2]⟩
theorem made_arr {h : Heap} {t : FieldType} {cA comp : ClassId} {kA : Class} {xs : Array Value} (hZ : Z.Warmed39 s.vm) (h1 : s.vm.findClass ("[" ++ t.toString) = some cA) (h2 : s.vm.classes[cA]? = some kA) (h3 : kA.kind = .array comp t) : Arr Z (h.push { cls := cA, slots := xs, vm := .none }) h.size { cls := cA, slots := xs, vm := .none } t := by
  rw [hZ.alike.findClass] at h1
  obtain ⟨kZ, z1, -⟩ := Vm.findClass_spec h1
  obtain ⟨k', z2, z3⟩ := hZ.alike.2.2 _ _ z1
  cases h2.symm.trans z2
  exact ⟨by simp, ⟨by simp, kZ, z1, comp, by rw [← h3, z3]⟩, by simp⟩
set_option maxHeartbeats 4000000 in
theorem stp_go (hG : Good P tb C fn F nsl nm bt R top) (hw : ∀ d ∈ tb, d.before a0 Z = true) (hm : m ∈ R) (hrow : P.1 m pc = some (ins, len, aux)) (h : stp P m ins len aux pc L S k n H = some q) (X : Stand p l e (rm P m) s mid args below meth c T locs k n) (hx : p.tables.exec = Jvm.exec) (hZ : Z.Warmed39 s.vm)
    (hby : c.code = bt m) (hml : c.maxLocals = ml P m) (hown : s.vm.findClass (nm m).cls = some mid.cls) (hnm : meth.name = (nm m).name) (hL : L.length = ml P m) (r : RelH C fn F Z n0 T.heap H) (N : Fr n0 locs) (hk : k ≤ (rm P m).cells) (hn : n ≤ (rm P m).slots) :
    Go C fn F Z n0 p l e (rm P m) s mid args below meth c (T.setTop (mkF mid pc L.toArray S)) (ml P m) q := by
  obtain ⟨hd, hl, ho⟩ := (hG.2.2.2.2.1 m hm).2.2 pc ins len aux hrow
  replace hd := hb hby hd
  cases ins with
  | iconst i =>
    have hl : len = 1 := hl; subst hl
    obtain rfl := Option.some.inj h
    exact go_same X r N hk hn hL fun t g => XS.iconst X.here hx rfl hd g
  | bipush i =>
    have hl : len = 2 := hl; subst hl
    obtain rfl := Option.some.inj h
    exact go_same X r N hk hn hL fun t g => XS.bipush X.here hx rfl hd g
  | sipush i =>
    have hl : len = 3 := hl; subst hl
    obtain rfl := Option.some.inj h
    exact go_same X r N hk hn hL fun t g => XS.sipush X.here hx rfl hd g
  | lconst i =>
    have hl : len = 1 := hl; subst hl
    obtain rfl := Option.some.inj h
    exact go_same X r N hk hn hL fun t g => XT.lconst X.here hx rfl hd g
  | ldc i =>
    have hl : len = 2 := hl; subst hl
    obtain rfl := Option.some.inj h
    exact go_same X r N hk hn hL fun t g => X.ldcI hx hown (mv hZ (hw _ ho)) rfl hd g
  | ldc2_w i =>
    have hl : len = 3 := hl; subst hl
    obtain rfl := Option.some.inj h
    exact go_same X r N hk hn hL fun t g => X.ldc2J hx hown (mv hZ (hw _ ho)) rfl hd g
  | iload i =>
    have hl : len = 2 := hl; subst hl
    obtain ⟨v, hv, rfl⟩ := Option.map_eq_some_iff.mp h
    obtain ⟨x, rfl, hg⟩ := ldI_ok hv
    exact go_same X r N hk hn hL fun t g => XS.iload X.here hx rfl hd hg g
  | iload_n i =>
    have hl : len = 1 := hl; subst hl
    obtain ⟨v, hv, rfl⟩ := Option.map_eq_some_iff.mp h
    obtain ⟨x, rfl, hg⟩ := ldI_ok hv
    exact go_same X r N hk hn hL fun t g => XS.iloadN X.here hx rfl hd hg g
  | lload i =>
    have hl : len = 2 := hl; subst hl
    obtain ⟨v, hv, rfl⟩ := Option.map_eq_some_iff.mp h
    obtain ⟨x, rfl, hg⟩ := ldJ_ok hv
    exact go_same X r N hk hn hL fun t g => XT.lload X.here hx rfl hd hg g
  | lload_n i =>
    have hl : len = 1 := hl; subst hl
    obtain ⟨v, hv, rfl⟩ := Option.map_eq_some_iff.mp h
    obtain ⟨x, rfl, hg⟩ := ldJ_ok hv
    exact go_same X r N hk hn hL fun t g => XT.lloadN X.here hx rfl hd hg g
  | aload i =>
    have hl : len = 2 := hl; subst hl
    obtain ⟨v, hv, rfl⟩ := Option.map_eq_some_iff.mp h
    obtain ⟨x, rfl, hg⟩ := ldR_ok hv
    exact go_same X r N hk hn hL fun t g => XS.aload X.here hx rfl hd hg rfl g
  | aload_n i =>
    have hl : len = 1 := hl; subst hl
    obtain ⟨v, hv, rfl⟩ := Option.map_eq_some_iff.mp h
    obtain ⟨x, rfl, hg⟩ := ldR_ok hv
    exact go_same X r N hk hn hL fun t g => XS.aloadN X.here hx rfl hd hg rfl g
  | istore i =>
    have hl : len = 2 := hl; subst hl
    dsimp only [stp] at h
    split at h
    · rename_i x S'
      obtain ⟨L', hv, rfl⟩ := Option.map_eq_some_iff.mp h
      obtain ⟨g1, g2⟩ := stl_ok rfl hv
      exact go_same X r N hk hn (g2.trans hL) fun t g => XS.istore X.here hx rfl hd rfl g1 g
    · cases h
  | istore_n i =>
    have hl : len = 1 := hl; subst hl
    dsimp only [stp] at h
    split at h
    · rename_i x S'
      obtain ⟨L', hv, rfl⟩ := Option.map_eq_some_iff.mp h
      obtain ⟨g1, g2⟩ := stl_ok rfl hv
      exact go_same X r N hk hn (g2.trans hL) fun t g => XS.istoreN X.here hx rfl hd rfl g1 g
    · cases h
  | astore i =>
    have hl : len = 2 := hl; subst hl
    dsimp only [stp] at h
    split at h
    · rename_i x S'
      obtain ⟨L', hv, rfl⟩ := Option.map_eq_some_iff.mp h
      obtain ⟨g1, g2⟩ := stl_ok rfl hv
      exact go_same X r N hk hn (g2.trans hL) fun t g => XS.astore X.here hx rfl hd rfl rfl g1 g
    · cases h
  | astore_n i =>
    have hl : len = 1 := hl; subst hl
    dsimp only [stp] at h
    split at h
    · rename_i x S'
      obtain ⟨L', hv, rfl⟩ := Option.map_eq_some_iff.mp h
      obtain ⟨g1, g2⟩ := stl_ok rfl hv
      exact go_same X r N hk hn (g2.trans hL) fun t g => XS.astoreN X.here hx rfl hd rfl rfl g1 g
    · cases h
  | lstore i =>
    have hl : len = 2 := hl; subst hl
    dsimp only [stp] at h
    split at h
    · rename_i x S'
      obtain ⟨L', hv, rfl⟩ := Option.map_eq_some_iff.mp h
      obtain ⟨g1, g2⟩ := stL_ok rfl hv
      exact go_same X r N hk hn (g2.trans hL) fun t g => XT.lstore X.here hx rfl hd rfl g1 g
    · cases h
  | lstore_n i =>
    have hl : len = 1 := hl; subst hl
    dsimp only [stp] at h
    split at h
    · rename_i x S'
      obtain ⟨L', hv, rfl⟩ := Option.map_eq_some_iff.mp h
      obtain ⟨g1, g2⟩ := stL_ok rfl hv
      exact go_same X r N hk hn (g2.trans hL) fun t g => XT.lstoreN X.here hx rfl hd rfl g1 g
    · cases h
  | iinc i cst =>
    have hl : len = 3 := hl; subst hl
    dsimp only [stp] at h
    split at h
    · rename_i x hx1
      obtain rfl := Option.some.inj h
      have g1 : storeLocals L.toArray i (.int (x + Int32.ofInt cst)) = some (L.set i (.val (.int (x + Int32.ofInt cst)))).toArray := (stl_ok rfl (stl_plain hx1 rfl)).1
      exact go_same X r N hk hn (by simpa using hL) fun t g => XS.iinc X.here hx rfl hd (arr_get hx1) g1 g
    · cases h
  | iadd =>
    have hl : len = 1 := hl; subst hl
    dsimp only [stp] at h
    split at h
    · rename_i y x S'
      obtain rfl := Option.some.inj h
      exact go_same X r N hk hn hL fun t g => XS.iadd X.here hx rfl hd rfl g
    · cases h
  | isub =>
    have hl : len = 1 := hl; subst hl
    dsimp only [stp] at h
    split at h
    · rename_i y x S'
      obtain rfl := Option.some.inj h
      exact go_same X r N hk hn hL fun t g => XS.isub X.here hx rfl hd rfl g
    · cases h
  | imul =>
    have hl : len = 1 := hl; subst hl
    dsimp only [stp] at h
    split at h
    · rename_i y x S'
      obtain rfl := Option.some.inj h
      exact go_same X r N hk hn hL fun t g => XS.imul X.here hx rfl hd rfl g
    · cases h
  | iand =>
    have hl : len = 1 := hl; subst hl
    dsimp only [stp] at h
    split at h
    · rename_i y x S'
      obtain rfl := Option.some.inj h
      exact go_same X r N hk hn hL fun t g => XS.iand X.here hx rfl hd rfl g
    · cases h
  | ior =>
    have hl : len = 1 := hl; subst hl
    dsimp only [stp] at h
    split at h
    · rename_i y x S'
      obtain rfl := Option.some.inj h
      exact go_same X r N hk hn hL fun t g => XT.ior X.here hx rfl hd rfl g
    · cases h
  | ixor =>
    have hl : len = 1 := hl; subst hl
    dsimp only [stp] at h
    split at h
    · rename_i y x S'
      obtain rfl := Option.some.inj h
      exact go_same X r N hk hn hL fun t g => XT.ixor X.here hx rfl hd rfl g
    · cases h
  | ishl =>
    have hl : len = 1 := hl; subst hl
    dsimp only [stp] at h
    split at h
    · rename_i y x S'
      obtain rfl := Option.some.inj h
      exact go_same X r N hk hn hL fun t g => XT.ishl X.here hx rfl hd rfl g
    · cases h
  | ishr =>
    have hl : len = 1 := hl; subst hl
    dsimp only [stp] at h
    split at h
    · rename_i y x S'
      obtain rfl := Option.some.inj h
      exact go_same X r N hk hn hL fun t g => XT.ishr X.here hx rfl hd rfl g
    · cases h
  | iushr =>
    have hl : len = 1 := hl; subst hl
    dsimp only [stp] at h
    split at h
    · rename_i y x S'
      obtain rfl := Option.some.inj h
      exact go_same X r N hk hn hL fun t g => XT.iushr X.here hx rfl hd rfl g
    · cases h
  | ladd =>
    have hl : len = 1 := hl; subst hl
    dsimp only [stp] at h
    split at h
    · rename_i y x S'
      obtain rfl := Option.some.inj h
      exact go_same X r N hk hn hL fun t g => XT.ladd X.here hx rfl hd rfl g
    · cases h
  | lsub =>
    have hl : len = 1 := hl; subst hl
    dsimp only [stp] at h
    split at h
    · rename_i y x S'
      obtain rfl := Option.some.inj h
      exact go_same X r N hk hn hL fun t g => XT.lsub X.here hx rfl hd rfl g
    · cases h
  | lmul =>
    have hl : len = 1 := hl; subst hl
    dsimp only [stp] at h
    split at h
    · rename_i y x S'
      obtain rfl := Option.some.inj h
      exact go_same X r N hk hn hL fun t g => XT.lmul X.here hx rfl hd rfl g
    · cases h
  | land =>
    have hl : len = 1 := hl; subst hl
    dsimp only [stp] at h
    split at h
    · rename_i y x S'
      obtain rfl := Option.some.inj h
      exact go_same X r N hk hn hL fun t g => XT.land X.here hx rfl hd rfl g
    · cases h
  | lor =>
    have hl : len = 1 := hl; subst hl
    dsimp only [stp] at h
    split at h
    · rename_i y x S'
      obtain rfl := Option.some.inj h
      exact go_same X r N hk hn hL fun t g => XT.lor X.here hx rfl hd rfl g
    · cases h
  | lxor =>
    have hl : len = 1 := hl; subst hl
    dsimp only [stp] at h
    split at h
    · rename_i y x S'
      obtain rfl := Option.some.inj h
      exact go_same X r N hk hn hL fun t g => XT.lxor X.here hx rfl hd rfl g
    · cases h
  | lshl =>
    have hl : len = 1 := hl; subst hl
    dsimp only [stp] at h
    split at h
    · rename_i y x S'
      obtain rfl := Option.some.inj h
      exact go_same X r N hk hn hL fun t g => XT.lshl X.here hx rfl hd rfl g
    · cases h
  | lshr =>
    have hl : len = 1 := hl; subst hl
    dsimp only [stp] at h
    split at h
    · rename_i y x S'
      obtain rfl := Option.some.inj h
      exact go_same X r N hk hn hL fun t g => XT.lshr X.here hx rfl hd rfl g
    · cases h
  | lushr =>
    have hl : len = 1 := hl; subst hl
    dsimp only [stp] at h
    split at h
    · rename_i y x S'
      obtain rfl := Option.some.inj h
      exact go_same X r N hk hn hL fun t g => XT.lushr X.here hx rfl hd rfl g
    · cases h
  | idiv =>
    have hl : len = 1 := hl; subst hl
    dsimp only [stp] at h
    split at h
    · rename_i y x S'
      split at h
      · cases h
      · rename_i g0
        obtain rfl := Option.some.inj h
        exact go_same X r N hk hn hL fun t g => XS.idiv X.here hx rfl hd rfl g0 g
    · cases h
  | irem =>
    have hl : len = 1 := hl; subst hl
    dsimp only [stp] at h
    split at h
    · rename_i y x S'
      split at h
      · cases h
      · rename_i g0
        obtain rfl := Option.some.inj h
        exact go_same X r N hk hn hL fun t g => iremM X hx rfl hd rfl g0 g
    · cases h
  | ldiv =>
    have hl : len = 1 := hl; subst hl
    dsimp only [stp] at h
    split at h
    · rename_i y x S'
      split at h
      · cases h
      · rename_i g0
        obtain rfl := Option.some.inj h
        exact go_same X r N hk hn hL fun t g => XT.ldiv X.here hx rfl hd rfl g0 g
    · cases h
  | lrem =>
    have hl : len = 1 := hl; subst hl
    dsimp only [stp] at h
    split at h
    · rename_i y x S'
      split at h
      · cases h
      · rename_i g0
        obtain rfl := Option.some.inj h
        exact go_same X r N hk hn hL fun t g => XT.lrem X.here hx rfl hd rfl g0 (by rw [lrem_mod]; exact g)
    · cases h
  | ineg =>
    have hl : len = 1 := hl; subst hl
    dsimp only [stp] at h
    split at h
    · rename_i x S'
      obtain rfl := Option.some.inj h
      exact go_same X r N hk hn hL fun t g => XS.ineg X.here hx rfl hd rfl g
    · cases h
  | lneg =>
    have hl : len = 1 := hl; subst hl
    dsimp only [stp] at h
    split at h
    · rename_i x S'
      obtain rfl := Option.some.inj h
      exact go_same X r N hk hn hL fun t g => XT.lneg X.here hx rfl hd rfl g
    · cases h
  | i2l =>
    have hl : len = 1 := hl; subst hl
    dsimp only [stp] at h
    split at h
    · rename_i x S'
      obtain rfl := Option.some.inj h
      exact go_same X r N hk hn hL fun t g => XT.i2l X.here hx rfl hd rfl g
    · cases h
  | l2i =>
    have hl : len = 1 := hl; subst hl
    dsimp only [stp] at h
    split at h
    · rename_i x S'
      obtain rfl := Option.some.inj h
      exact go_same X r N hk hn hL fun t g => XT.l2i X.here hx rfl hd rfl g
    · cases h
  | i2b =>
    have hl : len = 1 := hl; subst hl
    dsimp only [stp] at h
    split at h
    · rename_i x S'
      obtain rfl := Option.some.inj h
      exact go_same X r N hk hn hL fun t g => XT.i2b X.here hx rfl hd rfl g
    · cases h
  | lcmp =>
    have hl : len = 1 := hl; subst hl
    dsimp only [stp] at h
    split at h
    · rename_i y x S'
      obtain rfl := Option.some.inj h
      exact go_same X r N hk hn hL fun t g => XT.lcmp X.here hx rfl hd rfl g
    · cases h
  | dup =>
    have hl : len = 1 := hl; subst hl
    dsimp only [stp] at h
    split at h
    · rename_i v S'
      split at h
      · rename_i g0
        obtain rfl := Option.some.inj h
        exact go_same X r N hk hn hL fun t g => XS.dup X.here hx rfl hd rfl g0 g
      · cases h
    · cases h
  | pop =>
    have hl : len = 1 := hl; subst hl
    dsimp only [stp] at h
    split at h
    · rename_i v S'
      split at h
      · rename_i g0
        obtain rfl := Option.some.inj h
        exact go_same X r N hk hn hL fun t g => XT.pop X.here hx rfl hd rfl g0 g
      · cases h
    · cases h
  | dup2 =>
    have hl : len = 1 := hl; subst hl
    dsimp only [stp] at h
    split at h
    · rename_i x S'
      obtain rfl := Option.some.inj h
      exact go_same X r N hk hn hL fun t g => XT.dup2L X.here hx rfl hd rfl g
    · rename_i v w S' _
      split at h
      · rename_i g0
        obtain rfl := Option.some.inj h
        exact go_same X r N hk hn hL fun t g => XT.dup2 X.here hx rfl hd rfl g0.1 g0.2 g
      · cases h
    · cases h
  | goto o =>
    have hl : len = 3 := hl; subst hl
    obtain ⟨v, hv, rfl⟩ := Option.map_eq_some_iff.mp h
    obtain ⟨g1, g2⟩ := jmp_ok hv
    exact go_same X r N hk hn hL fun t g => XS.goto X.here hx rfl rfl hd g1 g2 g
  | ifCond cd o =>
    have hl : len = 3 := hl; subst hl
    dsimp only [stp] at h
    split at h
    · rename_i x S'
      split at h
      · rename_i g0
        obtain ⟨v, hv, rfl⟩ := Option.map_eq_some_iff.mp h
        obtain ⟨g1, g2⟩ := jmp_ok hv
        exact go_same X r N hk hn hL fun t g => XS.ifYes X.here hx rfl rfl hd rfl g0 g1 g2 g
      · rename_i g0
        obtain rfl := Option.some.inj h
        exact go_same X r N hk hn hL fun t g => XS.ifNo X.here hx rfl hd rfl (by simpa using g0) g
    · cases h
  | if_icmp cd o =>
    have hl : len = 3 := hl; subst hl
    dsimp only [stp] at h
    split at h
    · rename_i y x S'
      split at h
      · rename_i g0
        obtain ⟨v, hv, rfl⟩ := Option.map_eq_some_iff.mp h
        obtain ⟨g1, g2⟩ := jmp_ok hv
        exact go_same X r N hk hn hL fun t g => XS.icmpYes X.here hx rfl rfl hd rfl g0 g1 g2 g
      · rename_i g0
        obtain rfl := Option.some.inj h
        exact go_same X r N hk hn hL fun t g => XS.icmpNo X.here hx rfl hd rfl (by simpa using g0) g
    · cases h
  | tableswitch d lo hi os =>
    dsimp only [stp] at h
    split at h
    · rename_i x S'
      split at h
      · rename_i g0
        obtain ⟨v, hv, rfl⟩ := Option.map_eq_some_iff.mp h
        obtain ⟨g1, g2⟩ := jmp_ok hv
        exact go_same X r N hk hn hL fun t g => XS.tswOut X.here hx rfl rfl hd rfl g0 g1 g2 g
      · rename_i g0
        obtain ⟨o, ho1, h⟩ := Option.bind_eq_some_iff.mp h
        obtain ⟨v, hv, rfl⟩ := Option.map_eq_some_iff.mp h
        obtain ⟨g1, g2⟩ := jmp_ok hv
        exact go_same X r N hk hn hL fun t g => XS.tswIn X.here hx rfl rfl hd rfl g0 ho1 g1 g2 g
    · cases h
  | getfield i =>
    have hl : len = 3 := hl; subst hl
    dsimp only [stp] at h
    split at h
    · rename_i a S'
      split at h
      · rename_i g0
        obtain rfl := Option.some.inj h
        obtain ⟨T1, X1, e1, st1⟩ := getF X hx hZ hown (host := "") (Or.inl (hw _ ho.2)) Via.refl rfl ((r.obj g0).2 _ ho.1) (g := mkF mid pc L.toArray (.ref a :: S')) rfl rfl hd
        exact go_heap X1 r e1 N hk hn hL fun t g => st1 t g
      · cases h
    · cases h
  | putfield i =>
    have hl : len = 3 := hl; subst hl
    dsimp only [stp] at h
    split at h
    · rename_i v a S'
      split at h
      · rename_i g0
        obtain rfl := Option.some.inj h
        obtain ⟨o1, o2, o3⟩ := ho
        obtain ⟨w1, w2⟩ := isOw_ok g0.1
        obtain ⟨n1, n2⟩ := okv_ok g0.2
        have hlay : (Jvm.Cond.lays C C (fn aux.toNat).1 (fn aux.toNat).2).before a0 Z = true ∨ ((Jvm.Cond.laysFinal C C (fn aux.toNat).1 (fn aux.toNat).2).before a0 Z = true ∧ (nm m).cls = C ∧ meth.name = "<init>") := by
          rcases o3 with q | ⟨q1, q2⟩
          · exact Or.inl (hw _ q)
          · rcases (hG.2.2.1 _ o1).2 with q | q
            · exact Or.inl (hw _ q)
            · exact Or.inr ⟨hw _ q, q1, hnm.trans q2⟩
        obtain ⟨T1, h1, X1, e1, W1, st1⟩ := putF X hx hZ hown (host := "") (Or.inl (hw _ o2)) Via.refl rfl ((r.obj w1).2 _ o1) (r.obj w1).1 hlay (hw _ hG.1) (hG.2.2.1 _ o1).1 n1 n2 (g := mkF mid pc L.toArray (v :: .ref a :: S')) rfl rfl hd
        exact ⟨T1, _, X1, by rw [e1]; exact r.wrF hG hw w1 o1 W1, Fr.snoc X1 N (r.own w2), hk, hn, hL, st1⟩
      · cases h
    · cases h
  | iaload =>
    have hl : len = 1 := hl; subst hl
    dsimp only [stp] at h
    split at h
    · rename_i i a S'
      split at h
      · rename_i g0
        obtain rfl := Option.some.inj h
        obtain ⟨w1, w2, w3⟩ := inA_ok g0
        obtain ⟨b1, cl, b2, b3, b4⟩ := r.arr w1
        exact go_same X r N hk hn hL fun t g => X.iaload hx (g := mkF mid pc L.toArray (.int i :: .ref a :: S')) b2.1 (State.isArrayOf_alike hZ.alike b2.2.1) b2.2.2 (by rw [b3]; exact idx_not w2 w3) (b4 _ w3) rfl rfl hd t g
      · cases h
    · cases h
  | laload =>
    have hl : len = 1 := hl; subst hl
    dsimp only [stp] at h
    split at h
    · rename_i i a S'
      split at h
      · rename_i g0
        obtain rfl := Option.some.inj h
        obtain ⟨w1, w2, w3⟩ := inA_ok g0
        obtain ⟨b1, cl, b2, b3, b4⟩ := r.arr w1
        exact go_same X r N hk hn hL fun t g => X.laload hx (g := mkF mid pc L.toArray (.int i :: .ref a :: S')) b2.1 (State.isArrayOf_alike hZ.alike b2.2.1) b2.2.2 (by rw [b3]; exact idx_not w2 w3) (b4 _ w3) rfl rfl hd t g
      · cases h
    · cases h
  | baload =>
    have hl : len = 1 := hl; subst hl
    dsimp only [stp] at h
    split at h
    · rename_i i a S'
      split at h
      · rename_i g0
        obtain rfl := Option.some.inj h
        rcases g0 with g0 | g0
        · obtain ⟨w1, w2, w3⟩ := inA_ok g0
          obtain ⟨b1, cl, b2, b3, b4⟩ := r.arr w1
          exact go_same X r N hk hn hL fun t g => X.baloadBytes hx (g := mkF mid pc L.toArray (.int i :: .ref a :: S')) b2.1 (State.isArrayOf_alike hZ.alike b2.2.1) b2.2.2 (by rw [b3]; exact idx_not w2 w3) (b4 _ w3) rfl rfl hd t g
        · obtain ⟨w1, w2, w3⟩ := inA_ok g0
          obtain ⟨b1, cl, b2, b3, b4⟩ := r.arr w1
          exact go_same X r N hk hn hL fun t g => X.baloadBooleans hx (g := mkF mid pc L.toArray (.int i :: .ref a :: S')) b2.1 (State.isArrayOf_alike hZ.alike b2.2.1) b2.2.2 (by rw [b3]; exact idx_not w2 w3) (b4 _ w3) rfl rfl hd t g
      · cases h
    · cases h
  | iastore =>
    have hl : len = 1 := hl; subst hl
    dsimp only [stp] at h
    split at h
    · rename_i x i a S'
      split at h
      · rename_i g0
        obtain rfl := Option.some.inj h
        obtain ⟨g1, g2⟩ := inAw_ok g0
        obtain ⟨w1, w2, w3⟩ := inA_ok g1
        obtain ⟨b1, cl, b2, b3, b4⟩ := r.arr w1
        obtain ⟨T1, h1, X1, e1, W1, st1⟩ := stI X hx hZ rfl b2 (j := i) (x := x) (by rw [b3]; exact idx_not w2 w3) (g := mkF mid pc L.toArray (.int x :: .int i :: .ref a :: S')) rfl rfl hd
        exact ⟨T1, _, X1, by rw [e1]; exact r.wrA w1 w3 W1, Fr.snoc X1 N (r.own g2), hk, hn, hL, st1⟩
      · cases h
    · cases h
  | lastore =>
    have hl : len = 1 := hl; subst hl
    dsimp only [stp] at h
    split at h
    · rename_i x i a S'
      split at h
      · rename_i g0
        obtain rfl := Option.some.inj h
        obtain ⟨g1, g2⟩ := inAw_ok g0
        obtain ⟨w1, w2, w3⟩ := inA_ok g1
        obtain ⟨b1, cl, b2, b3, b4⟩ := r.arr w1
        obtain ⟨T1, h1, X1, e1, W1, st1⟩ := stJ X hx hZ rfl b2 (j := i) (x := x) (by rw [b3]; exact idx_not w2 w3) (g := mkF mid pc L.toArray (.long x :: .int i :: .ref a :: S')) rfl rfl hd
        exact ⟨T1, _, X1, by rw [e1]; exact r.wrA w1 w3 W1, Fr.snoc X1 N (r.own g2), hk, hn, hL, st1⟩
      · cases h
    · cases h
  | bastore =>
    have hl : len = 1 := hl; subst hl
    dsimp only [stp] at h
    split at h
    · rename_i x i a S'
      split at h
      · rename_i g0
        obtain rfl := Option.some.inj h
        rcases g0 with ⟨g0, gx⟩ | ⟨g0, gx⟩
        · obtain ⟨g1, g2⟩ := inAw_ok g0
          obtain ⟨w1, w2, w3⟩ := inA_ok g1
          obtain ⟨b1, cl, b2, b3, b4⟩ := r.arr w1
          have hx2 : nar .byte x = x := Value.int.inj (okv_ok gx).1
          obtain ⟨T1, h1, X1, e1, W1, st1⟩ := stB X hx hZ rfl b2 (j := i) (x := x) (by rw [b3]; exact idx_not w2 w3) (g := mkF mid pc L.toArray (.int x :: .int i :: .ref a :: S')) rfl rfl hd
          rw [hx2] at W1
          exact ⟨T1, _, X1, by rw [e1]; exact r.wrA w1 w3 W1, Fr.snoc X1 N (r.own g2), hk, hn, hL, st1⟩
        · obtain ⟨g1, g2⟩ := inAw_ok g0
          obtain ⟨w1, w2, w3⟩ := inA_ok g1
          obtain ⟨b1, cl, b2, b3, b4⟩ := r.arr w1
          have hx2 : nar .boolean x = x := Value.int.inj (okv_ok gx).1
          obtain ⟨T1, h1, X1, e1, W1, st1⟩ := stZ X hx hZ rfl b2 (j := i) (x := x) (by rw [b3]; exact idx_not w2 w3) (g := mkF mid pc L.toArray (.int x :: .int i :: .ref a :: S')) rfl rfl hd
          rw [hx2] at W1
          exact ⟨T1, _, X1, by rw [e1]; exact r.wrA w1 w3 W1, Fr.snoc X1 N (r.own g2), hk, hn, hL, st1⟩
      · cases h
    · cases h
  | arraylength =>
    have hl : len = 1 := hl; subst hl
    dsimp only [stp] at h
    split at h
    · rename_i a S'
      split at h
      · rename_i g0
        obtain rfl := Option.some.inj h
        obtain ⟨t0, w1⟩ : ∃ t0, (H.2 a).1 = .array t0 := by unfold isA at g0; cases hq : (H.2 a).1 <;> rw [hq] at g0 <;> first | (cases g0; done) | exact ⟨_, rfl⟩
        obtain ⟨b1, cl, b2, b3, b4⟩ := r.arr w1
        refine go_same X r N hk hn hL fun t g => X.arraylength hx (g := mkF mid pc L.toArray (.ref a :: S')) b2.1 (State.isArrayOf_alike hZ.alike b2.2.1) rfl rfl hd t ?_
        rw [b3]; exact g
      · cases h
    · cases h
  | newarray t =>
    have hl : len = 2 := hl; subst hl
    dsimp only [stp] at h
    split at h
    · rename_i cnt S'
      split at h
      · rename_i g0
        obtain rfl := Option.some.inj h
        obtain ⟨z1, z2, z3, z4⟩ := g0
        have hcb : componentBytes (newarray.typeOf t) ≤ 8 := by cases t <;> decide
        obtain ⟨cA, kA, comp, h1, h2, h3, X1, st1⟩ := X.newarrayPrim hx (mvA hZ (hw _ ho)) (g := mkF mid pc L.toArray (.int cnt :: S')) rfl hd rfl z1 (Nat.le_trans (Nat.mul_le_mul_left _ hcb) z2) z3 z4
        refine ⟨_, locs, X1, ?_, N, z3, z4, hL, fun t g => st1 t (by rw [r.1]; exact g)⟩
        exact r.ext (ext_push _ _) (by show (T.heap.push _).size = _; simp) ⟨fun _ => by rw [r.1]; exact r.2.1, (back32 z1).2, _, made_arr hZ h1 h2 h3, by simp, fun i hi => by simp [hi]⟩
      · cases h
    · cases h
  | new i =>
    have hl : len = 3 := hl; subst hl
    dsimp only [stp] at h
    split at h
    · rename_i g0
      obtain rfl := Option.some.inj h
      obtain ⟨z1, z2, z3⟩ := g0
      rw [ho.1] at z3 ⊢
      obtain ⟨vm1, cC, kC, h1, h2, h3, h4, X1, st1⟩ := X.newCold hx hown (mv hZ (hw _ ho.2)) (mv hZ (hw _ hG.1)) (mv hZ (hw _ hG.2.1)) (g := mkF mid pc L.toArray S) rfl hd z2 z3
      obtain ⟨A1, D1⟩ := made_obj (h := T.heap) (a0 := a0) hZ h1 h2
      refine ⟨_, locs, X1, ?_, N, z2, z3, hL, fun t g => st1 t (by rw [r.1]; exact g)⟩
      exact r.ext (ext_push _ _) (by show (T.heap.push _).size = _; simp) ⟨fun _ => by rw [r.1]; exact r.2.1, A1, fun j hj => D1 (((hG.2.2.1 j hj).2).imp (hw _) (hw _)) (hG.2.2.1 j hj).1⟩
    · cases h
  | invokespecial i =>
    have hl : len = 3 := hl; subst hl
    dsimp only [stp] at h
    split at h
    · rename_i a S'
      split at h
      · rename_i g0
        obtain rfl := Option.some.inj h
        obtain ⟨rfl, z2, z3⟩ := g0
        obtain ⟨o1, o2, o3⟩ := ho.1 rfl
        obtain ⟨T1, X1, e1, st1⟩ := initO X hx hZ hown (hw _ o1) (hw _ o2) (hw _ o3) rfl (g := mkF mid pc L.toArray (.ref a :: S')) rfl (by rw [hml, ← hL]; simp) rfl hd z2 (W := cs S') (by show 2 * 0 + _ ≤ _; exact Nat.le_of_eq (Nat.zero_add _)) z3
        exact go_heap X1 r e1 N hk hn hL fun t g => st1 t g
      · cases h
    · cases h
  | _ => exact absurd (show (none : Option Fm) = some q from h) (by simp)
end Step
end Jvm.JX

namespace Jvm.JX
open Sem ClassFile Op Lib Jvm.Stand Jvm.Free Jvm.LawKit Jvm.RoadKit
section Sound
variable {P : Prog} {tb : List Jvm.Cond} {C : String} {fn : Nat → String × String} {F : List Nat} {nsl : Nat} {nm : Nat → MethodName} {bt : Nat → ByteArray} {R : List Nat} {top : Nat}
variable {l : Launch} {Z : State} {a0 : Array Value} {n0 : Nat}
def Endd (C : String) (fn : Nat → String × String) (F : List Nat) (Z : State) (n0 : Nat) (p : Program) (l : Launch) (e : Env) (Rm : Jvm.Room) (s : State) (mid : MethodId) (args : Array Value) (below : List Frame) (meth : Method) (c : Code) (rt0 : Option FieldType) (start : State) (v : Option Value) (H' : AH) : Prop :=
  ∃ T' locs' k' n', Stand p l e Rm s mid args below meth c T' locs' k' n' ∧ RelH C fn F Z n0 T'.heap H' ∧ Fr n0 locs' ∧ k' ≤ Rm.cells ∧ n' ≤ Rm.slots ∧ (rt0 = none → v = none) ∧
    ∀ fs, (∀ (f : JFrame) (acts : List Action), f.method = mid → f.locked = none → f.entered = [] → (doReturn e (T'.setTop f) acts v).1 = T'.setFrames fs) → Steps p.tables e below start (T'.setFrames fs)
def Says (P : Prog) (C : String) (fn : Nat → String × String) (F : List Nat) (nm : Nat → MethodName) (bt : Nat → ByteArray) (l : Launch) (Z : State) (n0 m pc : Nat) (L : List Slot) (S : List Value) (k n : Nat) (H : AH) (v : Option Value) (H' : AH) : Prop :=
  ∀ (p : Program) (e : Env) (s : State) (mid : MethodId) (args : Array Value) (below : List Frame) (meth : Method) (c : Code) (T : State) (locs : List Loc), Stand p l e (rm P m) s mid args below meth c T locs k n → p.tables.exec = Jvm.exec → Z.Warmed39 s.vm → c.code = bt m → c.maxLocals = ml P m →
    s.vm.findClass (nm m).cls = some mid.cls → meth.name = (nm m).name → meth.sig.returnType = rt P m → L.length = ml P m → RelH C fn F Z n0 T.heap H → Fr n0 locs → k ≤ (rm P m).cells → n ≤ (rm P m).slots →
    Endd C fn F Z n0 p l e (rm P m) s mid args below meth c (rt P m) (T.setTop (mkF mid pc L.toArray S)) v H'
theorem Endd.back {p : Program} {e : Env} {Rm : Jvm.Room} {s : State} {mid : MethodId} {args : Array Value} {below : List Frame} {meth : Method} {c : Code} {rt0 : Option FieldType} {start start' : State} {v : Option Value} {H' : AH}
    (h : Endd C fn F Z n0 p l e Rm s mid args below meth c rt0 start' v H') (st : ∀ t, Steps p.tables e below start' t → Steps p.tables e below start t) : Endd C fn F Z n0 p l e Rm s mid args below meth c rt0 start v H' := by
  obtain ⟨T', locs', k', n', h1, h2, h3, h4, h5, h6, h7⟩ := h
  exact ⟨T', locs', k', n', h1, h2, h3, h4, h5, h6, fun fs g => st _ (h7 fs g)⟩
theorem met_of {m : Nat} {as : List Value} {H H' : AH} {v : Option Value} {h : Heap} (ws : List Jvm.Cond) (hp : plainName (nm m).cls = true) (hl : (Sym.laidSlots as).length ≤ ml P m) (r : RelH C fn F Z n0 h H)
    (hS : Says P C fn F nm bt l Z n0 m 0 (ent P m as) [] 0 0 H v H') :
    MetFree l (nm m) (head1 (Jvm.Cond.code (nm m) (bt m) (ml P m) (rt P m) :: ws) (rm P m)) (fun a U => a = as.toArray ∧ Z.Warmed39 U.vm ∧ U.heap = h) (fun _ _ _ _ _ => True)
      (fun _ U o U' => ∃ v' L, o = .returned v' ∧ (v' = v ∧ Fr n0 L ∧ RelH C fn F Z n0 U'.heap H') ∧ FrameEnd U o U' L (rm P m).cells (rm P m).slots) := by
  refine MetFree.of_bodySF (plainFor_of_name hp) hisR ?_
  intro p e s mid args below meth c s₁ Bd hml0 hP hK
  obtain ⟨rfl, hZ, hh⟩ := hP
  have X0 : Stand p l e (rm P m) s mid as.toArray below meth c s₁ [] 0 0 := Stand.of_body Bd
  have e0 : s₁.heap = h := by rw [← hh, Bd.state]; rfl
  have hle : (ent P m as).length = ml P m := by simp [ent]; omega
  obtain ⟨T', locs', k', n', X1, r1, N1, hk1, hn1, hv1, st1⟩ := hS p e s mid as.toArray below meth c s₁ [] X0 Bd.exec hZ Bd.bytes hml0 (findClass_of_methodNamed Bd.named) (name_of_methodNamed Bd.named Bd.method).1 Bd.returns hle (by rw [e0]; exact r) (Fr.nil n0) (Nat.zero_le _) (Nat.zero_le _)
  obtain ⟨fs, hr, hrun, hended, hW, hsame⟩ := X1.leave (v := v) (fun q => hv1 (Bd.returns.symm.trans q))
  refine ⟨_, _, (Jvm.Free.XT.entry (Ls := (ent P m as).toArray) (by simp [ent])).trans (st1 fs hr), hrun, hended, v, locs', rfl, ⟨rfl, N1, r1⟩, ⟨_, rfl⟩, hW, hsame.mono hk1 hn1⟩
theorem ret_ok {m : Nat} {ins : Instr} {S : List Value} {v : Option Value} (h : ret P m ins S = some v) : (rt P m = none ∧ v = none ∧ ins = .return_ ∧ S = []) ∨ ∃ t w rest, rt P m = some t ∧ v = some w ∧ S = w :: rest ∧ narrow t w = w ∧
    ((ins = .ireturn ∧ (t = .int ∨ t = .boolean ∨ t = .byte ∨ t = .char ∨ t = .short) ∧ ∃ z, w = .int z) ∨ (ins = .lreturn ∧ t = .long ∧ ∃ z, w = .long z)) := by
  unfold ret at h
  split at h
  · split at h
    · rename_i g; cases h; exact Or.inl ⟨g.1, rfl, rfl, g.2⟩
    · cases h
  · split at h
    · rename_i z rest g; cases h; exact Or.inr ⟨.int, _, rest, g, rfl, rfl, rfl, Or.inl ⟨rfl, Or.inl rfl, z, rfl⟩⟩
    · rename_i z rest g
      split at h
      · rename_i g0
        cases h
        refine Or.inr ⟨.boolean, _, rest, g, rfl, rfl, ?_, Or.inl ⟨rfl, Or.inr (Or.inl rfl), z, rfl⟩⟩
        rcases g0 with rfl | rfl <;> rfl
      · cases h
    · cases h
  · split at h
    · rename_i z rest g; cases h; exact Or.inr ⟨.long, _, rest, g, rfl, rfl, rfl, Or.inr ⟨rfl, rfl, z, rfl⟩⟩
    · cases h
  · cases h
theorem cal_ok {m m' k n : Nat} {ins : Instr} {aux : Int} {S a r : List Value} {H : AH} (h : cal P m ins aux S k n H = some (m', a, r)) : aux = (m' : Int) ∧ kindOk ins (kd P m') = true ∧ may P m m' a r k n H = true ∧ S = a.reverse ++ r := by
  have h1 : cal1 P m ins aux S k n H = some (m', a, r) := by
    unfold cal at h
    split at h <;> first | exact h | (cases h)
  unfold cal1 at h1
  split at h1
  · rename_i g
    cases h1
    exact ⟨by omega, g.2.1, g.2.2, by rw [List.reverse_reverse]; exact (List.take_append_drop ..).symm⟩
  · cases h1
end Sound
end Jvm.JX

namespace Jvm.JX
open Sem ClassFile Op Lib Jvm.Stand Jvm.Free Jvm.LawKit Jvm.RoadKit
section Sound
variable {P : Prog} {tb : List Jvm.Cond} {C : String} {fn : Nat → String × String} {F : List Nat} {nsl : Nat} {nm : Nat → MethodName} {bt : Nat → ByteArray} {R : List Nat} {top : Nat}
variable {l : Launch} {Z : State} {a0 : Array Value} {n0 : Nat}
theorem may_ok {m m' k n : Nat} {a r : List Value} {H : AH} (h : may P m m' a r k n H = true) : (Sym.laidSlots a).length ≤ ml P m' ∧ a.length = na P m' ∧ (rm P m').frames + 1 ≤ (rm P m).frames ∧ cs r + (ml P m' + 11) + (rm P m').locals ≤ (rm P m).locals ∧
    (((rm P m').cells = 0 ∧ (rm P m').slots = 0) ∨ (k + (rm P m').cells ≤ (rm P m).cells ∧ n + (rm P m').slots ≤ (rm P m).slots)) ∧ (kd P m' = 0 ∨ rcv H a = true) := by
  simpa [may, and_assoc] using h
theorem rcv_ok {H : AH} {a : List Value} (h : rcv H a = true) : ∃ b as, a = .ref b :: as ∧ isO H b = true := by
  unfold rcv at h
  split at h
  · exact ⟨_, _, rfl, h⟩
  · cases h
set_option maxHeartbeats 1000000 in
theorem call_go {m pc len k n m' : Nat} {aux : Int} {L : List Slot} {S a r : List Value} {H H1 : AH} {ins : Instr} {v1 : Option Value} {p : Program} {e : Env} {s : State} {mid : MethodId} {args : Array Value} {below : List Frame} {meth : Method} {c : Code} {T : State} {locs : List Loc}
    (hG : Good P tb C fn F nsl nm bt R top) (hw : ∀ d ∈ tb, d.before a0 Z = true) (hm : m ∈ R) (hrow : P.1 m pc = some (ins, len, aux)) (hc : cal P m ins aux S k n H = some (m', a, r)) (hS : m' ∈ R → Says P C fn F nm bt l Z n0 m' 0 (ent P m' a) [] 0 0 H v1 H1)
    (X : Stand p l e (rm P m) s mid args below meth c T locs k n) (hx : p.tables.exec = Jvm.exec) (hZ : Z.Warmed39 s.vm)
    (hby : c.code = bt m) (hml : c.maxLocals = ml P m) (hown : s.vm.findClass (nm m).cls = some mid.cls) (hL : L.length = ml P m) (rr : RelH C fn F Z n0 T.heap H) (N : Fr n0 locs) (hk : k ≤ (rm P m).cells) (hn : n ≤ (rm P m).slots) :
    Go C fn F Z n0 p l e (rm P m) s mid args below meth c (T.setTop (mkF mid pc L.toArray S)) (ml P m) (pc + len, L, v1.toList ++ r, k + (rm P m').cells, n + (rm P m').slots, H1) := by
  obtain ⟨hd, hl, ho⟩ := (hG.2.2.2.2.1 m hm).2.2 pc ins len aux hrow
  replace hd := hb hby hd
  obtain ⟨e1, e2, e3, e4⟩ := cal_ok hc
  obtain ⟨y1, y2, y3, y4, y5, y6⟩ := may_ok e3
  have hnt : m' ≠ top := fun q => by
    have := hG.2.2.2.2.2.2 m hm pc ins len aux hrow (by rw [e1, q])
    rw [q, this] at e2; cases e2
  have y5' : k + (rm P m').cells ≤ (rm P m).cells ∧ n + (rm P m').slots ≤ (rm P m).slots := by rcases y5 with ⟨q1, q2⟩ | q <;> omega
  have hsize : (mkF mid pc L.toArray S).locals.size = c.maxLocals := by rw [hml, ← hL]; simp
  have hcs : 2 * (mkF mid pc L.toArray S).monitorRoom + (r.map fun v => v.category).sum ≤ cs r := by show 2 * 0 + _ ≤ _; exact Nat.le_of_eq (Nat.zero_add _)
  subst e1
  cases ins with
  | invokevirtual ix =>
    have hl : len = 3 := hl
    subst hl
    obtain ⟨mR, lnk⟩ := ho
    rw [Int.toNat_natCast] at mR lnk
    obtain ⟨c1, c2, ⟨ps, rr0, c3, c4⟩, c5, c6, c7, c8, c9⟩ := hG.2.2.2.2.2.1 m' mR hnt
    have hk0 : kd P m' ≠ 0 := fun q => by rw [q] at e2; cases e2
    obtain ⟨hcls, hinst⟩ := c6 hk0
    obtain ⟨b, as, rfl, hb⟩ := rcv_ok (y6.resolve_left hk0)
    obtain ⟨Eb, -⟩ := rr.obj hb
    have hlen : as.length = ps.length := by rw [if_neg hk0] at c4; simp only [List.length_cons] at y2; omega
    have eS : S = as.reverse ++ .ref b :: r := by rw [e4]; simp
    subst eS
    obtain ⟨pn, hy, -⟩ := hG.2.2.2.2.1 m' mR
    have BK := backOf (Q := fun v' h' L' => v' = v1 ∧ Fr n0 L' ∧ RelH C fn F Z n0 h' H1) (R := rm P m) (W := cs r) (p := p) (e := e) (below := below) (s := s) (args := args) (len := 3) (met_of [] pn y1 rr (hS mR)) hZ (hw _ c1) (hw _ c2) y3 y4
    have hkk : kd P m' = 1 ∨ kd P m' = 2 := by simpa [kindOk] using e2
    rcases hkk with hkk | hkk
    · obtain ⟨d1, d2⟩ := c7 hkk
      obtain ⟨cB, kB, q1, q2, q3⟩ := isOf (T := T) hZ rfl Eb
      obtain ⟨v, vm1, ⟨T1, L1, k1, n1⟩, -, X1, ⟨Lc, hQ, l1, z1, z2⟩, st⟩ := X.virtualBack hx (y := nm m') (z := nm m') hown (mvT hZ (hw _ lnk)) (mvT hZ (hw _ d1)) (notFace_of_selects (args := #[]) (mvT hZ (hw _ d2))) (mvT hZ (hw _ d2)) (mvT hZ (hw _ hinst)) hy BK q1 q3 (g := mkF mid pc L.toArray (as.reverse ++ .ref b :: r)) rfl hsize (Steps.refl _) (argsL := as) (rest := r) (lenOf c3 hlen) rfl hcs hd (fun _ _ => ⟨rfl, rfl, y5'.1, y5'.2⟩)
      dsimp only [Pt.U, Pt.locs, Pt.cells, Pt.slots] at X1 l1 z1 z2 st hQ
      subst l1 z1 z2
      obtain ⟨rfl, N1, r1⟩ := hQ
      exact ⟨T1, _, X1, r1, Fr.app N N1, y5'.1, y5'.2, hL, fun t g => st.trans g⟩
    · obtain ⟨ci, ki, i1, i2, i3, i4, -⟩ := Cond.instantiable_spec (show (Jvm.Cond.instantiable C nsl).before args s = true from mv hZ (hw _ hG.1))
      have hni : ki.isInterface = false := (Bool.or_eq_false_iff.mp i4).1
      have hpriv := Cond.privateMethod_at (mvP hZ (hw _ (c8 hkk)) (args := #[]))
      have hsel : (Jvm.Cond.selects (nm m').cls (nm m') (nm m')).before args s = true := selects_self_of_private (by rw [hcls]; exact i1) i2 hni hpriv (mvT hZ (hw _ hinst)) hy
      obtain ⟨cl, hcl, hcl'⟩ := Eb.cell
      obtain ⟨v, vm1, ⟨T1, L1, k1, n1⟩, -, X1, ⟨Lc, hQ, l1, z1, z2⟩, st⟩ := X.privateBack hx (y := nm m') hown (mvT hZ (hw _ lnk)) (mvT hZ (hw _ hinst)) hsel hpriv (mvT hZ (hw _ c1)) hy BK (g := mkF mid pc L.toArray (as.reverse ++ .ref b :: r)) rfl hsize (Steps.refl _) (a := b) hcl hcl' (argsL := as) (rest := r) (lenOf c3 hlen) rfl hcs hd (fun _ _ => ⟨rfl, rfl, y5'.1, y5'.2⟩)
      dsimp only [Pt.U, Pt.locs, Pt.cells, Pt.slots] at X1 l1 z1 z2 st hQ
      subst l1 z1 z2
      obtain ⟨rfl, N1, r1⟩ := hQ
      exact ⟨T1, _, X1, r1, Fr.app N N1, y5'.1, y5'.2, hL, fun t g => st.trans g⟩
  | invokestatic ix =>
    have hl : len = 3 := hl
    subst hl
    obtain ⟨mR, lnk⟩ := ho
    rw [Int.toNat_natCast] at mR lnk
    obtain ⟨c1, c2, ⟨ps, rr0, c3, c4⟩, c5, c6, c7, c8, c9⟩ := hG.2.2.2.2.2.1 m' mR hnt
    have hk0 : kd P m' = 0 := by simpa [kindOk] using e2
    have hlen : a.length = ps.length := by rw [if_pos hk0] at c4; omega
    subst e4
    obtain ⟨pn, hy, -⟩ := hG.2.2.2.2.1 m' mR
    have BK := backOf (Q := fun v' h' L' => v' = v1 ∧ Fr n0 L' ∧ RelH C fn F Z n0 h' H1) (R := rm P m) (W := cs r) (p := p) (e := e) (below := below) (s := s) (args := args) (len := 3) (met_of [] pn y1 rr (hS mR)) hZ (hw _ c1) (hw _ c2) y3 y4
    obtain ⟨v, vm1, ⟨T1, L1, k1, n1⟩, -, X1, ⟨Lc, hQ, l1, z1, z2⟩, st⟩ := Jvm.LawKit.callS X hx (y := nm m') hown (mvT hZ (hw _ lnk)) (mvT hZ (hw _ (c5 hk0))) (mvT hZ (hw _ c2)) (mvT hZ (hw _ c1)) hy BK (g := mkF mid pc L.toArray (a.reverse ++ r)) rfl hsize (argsL := a) (rest := r) (lenOf c3 hlen) rfl hcs hd (fun _ _ => ⟨rfl, rfl, y5'.1, y5'.2⟩)
    dsimp only [Pt.U, Pt.locs, Pt.cells, Pt.slots] at X1 l1 z1 z2 st hQ
    subst l1 z1 z2
    obtain ⟨rfl, N1, r1⟩ := hQ
    exact ⟨T1, _, X1, r1, Fr.app N N1, y5'.1, y5'.2, hL, fun t g => st t g⟩
  | invokespecial ix =>
    have hl : len = 3 := hl
    subst hl
    obtain ⟨mR, lnk⟩ := ho.2 (by omega)
    rw [Int.toNat_natCast] at mR lnk
    obtain ⟨c1, c2, ⟨ps, rr0, c3, c4⟩, c5, c6, c7, c8, c9⟩ := hG.2.2.2.2.2.1 m' mR hnt
    have hk3 : kd P m' = 3 := by simpa [kindOk] using e2
    have hk0 : kd P m' ≠ 0 := by omega
    obtain ⟨hcls, hinst⟩ := c6 hk0
    obtain ⟨hn3, hr3⟩ := c9 hk3
    obtain ⟨b, as, rfl, hb⟩ := rcv_ok (y6.resolve_left hk0)
    have hlen : as.length = ps.length := by rw [if_neg hk0] at c4; simp only [List.length_cons] at y2; omega
    have eS : S = as.reverse ++ .ref b :: r := by rw [e4]; simp
    subst eS
    obtain ⟨pn, hy, -⟩ := hG.2.2.2.2.1 m' mR
    have BK := backOf (Q := fun v' h' L' => v' = v1 ∧ Fr n0 L' ∧ RelH C fn F Z n0 h' H1) (R := rm P m) (W := cs r) (p := p) (e := e) (below := below) (s := s) (args := args) (len := 3) (met_of [] pn y1 rr (hS mR)) hZ (hw _ c1) (hw _ c2) y3 y4
    rw [hr3] at c1
    obtain ⟨v, vm1, ⟨T1, L1, k1, n1⟩, -, X1, ⟨Lc, hQ, l1, z1, z2⟩, st⟩ := X.specialBack hx (y := nm m') hn3 hown (mvT hZ (hw _ lnk)) (mvT hZ (hw _ hinst)) (mvT hZ (hw _ c1)) hy BK (g := mkF mid pc L.toArray (as.reverse ++ .ref b :: r)) rfl hsize (Steps.refl _) (a := b) (argsL := as) (rest := r) (lenOf c3 hlen) rfl hcs hd (fun _ _ => ⟨rfl, rfl, y5'.1, y5'.2⟩)
    dsimp only [Pt.U, Pt.locs, Pt.cells, Pt.slots] at X1 l1 z1 z2 st hQ
    subst l1 z1 z2
    obtain ⟨rfl, N1, r1⟩ := hQ
    exact ⟨T1, _, X1, r1, Fr.app N N1, y5'.1, y5'.2, hL, fun t g => st.trans g⟩
  | _ => cases e2
theorem sound (hG : Good P tb C fn F nsl nm bt R top) (hw : ∀ d ∈ tb, d.before a0 Z = true) : ∀ (f m : Nat), m ∈ R → ∀ (pc : Nat) (L : List Slot) (S : List Value) (k n : Nat) (H : AH) (v : Option Value) (H' : AH), run P f m pc L S k n H = some (v, H') → Says P C fn F nm bt l Z n0 m pc L S k n H v H' := by
  intro f
  induction f with
  | zero => intro m _ pc L S k n H v H' h; cases h
  | succ f ih =>
    intro m hm pc L S k n H v H' h p e s mid args below meth c T locs X hx hZ hby hml hown hnm hret hL r N hk hn
    rw [run_succ] at h
    cases hd : P.1 m pc with
    | none => rw [hd] at h; cases h
    | some d =>
      obtain ⟨ins, len, aux⟩ := d
      rw [hd] at h
      simp only at h
      cases hr : ret P m ins S with
      | some v1 =>
        rw [hr] at h
        cases h
        obtain ⟨hdec, hl, -⟩ := (hG.2.2.2.2.1 m hm).2.2 pc ins len aux hd
        replace hdec := hb hby hdec
        rcases ret_ok hr with ⟨q1, rfl, rfl, q0⟩ | ⟨t, w, rest, q1, rfl, rfl, q4, q5⟩
        · have hl : len = 1 := hl
          subst hl
          exact ⟨T, locs, k, n, X, r, N, hk, hn, fun _ => rfl, fun fs g => by subst q0; exact X.returnOut hx (hret.trans q1) hdec g⟩
        · refine ⟨T, locs, k, n, X, r, N, hk, hn, fun q => absurd (q1.symm.trans q) (by simp), fun fs g => ?_⟩
          have hl1 : len = 1 := by
            rcases q5 with ⟨rfl, -⟩ | ⟨rfl, -⟩ <;> exact hl
          subst hl1
          exact retOut X hx (hret.trans q1) q4 (q5.elim (fun u => Or.inl u) (fun u => Or.inr (Or.inl u))) hdec g
      | none =>
        rw [hr] at h
        simp only at h
        cases hc : cal P m ins aux S k n H with
        | some cc =>
          obtain ⟨m', a, rs⟩ := cc
          rw [hc] at h
          simp only at h
          cases hq : run P f m' 0 (ent P m' a) [] 0 0 H with
          | none => rw [hq] at h; cases h
          | some q =>
            obtain ⟨v1, H1⟩ := q
            rw [hq] at h
            obtain ⟨T1, locs1, X1, r1, N1, hk1, hn1, hL1, st⟩ := call_go hG hw hm hd hc (fun mR => ih m' mR _ _ _ _ _ _ _ _ hq) X hx hZ hby hml hown hL r N hk hn
            exact (ih m hm _ _ _ _ _ _ _ _ h p e s mid args below meth c T1 locs1 X1 hx hZ hby hml hown hnm hret hL1 r1 N1 hk1 hn1).back st
        | none =>
          rw [hc] at h
          simp only at h
          cases hs : stp P m ins len aux pc L S k n H with
          | none => rw [hs] at h; cases h
          | some q =>
            rw [hs] at h
            obtain ⟨T1, locs1, X1, r1, N1, hk1, hn1, hL1, st⟩ := stp_go hG hw hm hd hs X hx hZ hby hml hown hnm hL r N hk hn
            exact (ih m hm _ _ _ _ _ _ _ _ h p e s mid args below meth c T1 locs1 X1 hx hZ hby hml hown hnm hret hL1 r1 N1 hk1 hn1).back st
theorem law_met (hG : Good P tb C fn F nsl nm bt R top) (hw : ∀ d ∈ tb, d.before a0 Z = true) {as : List Value} {H : AH} {h : Heap} {Q : Option Value → AH → Prop} (ws : List Jvm.Cond) (ht : top ∈ R) (hl : (Sym.laidSlots as).length ≤ ml P top) (r : RelH C fn F Z n0 h H) (hC : Cl P top as H Q) :
    MetFree l (nm top) (head1 (Jvm.Cond.code (nm top) (bt top) (ml P top) (rt P top) :: ws) (rm P top)) (fun a U => a = as.toArray ∧ Z.Warmed39 U.vm ∧ U.heap = h) (fun _ _ _ _ _ => True)
      (fun _ U o U' => ∃ v' L, o = .returned v' ∧ (Fr n0 L ∧ ∃ H', Q v' H') ∧ FrameEnd U o U' L (rm P top).cells (rm P top).slots) := by
  obtain ⟨f, v, H', h1, h2⟩ := hC
  have hM := met_of (l := l) (h := h) ws (hG.2.2.2.2.1 top ht).1 hl r (sound hG hw f top ht _ _ _ _ _ _ _ _ h1)
  intro p e ha hc hk s m args below hf happ hP hK
  obtain ⟨n, o, q1, q2, q3, v', L, q4, ⟨q5, q6, q7⟩, q8⟩ := hM p e ha hc hk s m args below hf happ hP hK
  exact ⟨n, o, q1, q2, q3, v', L, q4, ⟨q6, H', by rw [q5]; exact h2⟩, q8⟩
end Sound
end Jvm.JX
namespace Jvm.JX
open Sem ClassFile Op Lib Jvm.Stand Jvm.Free Jvm.LawKit Jvm.RoadKit
theorem fa0 {α : Type} {p : α → Prop} : ∀ x ∈ ([] : List α), p x := fun _ q => nomatch q
theorem faS {α : Type} {p : α → Prop} {y : α} {L : List α} (q : p y) (r : ∀ x ∈ L, p x) : ∀ x ∈ y :: L, p x := fun x z => (List.mem_cons.mp z).elim (fun u => u ▸ q) (r x)
def rowChk (FL ML : List (Nat × Nat × Nat)) (KI KJ : List (Nat × Nat × Int)) (AT : List FieldType) (WF : List Nat) (nsl nw : Nat) (own : Nat) (ini : Bool) (ins : Instr) (aux : Int) : Bool :=
  match ins with
  | .getfield i => FL.contains (own, i, aux.toNat)
  | .putfield i => FL.contains (own, i, aux.toNat) && (WF.contains aux.toNat || ini)
  | .new i => decide (aux.toNat = nsl) && decide (own = 1) && decide (i = nw)
  | .newarray t => decide (newarray.typeOf t ∈ AT)
  | .ldc i => KI.contains (own, i, aux)
  | .ldc2_w i => KJ.contains (own, i, aux)
  | .invokevirtual i => ML.contains (own, i, aux.toNat)
  | .invokestatic i => ML.contains (own, i, aux.toNat)
  | .invokespecial i => if aux = -1 then decide (own = 0) && decide (i = 1) else ML.contains (own, i, aux.toNat)
  | _ => true
def rowOne (FL ML : List (Nat × Nat × Nat)) (KI KJ : List (Nat × Nat × Int)) (AT : List FieldType) (WF : List Nat) (nsl nw : Nat) (bt : Nat → ByteArray) (own : Nat → Nat) (ini : Nat → Bool) (m : Nat) (r : Row) : Bool :=
  decide (decode (bt m) r.1 = .ok (r.2.1, r.2.2.1)) && decide (r.2.2.1 = ilen2 r.2.1 r.2.2.1) && rowChk FL ML KI KJ AT WF nsl nw (own m) (ini m) r.2.1 r.2.2.2
theorem lookup_mem {L : List Row} {pc : Nat} {d : Instr × Nat × Int} (h : L.lookup pc = some d) : (pc, d) ∈ L := by
  induction L with
  | nil => cases h
  | cons x L ih =>
    obtain ⟨k, v⟩ := x
    rw [List.lookup_cons] at h
    by_cases e : pc = k
    · subst e; simp at h; subst h; exact List.mem_cons_self ..
    · have : (pc == k) = false := by simpa using e
      rw [this] at h; exact List.mem_cons_of_mem _ (ih h)
theorem row_ok {P : Prog} {tb : List Jvm.Cond} {C : String} {fn : Nat → String × String} {F : List Nat} {nsl nw : Nat} {nm : Nat → MethodName} {R : List Nat} {cn : Nat → String} {own : Nat → Nat} {ini : Nat → Bool}
    {FL ML : List (Nat × Nat × Nat)} {KI KJ : List (Nat × Nat × Int)} {AT : List FieldType} {WF : List Nat} {m : Nat} {ins : Instr} {aux : Int}
    (hown : (nm m).cls = cn (own m)) (hini : ini m = true → (nm m).cls = C ∧ (nm m).name = "<init>")
    (hFL : ∀ t ∈ FL, t.2.2 ∈ F ∧ Jvm.Cond.fieldLink (cn t.1) t.2.1 C (fn t.2.2).1 (fn t.2.2).2 ∈ tb) (hWF : ∀ k ∈ WF, Jvm.Cond.lays C C (fn k).1 (fn k).2 ∈ tb)
    (hML : ∀ t ∈ ML, t.2.2 ∈ R ∧ Jvm.Cond.methodLink (cn t.1) t.2.1 (nm t.2.2) ∈ tb) (hKI : ∀ t ∈ KI, Jvm.Cond.constant (cn t.1) t.2.1 (Int32.ofInt t.2.2) ∈ tb) (hKJ : ∀ t ∈ KJ, Jvm.Cond.constantLong (cn t.1) t.2.1 (Int64.ofInt t.2.2) ∈ tb)
    (hAT : ∀ t ∈ AT, Jvm.Cond.arrayClass t ∈ tb) (hN : Jvm.Cond.classLink (cn 1) nw C ∈ tb)
    (hO : Jvm.Cond.methodLink (cn 0) 1 Lib.objectInit ∈ tb ∧ Jvm.Cond.instanceMethod Lib.objectInit ∈ tb ∧ Jvm.Cond.code Lib.objectInit ⟨#[0xb1]⟩ 1 none ∈ tb)
    (h : rowChk FL ML KI KJ AT WF nsl nw (own m) (ini m) ins aux = true) : RowOk P tb C fn F nsl nm R m ins aux := by
  cases ins <;> first | trivial | skip
  case getfield i => have q := hFL _ (List.contains_iff_mem.mp h); exact ⟨q.1, by rw [hown]; exact q.2⟩
  case putfield i =>
    simp only [rowChk, Bool.and_eq_true, Bool.or_eq_true] at h
    have q := hFL _ (List.contains_iff_mem.mp h.1)
    exact ⟨q.1, by rw [hown]; exact q.2, h.2.imp (fun u => hWF _ (List.contains_iff_mem.mp u)) hini⟩
  case new i =>
    simp only [rowChk, Bool.and_eq_true, decide_eq_true_eq] at h
    obtain ⟨⟨h1, h2⟩, h3⟩ := h
    exact ⟨h1, by rw [hown, h2, h3]; exact hN⟩
  case newarray t => exact hAT _ (of_decide_eq_true h)
  case ldc i => have q := hKI _ (List.contains_iff_mem.mp h); show _ ∈ tb; rw [hown]; exact q
  case ldc2_w i => have q := hKJ _ (List.contains_iff_mem.mp h); show _ ∈ tb; rw [hown]; exact q
  case invokevirtual i => have q := hML _ (List.contains_iff_mem.mp h); exact ⟨q.1, by rw [hown]; exact q.2⟩
  case invokestatic i => have q := hML _ (List.contains_iff_mem.mp h); exact ⟨q.1, by rw [hown]; exact q.2⟩
  case invokespecial i =>
    simp only [rowChk] at h
    refine ⟨fun e => ?_, fun e => ?_⟩
    · rw [if_pos e] at h
      simp only [Bool.and_eq_true, decide_eq_true_eq] at h
      rw [hown, h.1, h.2]; exact hO
    · rw [if_neg (by omega)] at h
      have q := hML _ (List.contains_iff_mem.mp h)
      exact ⟨q.1, by rw [hown]; exact q.2⟩
theorem rel_H1 {C : String} {fn : Nat → String × String} {F : List Nat} {s : State} {a : Addr} {cl : Cell} (hf : Fit s) (A : Arr s s.heap a cl .int) (hl : cl.slots.size < 2 ^ 31) :
    ∃ f : Nat → Int32, RelH C fn F s s.heap.size s.heap (H1 s.heap.size a cl.slots.size f) := by
  refine ⟨fun i => match cl.slots[i]? with | some (.int x) => x | _ => 0, rfl, Nat.le_refl _, fun b => ?_⟩
  simp only [H1]
  by_cases e : b = a
  · subst e
    simp only [if_true]
    refine ⟨fun q => (by cases q), hl, cl, A, rfl, fun i hi => ?_⟩
    have hi : i < cl.slots.size := hi
    have hj := idx_in hi hl
    obtain ⟨v, q1, q2⟩ := elem_fit hf A hj
    have e2 : (i.toInt32).toNatClampNeg = i := by
      have := len_toInt (n := i) (by omega)
      simp only [Int32.toNatClampNeg, this]; omega
    rw [e2] at q1
    obtain ⟨x, rfl⟩ := fit_I q2 (Or.inl rfl)
    show _ = some (Value.int (match cl.slots[i]? with | some (.int x) => x | _ => 0))
    rw [q1]
  · simp only [e, if_false]; exact ⟨fun q => (by cases q), trivial⟩
end Jvm.JX

namespace Jvm.JX.Pj
open Jvm Jvm.ClassFile Sem Op Lib Jvm.JX
def r1 : List Row := [(0, .aload_n 0, 1, 0), (1, .invokespecial 1, 3, (-1)), (4, .aload_n 0, 1, 0), (5, .iconst 4, 1, 0), (6, .newarray .int, 2, 0), (8, .putfield 7, 3, 6), (11, .aload_n 0, 1, 0), (12, .iconst 4, 1, 0), (13, .newarray .int, 2, 0), (15, .putfield 13, 3, 7), (18, .aload_n 0, 1, 0), (19, .iconst 4, 1, 0), (20, .newarray .int, 2, 0), (22, .putfield 16, 3, 8), (25, .aload_n 0, 1, 0), (26, .iconst 4, 1, 0), (27, .newarray .int, 2, 0), (29, .putfield 19, 3, 9), (32, .aload_n 0, 1, 0), (33, .iconst 4, 1, 0), (34, .newarray .int, 2, 0), (36, .putfield 22, 3, 10), (39, .aload_n 0, 1, 0), (40, .bipush 32, 2, 0), (42, .newarray .int, 2, 0), (44, .putfield 25, 3, 11), (47, .aload_n 0, 1, 0), (48, .bipush 32, 2, 0), (50, .newarray .int, 2, 0), (52, .putfield 28, 3, 12), (55, .aload_n 0, 1, 0), (56, .bipush 32, 2, 0), (58, .newarray .int, 2, 0), (60, .putfield 31, 3, 13), (63, .aload_n 0, 1, 0), (64, .bipush 32, 2, 0), (66, .newarray .int, 2, 0), (68, .putfield 34, 3, 14), (71, .aload_n 0, 1, 0), (72, .bipush 32, 2, 0), (74, .newarray .int, 2, 0), (76, .putfield 37, 3, 15), (79, .aload_n 0, 1, 0), (80, .bipush 32, 2, 0), (82, .newarray .int, 2, 0), (84, .putfield 40, 3, 16), (87, .aload_n 0, 1, 0), (88, .bipush 32, 2, 0), (90, .newarray .int, 2, 0), (92, .putfield 43, 3, 17), (95, .aload_n 0, 1, 0), (96, .bipush 32, 2, 0), (98, .newarray .int, 2, 0), (100, .putfield 46, 3, 18), (103, .aload_n 0, 1, 0), (104, .aload_n 0, 1, 0), (105, .iload_n 1, 1, 0), (106, .iconst 1, 1, 0), (107, .iconst 4, 1, 0), (108, .invokevirtual 49, 3, 15), (111, .putfield 53, 3, 0), (114, .aload_n 0, 1, 0), (115, .aload_n 0, 1, 0), (116, .iload_n 2, 1, 0), (117, .iconst 2, 1, 0), (118, .bipush 16, 2, 0), (120, .invokevirtual 49, 3, 15), (123, .putfield 57, 3, 1), (126, .aload_n 0, 1, 0), (127, .aload_n 0, 1, 0), (128, .iload_n 3, 1, 0), (129, .iconst 1, 1, 0), (130, .bipush 8, 2, 0), (132, .invokevirtual 49, 3, 15), (135, .putfield 60, 3, 2), (138, .iconst 0, 1, 0), (139, .istore 4, 2, 0), (141, .iload 4, 2, 0), (143, .bipush 32, 2, 0), (145, .if_icmp .ge 17, 3, 0), (148, .aload_n 0, 1, 0), (149, .getfield 46, 3, 18), (152, .iload 4, 2, 0), (154, .iconst (-1), 1, 0), (155, .iastore, 1, 0), (156, .iinc 4 1, 3, 0), (159, .goto (-18), 3, 0), (162, .return_, 1, 0)]
def r2 : List Row := [(0, .aload_n 0, 1, 0), (1, .getfield 63, 3, 4), (4, .bipush 32, 2, 0), (6, .if_icmp .lt 5, 3, 0), (9, .iconst (-1), 1, 0), (10, .ireturn, 1, 0), (11, .iload_n 2, 1, 0), (12, .ifCond .lt 28, 3, 0), (15, .iload_n 2, 1, 0), (16, .aload_n 0, 1, 0), (17, .getfield 57, 3, 1), (20, .if_icmp .ge 20, 3, 0), (23, .iload_n 3, 1, 0), (24, .ifCond .lt 16, 3, 0), (27, .iload_n 3, 1, 0), (28, .aload_n 0, 1, 0), (29, .getfield 57, 3, 1), (32, .if_icmp .ge 8, 3, 0), (35, .iload_n 2, 1, 0), (36, .iload_n 3, 1, 0), (37, .if_icmp .ne 6, 3, 0), (40, .bipush (-2), 2, 0), (42, .ireturn, 1, 0), (43, .iload_n 1, 1, 0), (44, .aload_n 0, 1, 0), (45, .getfield 66, 3, 3), (48, .if_icmp .ge 6, 3, 0), (51, .bipush (-3), 2, 0), (53, .ireturn, 1, 0), (54, .aload_n 0, 1, 0), (55, .getfield 63, 3, 4), (58, .istore 4, 2, 0), (60, .aload_n 0, 1, 0), (61, .getfield 25, 3, 11), (64, .iload 4, 2, 0), (66, .iconst 0, 1, 0), (67, .iastore, 1, 0), (68, .aload_n 0, 1, 0), (69, .getfield 28, 3, 12), (72, .iload 4, 2, 0), (74, .iload_n 2, 1, 0), (75, .iastore, 1, 0), (76, .aload_n 0, 1, 0), (77, .getfield 31, 3, 13), (80, .iload 4, 2, 0), (82, .iload_n 3, 1, 0), (83, .iastore, 1, 0), (84, .aload_n 0, 1, 0), (85, .getfield 34, 3, 14), (88, .iload 4, 2, 0), (90, .iload_n 1, 1, 0), (91, .iastore, 1, 0), (92, .aload_n 0, 1, 0), (93, .getfield 37, 3, 15), (96, .iload 4, 2, 0), (98, .iconst (-1), 1, 0), (99, .iastore, 1, 0), (100, .aload_n 0, 1, 0), (101, .getfield 40, 3, 16), (104, .iload 4, 2, 0), (106, .iconst (-1), 1, 0), (107, .iastore, 1, 0), (108, .aload_n 0, 1, 0), (109, .getfield 43, 3, 17), (112, .iload 4, 2, 0), (114, .iconst (-1), 1, 0), (115, .iastore, 1, 0), (116, .aload_n 0, 1, 0), (117, .iload 4, 2, 0), (119, .iconst 1, 1, 0), (120, .iadd, 1, 0), (121, .putfield 63, 3, 4), (124, .iload 4, 2, 0), (126, .ireturn, 1, 0)]
def r3 : List Row := [(0, .aload_n 0, 1, 0), (1, .iload_n 2, 1, 0), (2, .iconst 0, 1, 0), (3, .bipush 32, 2, 0), (5, .invokevirtual 49, 3, 15), (8, .istore 4, 2, 0), (10, .aload_n 0, 1, 0), (11, .iload_n 3, 1, 0), (12, .iconst 0, 1, 0), (13, .bipush 16, 2, 0), (15, .invokevirtual 49, 3, 15), (18, .istore 5, 2, 0), (20, .iload_n 1, 1, 0), (21, .istore 6, 2, 0), (23, .iconst 0, 1, 0), (24, .istore 7, 2, 0), (26, .iconst 0, 1, 0), (27, .istore 8, 2, 0), (29, .iload 8, 2, 0), (31, .iload 4, 2, 0), (33, .if_icmp .ge 131, 3, 0), (36, .aload_n 0, 1, 0), (37, .getfield 63, 3, 4), (40, .bipush 32, 2, 0), (42, .if_icmp .lt 6, 3, 0), (45, .goto 119, 3, 0), (48, .iload 6, 2, 0), (50, .ldc 69, 2, 1103515245), (52, .imul, 1, 0), (53, .sipush 12345, 3, 0), (56, .iadd, 1, 0), (57, .istore 6, 2, 0), (59, .iload 6, 2, 0), (61, .bipush 16, 2, 0), (63, .iushr, 1, 0), (64, .sipush 32767, 3, 0), (67, .iand, 1, 0), (68, .istore 9, 2, 0), (70, .iload 6, 2, 0), (72, .ldc 69, 2, 1103515245), (74, .imul, 1, 0), (75, .sipush 12345, 3, 0), (78, .iadd, 1, 0), (79, .istore 6, 2, 0), (81, .iload 6, 2, 0), (83, .bipush 16, 2, 0), (85, .iushr, 1, 0), (86, .sipush 32767, 3, 0), (89, .iand, 1, 0), (90, .istore 10, 2, 0), (92, .iload 9, 2, 0), (94, .aload_n 0, 1, 0), (95, .getfield 57, 3, 1), (98, .irem, 1, 0), (99, .istore 11, 2, 0), (101, .iload 10, 2, 0), (103, .aload_n 0, 1, 0), (104, .getfield 57, 3, 1), (107, .iconst 1, 1, 0), (108, .isub, 1, 0), (109, .irem, 1, 0), (110, .istore 12, 2, 0), (112, .iload 12, 2, 0), (114, .iload 11, 2, 0), (116, .if_icmp .lt 10, 3, 0), (119, .iload 12, 2, 0), (121, .iconst 1, 1, 0), (122, .iadd, 1, 0), (123, .goto 5, 3, 0), (126, .iload 12, 2, 0), (128, .istore 13, 2, 0), (130, .aload_n 0, 1, 0), (131, .aload_n 0, 1, 0), (132, .getfield 66, 3, 3), (135, .iload 8, 2, 0), (137, .iload 5, 2, 0), (139, .imul, 1, 0), (140, .iadd, 1, 0), (141, .iload 11, 2, 0), (143, .iload 13, 2, 0), (145, .invokevirtual 70, 3, 2), (148, .istore 14, 2, 0), (150, .iload 14, 2, 0), (152, .ifCond .lt 6, 3, 0), (155, .iinc 7 1, 3, 0), (158, .iinc 8 1, 3, 0), (161, .goto (-132), 3, 0), (164, .iload 7, 2, 0), (166, .ireturn, 1, 0)]
def r4 : List Row := [(0, .aload_n 0, 1, 0), (1, .iload_n 1, 1, 0), (2, .iconst 1, 1, 0), (3, .bipush 32, 2, 0), (5, .invokevirtual 49, 3, 15), (8, .istore_n 2, 1, 0), (9, .aload_n 0, 1, 0), (10, .iconst 0, 1, 0), (11, .putfield 73, 3, 5), (14, .iconst 0, 1, 0), (15, .istore_n 3, 1, 0), (16, .iload_n 3, 1, 0), (17, .iload_n 2, 1, 0), (18, .if_icmp .ge 13, 3, 0), (21, .aload_n 0, 1, 0), (22, .invokevirtual 76, 3, 26), (25, .iinc 3 1, 3, 0), (28, .goto (-12), 3, 0), (31, .aload_n 0, 1, 0), (32, .getfield 73, 3, 5), (35, .ireturn, 1, 0)]
def r5 : List Row := [(0, .aload_n 0, 1, 0), (1, .getfield 66, 3, 3), (4, .ireturn, 1, 0)]
def r6 : List Row := [(0, .aload_n 0, 1, 0), (1, .getfield 63, 3, 4), (4, .ireturn, 1, 0)]
def r7 : List Row := [(0, .iconst 0, 1, 0), (1, .istore_n 1, 1, 0), (2, .iconst 0, 1, 0), (3, .istore_n 2, 1, 0), (4, .iload_n 2, 1, 0), (5, .aload_n 0, 1, 0), (6, .getfield 63, 3, 4), (9, .if_icmp .ge 22, 3, 0), (12, .aload_n 0, 1, 0), (13, .getfield 25, 3, 11), (16, .iload_n 2, 1, 0), (17, .iaload, 1, 0), (18, .iconst 3, 1, 0), (19, .if_icmp .ne 6, 3, 0), (22, .iinc 1 1, 3, 0), (25, .iinc 2 1, 3, 0), (28, .goto (-24), 3, 0), (31, .iload_n 1, 1, 0), (32, .ireturn, 1, 0)]
def r8 : List Row := [(0, .iload_n 1, 1, 0), (1, .ifCond .lt 11, 3, 0), (4, .iload_n 1, 1, 0), (5, .aload_n 0, 1, 0), (6, .getfield 53, 3, 0), (9, .if_icmp .lt 6, 3, 0), (12, .bipush (-99), 2, 0), (14, .ireturn, 1, 0), (15, .iload_n 2, 1, 0), (16, .ifCond .ne 10, 3, 0), (19, .aload_n 0, 1, 0), (20, .getfield 7, 3, 6), (23, .iload_n 1, 1, 0), (24, .iaload, 1, 0), (25, .ireturn, 1, 0), (26, .iload_n 2, 1, 0), (27, .iconst 1, 1, 0), (28, .if_icmp .ne 10, 3, 0), (31, .aload_n 0, 1, 0), (32, .getfield 13, 3, 7), (35, .iload_n 1, 1, 0), (36, .iaload, 1, 0), (37, .ireturn, 1, 0), (38, .iload_n 2, 1, 0), (39, .iconst 2, 1, 0), (40, .if_icmp .ne 10, 3, 0), (43, .aload_n 0, 1, 0), (44, .getfield 16, 3, 8), (47, .iload_n 1, 1, 0), (48, .iaload, 1, 0), (49, .ireturn, 1, 0), (50, .iload_n 2, 1, 0), (51, .iconst 3, 1, 0), (52, .if_icmp .ne 10, 3, 0), (55, .aload_n 0, 1, 0), (56, .getfield 19, 3, 9), (59, .iload_n 1, 1, 0), (60, .iaload, 1, 0), (61, .ireturn, 1, 0), (62, .iload_n 2, 1, 0), (63, .iconst 4, 1, 0), (64, .if_icmp .ne 10, 3, 0), (67, .aload_n 0, 1, 0), (68, .getfield 22, 3, 10), (71, .iload_n 1, 1, 0), (72, .iaload, 1, 0), (73, .ireturn, 1, 0), (74, .bipush (-99), 2, 0), (76, .ireturn, 1, 0)]
def r9 : List Row := [(0, .iload_n 1, 1, 0), (1, .ifCond .lt 11, 3, 0), (4, .iload_n 1, 1, 0), (5, .aload_n 0, 1, 0), (6, .getfield 63, 3, 4), (9, .if_icmp .lt 6, 3, 0), (12, .bipush (-99), 2, 0), (14, .ireturn, 1, 0), (15, .iload_n 2, 1, 0), (16, .ifCond .ne 10, 3, 0), (19, .aload_n 0, 1, 0), (20, .getfield 25, 3, 11), (23, .iload_n 1, 1, 0), (24, .iaload, 1, 0), (25, .ireturn, 1, 0), (26, .iload_n 2, 1, 0), (27, .iconst 1, 1, 0), (28, .if_icmp .ne 10, 3, 0), (31, .aload_n 0, 1, 0), (32, .getfield 28, 3, 12), (35, .iload_n 1, 1, 0), (36, .iaload, 1, 0), (37, .ireturn, 1, 0), (38, .iload_n 2, 1, 0), (39, .iconst 2, 1, 0), (40, .if_icmp .ne 10, 3, 0), (43, .aload_n 0, 1, 0), (44, .getfield 31, 3, 13), (47, .iload_n 1, 1, 0), (48, .iaload, 1, 0), (49, .ireturn, 1, 0), (50, .iload_n 2, 1, 0), (51, .iconst 3, 1, 0), (52, .if_icmp .ne 10, 3, 0), (55, .aload_n 0, 1, 0), (56, .getfield 34, 3, 14), (59, .iload_n 1, 1, 0), (60, .iaload, 1, 0), (61, .ireturn, 1, 0), (62, .iload_n 2, 1, 0), (63, .iconst 4, 1, 0), (64, .if_icmp .ne 10, 3, 0), (67, .aload_n 0, 1, 0), (68, .getfield 37, 3, 15), (71, .iload_n 1, 1, 0), (72, .iaload, 1, 0), (73, .ireturn, 1, 0), (74, .iload_n 2, 1, 0), (75, .iconst 5, 1, 0), (76, .if_icmp .ne 10, 3, 0), (79, .aload_n 0, 1, 0), (80, .getfield 40, 3, 16), (83, .iload_n 1, 1, 0), (84, .iaload, 1, 0), (85, .ireturn, 1, 0), (86, .iload_n 2, 1, 0), (87, .bipush 6, 2, 0), (89, .if_icmp .ne 10, 3, 0), (92, .aload_n 0, 1, 0), (93, .getfield 43, 3, 17), (96, .iload_n 1, 1, 0), (97, .iaload, 1, 0), (98, .ireturn, 1, 0), (99, .bipush (-99), 2, 0), (101, .ireturn, 1, 0)]
def r10 : List Row := [(0, .iload_n 1, 1, 0), (1, .ifCond .lt 21, 3, 0), (4, .iload_n 1, 1, 0), (5, .aload_n 0, 1, 0), (6, .getfield 57, 3, 1), (9, .if_icmp .ge 13, 3, 0), (12, .iload_n 2, 1, 0), (13, .iconst 1, 1, 0), (14, .if_icmp .eq 11, 3, 0), (17, .iload_n 2, 1, 0), (18, .iconst (-1), 1, 0), (19, .if_icmp .eq 6, 3, 0), (22, .bipush (-99), 2, 0), (24, .ireturn, 1, 0), (25, .aload_n 0, 1, 0), (26, .iload_n 1, 1, 0), (27, .iload_n 2, 1, 0), (28, .invokevirtual 79, 3, 19), (31, .ifCond .ne 5, 3, 0), (34, .iconst (-1), 1, 0), (35, .ireturn, 1, 0), (36, .aload_n 0, 1, 0), (37, .getfield 46, 3, 18), (40, .aload_n 0, 1, 0), (41, .iload_n 1, 1, 0), (42, .iload_n 2, 1, 0), (43, .invokevirtual 83, 3, 18), (46, .iaload, 1, 0), (47, .ireturn, 1, 0)]
def r11 : List Row := [(0, .iload_n 1, 1, 0), (1, .ifCond .lt 11, 3, 0), (4, .iload_n 1, 1, 0), (5, .aload_n 0, 1, 0), (6, .getfield 57, 3, 1), (9, .if_icmp .lt 6, 3, 0), (12, .bipush (-99), 2, 0), (14, .ireturn, 1, 0), (15, .iconst 0, 1, 0), (16, .istore_n 2, 1, 0), (17, .iconst 0, 1, 0), (18, .istore_n 3, 1, 0), (19, .iload_n 3, 1, 0), (20, .aload_n 0, 1, 0), (21, .getfield 63, 3, 4), (24, .if_icmp .ge 32, 3, 0), (27, .aload_n 0, 1, 0), (28, .getfield 25, 3, 11), (31, .iload_n 3, 1, 0), (32, .iaload, 1, 0), (33, .iconst 1, 1, 0), (34, .if_icmp .ne 16, 3, 0), (37, .aload_n 0, 1, 0), (38, .getfield 28, 3, 12), (41, .iload_n 3, 1, 0), (42, .iaload, 1, 0), (43, .iload_n 1, 1, 0), (44, .if_icmp .ne 6, 3, 0), (47, .iinc 2 1, 3, 0), (50, .iinc 3 1, 3, 0), (53, .goto (-34), 3, 0), (56, .iload_n 2, 1, 0), (57, .ireturn, 1, 0)]
def r12 : List Row := [(0, .iconst 0, 1, 0), (1, .istore_n 1, 1, 0), (2, .iconst 0, 1, 0), (3, .istore_n 2, 1, 0), (4, .iload_n 2, 1, 0), (5, .aload_n 0, 1, 0), (6, .getfield 63, 3, 4), (9, .if_icmp .ge 35, 3, 0), (12, .aload_n 0, 1, 0), (13, .getfield 37, 3, 15), (16, .iload_n 2, 1, 0), (17, .iaload, 1, 0), (18, .iconst (-1), 1, 0), (19, .if_icmp .eq 19, 3, 0), (22, .iload_n 1, 1, 0), (23, .aload_n 0, 1, 0), (24, .getfield 37, 3, 15), (27, .iload_n 2, 1, 0), (28, .iaload, 1, 0), (29, .aload_n 0, 1, 0), (30, .getfield 34, 3, 14), (33, .iload_n 2, 1, 0), (34, .iaload, 1, 0), (35, .isub, 1, 0), (36, .iadd, 1, 0), (37, .istore_n 1, 1, 0), (38, .iinc 2 1, 3, 0), (41, .goto (-37), 3, 0), (44, .iload_n 1, 1, 0), (45, .ireturn, 1, 0)]
def r13 : List Row := [(0, .iconst 0, 1, 0), (1, .istore_n 1, 1, 0), (2, .iconst 0, 1, 0), (3, .istore_n 2, 1, 0), (4, .iload_n 2, 1, 0), (5, .aload_n 0, 1, 0), (6, .getfield 63, 3, 4), (9, .if_icmp .ge 35, 3, 0), (12, .aload_n 0, 1, 0), (13, .getfield 25, 3, 11), (16, .iload_n 2, 1, 0), (17, .iaload, 1, 0), (18, .iconst 3, 1, 0), (19, .if_icmp .ne 19, 3, 0), (22, .iload_n 1, 1, 0), (23, .aload_n 0, 1, 0), (24, .getfield 40, 3, 16), (27, .iload_n 2, 1, 0), (28, .iaload, 1, 0), (29, .aload_n 0, 1, 0), (30, .getfield 34, 3, 14), (33, .iload_n 2, 1, 0), (34, .iaload, 1, 0), (35, .isub, 1, 0), (36, .iadd, 1, 0), (37, .istore_n 1, 1, 0), (38, .iinc 2 1, 3, 0), (41, .goto (-37), 3, 0), (44, .iload_n 1, 1, 0), (45, .ireturn, 1, 0)]
def r14 : List Row := [(0, .iload_n 1, 1, 0), (1, .ifCond .eq 8, 3, 0), (4, .iload_n 1, 1, 0), (5, .iconst 1, 1, 0), (6, .if_icmp .ne 13, 3, 0), (9, .iload_n 2, 1, 0), (10, .ifCond .lt 9, 3, 0), (13, .iload_n 2, 1, 0), (14, .bipush 7, 2, 0), (16, .if_icmp .le 6, 3, 0), (19, .bipush (-99), 2, 0), (21, .ireturn, 1, 0), (22, .iconst 0, 1, 0), (23, .istore_n 3, 1, 0), (24, .iconst 0, 1, 0), (25, .istore 4, 2, 0), (27, .iload 4, 2, 0), (29, .aload_n 0, 1, 0), (30, .getfield 63, 3, 4), (33, .if_icmp .ge 104, 3, 0), (36, .iload_n 1, 1, 0), (37, .ifCond .ne 41, 3, 0), (40, .aload_n 0, 1, 0), (41, .getfield 37, 3, 15), (44, .iload 4, 2, 0), (46, .iaload, 1, 0), (47, .iconst (-1), 1, 0), (48, .if_icmp .eq 7, 3, 0), (51, .iconst 1, 1, 0), (52, .goto 4, 3, 0), (55, .iconst 0, 1, 0), (56, .istore 5, 2, 0), (58, .aload_n 0, 1, 0), (59, .getfield 37, 3, 15), (62, .iload 4, 2, 0), (64, .iaload, 1, 0), (65, .aload_n 0, 1, 0), (66, .getfield 34, 3, 14), (69, .iload 4, 2, 0), (71, .iaload, 1, 0), (72, .isub, 1, 0), (73, .istore 6, 2, 0), (75, .goto 38, 3, 0), (78, .aload_n 0, 1, 0), (79, .getfield 25, 3, 11), (82, .iload 4, 2, 0), (84, .iaload, 1, 0), (85, .iconst 3, 1, 0), (86, .if_icmp .ne 7, 3, 0), (89, .iconst 1, 1, 0), (90, .goto 4, 3, 0), (93, .iconst 0, 1, 0), (94, .istore 5, 2, 0), (96, .aload_n 0, 1, 0), (97, .getfield 40, 3, 16), (100, .iload 4, 2, 0), (102, .iaload, 1, 0), (103, .aload_n 0, 1, 0), (104, .getfield 34, 3, 14), (107, .iload 4, 2, 0), (109, .iaload, 1, 0), (110, .isub, 1, 0), (111, .istore 6, 2, 0), (113, .iload 5, 2, 0), (115, .ifCond .eq 16, 3, 0), (118, .aload_n 0, 1, 0), (119, .iload 6, 2, 0), (121, .invokevirtual 87, 3, 16), (124, .iload_n 2, 1, 0), (125, .if_icmp .ne 6, 3, 0), (128, .iinc 3 1, 3, 0), (131, .iinc 4 1, 3, 0), (134, .goto (-107), 3, 0), (137, .iload_n 3, 1, 0), (138, .ireturn, 1, 0)]
def r15 : List Row := [(0, .iload_n 1, 1, 0), (1, .iload_n 2, 1, 0), (2, .if_icmp .ge 5, 3, 0), (5, .iload_n 2, 1, 0), (6, .ireturn, 1, 0), (7, .iload_n 1, 1, 0), (8, .iload_n 3, 1, 0), (9, .if_icmp .le 5, 3, 0), (12, .iload_n 3, 1, 0), (13, .ireturn, 1, 0), (14, .iload_n 1, 1, 0), (15, .ireturn, 1, 0)]
def r16 : List Row := [(0, .iload_n 1, 1, 0), (1, .bipush 28, 2, 0), (3, .if_icmp .ge 7, 3, 0), (6, .iload_n 1, 1, 0), (7, .iconst 4, 1, 0), (8, .idiv, 1, 0), (9, .ireturn, 1, 0), (10, .bipush 7, 2, 0), (12, .ireturn, 1, 0)]
def r17 : List Row := [(0, .aload_n 0, 1, 0), (1, .getfield 31, 3, 13), (4, .iload_n 1, 1, 0), (5, .iaload, 1, 0), (6, .aload_n 0, 1, 0), (7, .getfield 28, 3, 12), (10, .iload_n 1, 1, 0), (11, .iaload, 1, 0), (12, .if_icmp .le 7, 3, 0), (15, .iconst 1, 1, 0), (16, .goto 4, 3, 0), (19, .iconst (-1), 1, 0), (20, .ireturn, 1, 0)]
def r18 : List Row := [(0, .iload_n 1, 1, 0), (1, .iconst 2, 1, 0), (2, .imul, 1, 0), (3, .iload_n 2, 1, 0), (4, .iconst 1, 1, 0), (5, .if_icmp .ne 7, 3, 0), (8, .iconst 0, 1, 0), (9, .goto 4, 3, 0), (12, .iconst 1, 1, 0), (13, .iadd, 1, 0), (14, .ireturn, 1, 0)]
def r19 : List Row := [(0, .iconst 0, 1, 0), (1, .istore_n 3, 1, 0), (2, .iload_n 3, 1, 0), (3, .aload_n 0, 1, 0), (4, .getfield 63, 3, 4), (7, .if_icmp .ge 40, 3, 0), (10, .aload_n 0, 1, 0), (11, .getfield 25, 3, 11), (14, .iload_n 3, 1, 0), (15, .iaload, 1, 0), (16, .iconst 1, 1, 0), (17, .if_icmp .ne 24, 3, 0), (20, .aload_n 0, 1, 0), (21, .getfield 28, 3, 12), (24, .iload_n 3, 1, 0), (25, .iaload, 1, 0), (26, .iload_n 1, 1, 0), (27, .if_icmp .ne 14, 3, 0), (30, .aload_n 0, 1, 0), (31, .iload_n 3, 1, 0), (32, .invokevirtual 91, 3, 17), (35, .iload_n 2, 1, 0), (36, .if_icmp .ne 5, 3, 0), (39, .iconst 1, 1, 0), (40, .ireturn, 1, 0), (41, .iinc 3 1, 3, 0), (44, .goto (-42), 3, 0), (47, .iconst 0, 1, 0), (48, .ireturn, 1, 0)]
def r20 : List Row := [(0, .iload_n 1, 1, 0), (1, .ifCond .lt 11, 3, 0), (4, .iload_n 1, 1, 0), (5, .aload_n 0, 1, 0), (6, .getfield 57, 3, 1), (9, .if_icmp .lt 5, 3, 0), (12, .iconst 0, 1, 0), (13, .ireturn, 1, 0), (14, .aload_n 0, 1, 0), (15, .iload_n 1, 1, 0), (16, .iload_n 2, 1, 0), (17, .invokevirtual 79, 3, 19), (20, .ifCond .ne 5, 3, 0), (23, .iconst 0, 1, 0), (24, .ireturn, 1, 0), (25, .aload_n 0, 1, 0), (26, .getfield 46, 3, 18), (29, .aload_n 0, 1, 0), (30, .iload_n 1, 1, 0), (31, .iload_n 2, 1, 0), (32, .invokevirtual 83, 3, 18), (35, .iaload, 1, 0), (36, .iload_n 3, 1, 0), (37, .if_icmp .ne 7, 3, 0), (40, .iconst 1, 1, 0), (41, .goto 4, 3, 0), (44, .iconst 0, 1, 0), (45, .ireturn, 1, 0)]
def r21 : List Row := [(0, .iconst 0, 1, 0), (1, .istore_n 3, 1, 0), (2, .iload_n 3, 1, 0), (3, .aload_n 0, 1, 0), (4, .getfield 63, 3, 4), (7, .if_icmp .ge 41, 3, 0), (10, .aload_n 0, 1, 0), (11, .getfield 25, 3, 11), (14, .iload_n 3, 1, 0), (15, .iaload, 1, 0), (16, .iconst 2, 1, 0), (17, .if_icmp .ne 25, 3, 0), (20, .aload_n 0, 1, 0), (21, .getfield 43, 3, 17), (24, .iload_n 3, 1, 0), (25, .iaload, 1, 0), (26, .iload_n 1, 1, 0), (27, .if_icmp .ne 15, 3, 0), (30, .aload_n 0, 1, 0), (31, .getfield 31, 3, 13), (34, .iload_n 3, 1, 0), (35, .iaload, 1, 0), (36, .iload_n 2, 1, 0), (37, .if_icmp .ne 5, 3, 0), (40, .iconst 1, 1, 0), (41, .ireturn, 1, 0), (42, .iinc 3 1, 3, 0), (45, .goto (-43), 3, 0), (48, .iconst 0, 1, 0), (49, .ireturn, 1, 0)]
def r22 : List Row := [(0, .aload_n 0, 1, 0), (1, .iload_n 1, 1, 0), (2, .iload_n 2, 1, 0), (3, .invokevirtual 94, 3, 21), (6, .ifCond .ne 23, 3, 0), (9, .aload_n 0, 1, 0), (10, .iload_n 2, 1, 0), (11, .iconst 1, 1, 0), (12, .iload_n 1, 1, 0), (13, .invokevirtual 97, 3, 20), (16, .ifCond .ne 13, 3, 0), (19, .aload_n 0, 1, 0), (20, .iload_n 2, 1, 0), (21, .iconst (-1), 1, 0), (22, .iload_n 1, 1, 0), (23, .invokevirtual 97, 3, 20), (26, .ifCond .eq 7, 3, 0), (29, .iconst 1, 1, 0), (30, .goto 4, 3, 0), (33, .iconst 0, 1, 0), (34, .ireturn, 1, 0)]
def r23 : List Row := [(0, .aload_n 0, 1, 0), (1, .getfield 7, 3, 6), (4, .iload_n 1, 1, 0), (5, .iaload, 1, 0), (6, .istore_n 3, 1, 0), (7, .iconst 0, 1, 0), (8, .istore 4, 2, 0), (10, .iload 4, 2, 0), (12, .aload_n 0, 1, 0), (13, .getfield 57, 3, 1), (16, .if_icmp .ge 55, 3, 0), (19, .iload_n 2, 1, 0), (20, .iconst 1, 1, 0), (21, .if_icmp .ne 9, 3, 0), (24, .iload 4, 2, 0), (26, .iload_n 3, 1, 0), (27, .if_icmp .gt 14, 3, 0), (30, .iload_n 2, 1, 0), (31, .iconst (-1), 1, 0), (32, .if_icmp .ne 13, 3, 0), (35, .iload 4, 2, 0), (37, .iload_n 3, 1, 0), (38, .if_icmp .ge 7, 3, 0), (41, .iconst 1, 1, 0), (42, .goto 4, 3, 0), (45, .iconst 0, 1, 0), (46, .istore 5, 2, 0), (48, .iload 5, 2, 0), (50, .ifCond .eq 15, 3, 0), (53, .aload_n 0, 1, 0), (54, .iload_n 1, 1, 0), (55, .iload 4, 2, 0), (57, .invokevirtual 101, 3, 22), (60, .ifCond .eq 5, 3, 0), (63, .iconst 1, 1, 0), (64, .ireturn, 1, 0), (65, .iinc 4 1, 3, 0), (68, .goto (-58), 3, 0), (71, .iconst 0, 1, 0), (72, .ireturn, 1, 0)]
def r24 : List Row := [(0, .aload_n 0, 1, 0), (1, .getfield 19, 3, 9), (4, .iload_n 1, 1, 0), (5, .iaload, 1, 0), (6, .aload_n 0, 1, 0), (7, .getfield 60, 3, 2), (10, .if_icmp .ge 7, 3, 0), (13, .iconst 1, 1, 0), (14, .goto 4, 3, 0), (17, .iconst 0, 1, 0), (18, .ireturn, 1, 0)]
def r25 : List Row := [(0, .aload_n 0, 1, 0), (1, .getfield 16, 3, 8), (4, .iload_n 1, 1, 0), (5, .iaload, 1, 0), (6, .ifCond .eq 12, 3, 0), (9, .aload_n 0, 1, 0), (10, .getfield 16, 3, 8), (13, .iload_n 1, 1, 0), (14, .iaload, 1, 0), (15, .goto 4, 3, 0), (18, .iconst 1, 1, 0), (19, .istore_n 2, 1, 0), (20, .aload_n 0, 1, 0), (21, .getfield 7, 3, 6), (24, .iload_n 1, 1, 0), (25, .iaload, 1, 0), (26, .istore_n 3, 1, 0), (27, .aload_n 0, 1, 0), (28, .iload_n 1, 1, 0), (29, .iload_n 2, 1, 0), (30, .invokevirtual 104, 3, 23), (33, .ifCond .ne 12, 3, 0), (36, .aload_n 0, 1, 0), (37, .iload_n 3, 1, 0), (38, .iload_n 2, 1, 0), (39, .invokevirtual 79, 3, 19), (42, .ifCond .eq 5, 3, 0), (45, .iload_n 2, 1, 0), (46, .ireturn, 1, 0), (47, .aload_n 0, 1, 0), (48, .iload_n 1, 1, 0), (49, .iload_n 2, 1, 0), (50, .ineg, 1, 0), (51, .invokevirtual 104, 3, 23), (54, .ifCond .ne 13, 3, 0), (57, .aload_n 0, 1, 0), (58, .iload_n 3, 1, 0), (59, .iload_n 2, 1, 0), (60, .ineg, 1, 0), (61, .invokevirtual 79, 3, 19), (64, .ifCond .eq 6, 3, 0), (67, .iload_n 2, 1, 0), (68, .ineg, 1, 0), (69, .ireturn, 1, 0), (70, .iconst 0, 1, 0), (71, .ireturn, 1, 0)]
def r26 : List Row := [(0, .aload_n 0, 1, 0), (1, .invokevirtual 107, 3, 27), (4, .aload_n 0, 1, 0), (5, .invokevirtual 110, 3, 28), (8, .iconst 0, 1, 0), (9, .istore_n 1, 1, 0), (10, .iload_n 1, 1, 0), (11, .aload_n 0, 1, 0), (12, .getfield 53, 3, 0), (15, .if_icmp .ge 14, 3, 0), (18, .aload_n 0, 1, 0), (19, .iload_n 1, 1, 0), (20, .invokevirtual 113, 3, 31), (23, .iinc 1 1, 3, 0), (26, .goto (-16), 3, 0), (29, .aload_n 0, 1, 0), (30, .aload_n 0, 1, 0), (31, .getfield 66, 3, 3), (34, .iconst 1, 1, 0), (35, .iadd, 1, 0), (36, .putfield 66, 3, 3), (39, .return_, 1, 0)]
def r27 : List Row := [(0, .iconst 0, 1, 0), (1, .istore_n 1, 1, 0), (2, .iload_n 1, 1, 0), (3, .aload_n 0, 1, 0), (4, .getfield 63, 3, 4), (7, .if_icmp .ge 38, 3, 0), (10, .aload_n 0, 1, 0), (11, .getfield 25, 3, 11), (14, .iload_n 1, 1, 0), (15, .iaload, 1, 0), (16, .ifCond .ne 23, 3, 0), (19, .aload_n 0, 1, 0), (20, .getfield 34, 3, 14), (23, .iload_n 1, 1, 0), (24, .iaload, 1, 0), (25, .aload_n 0, 1, 0), (26, .getfield 66, 3, 3), (29, .if_icmp .ne 10, 3, 0), (32, .aload_n 0, 1, 0), (33, .getfield 25, 3, 11), (36, .iload_n 1, 1, 0), (37, .iconst 1, 1, 0), (38, .iastore, 1, 0), (39, .iinc 1 1, 3, 0), (42, .goto (-40), 3, 0), (45, .return_, 1, 0)]
def r28 : List Row := [(0, .iconst 0, 1, 0), (1, .istore_n 1, 1, 0), (2, .iload_n 1, 1, 0), (3, .aload_n 0, 1, 0), (4, .getfield 57, 3, 1), (7, .if_icmp .ge 38, 3, 0), (10, .iconst 0, 1, 0), (11, .istore_n 2, 1, 0), (12, .iload_n 2, 1, 0), (13, .iconst 2, 1, 0), (14, .if_icmp .ge 25, 3, 0), (17, .iload_n 2, 1, 0), (18, .ifCond .ne 7, 3, 0), (21, .iconst 1, 1, 0), (22, .goto 4, 3, 0), (25, .iconst (-1), 1, 0), (26, .istore_n 3, 1, 0), (27, .aload_n 0, 1, 0), (28, .iload_n 1, 1, 0), (29, .iload_n 3, 1, 0), (30, .invokevirtual 117, 3, 29), (33, .iinc 2 1, 3, 0), (36, .goto (-24), 3, 0), (39, .iinc 1 1, 3, 0), (42, .goto (-40), 3, 0), (45, .return_, 1, 0)]
def r29 : List Row := [(0, .aload_n 0, 1, 0), (1, .iload_n 1, 1, 0), (2, .iload_n 2, 1, 0), (3, .invokevirtual 83, 3, 18), (6, .istore_n 3, 1, 0), (7, .aload_n 0, 1, 0), (8, .iload_n 1, 1, 0), (9, .iload_n 2, 1, 0), (10, .invokevirtual 79, 3, 19), (13, .ifCond .ne 11, 3, 0), (16, .aload_n 0, 1, 0), (17, .getfield 46, 3, 18), (20, .iload_n 3, 1, 0), (21, .iconst (-1), 1, 0), (22, .iastore, 1, 0), (23, .return_, 1, 0), (24, .iconst (-1), 1, 0), (25, .istore 4, 2, 0), (27, .iconst 0, 1, 0), (28, .istore 5, 2, 0), (30, .iconst 0, 1, 0), (31, .istore 6, 2, 0), (33, .iload 6, 2, 0), (35, .aload_n 0, 1, 0), (36, .getfield 53, 3, 0), (39, .if_icmp .ge 40, 3, 0), (42, .aload_n 0, 1, 0), (43, .iload 6, 2, 0), (45, .iload_n 1, 1, 0), (46, .iload_n 2, 1, 0), (47, .invokevirtual 121, 3, 30), (50, .istore 7, 2, 0), (52, .iload 4, 2, 0), (54, .iconst (-1), 1, 0), (55, .if_icmp .eq 10, 3, 0), (58, .iload 7, 2, 0), (60, .iload 5, 2, 0), (62, .if_icmp .ge 11, 3, 0), (65, .iload 6, 2, 0), (67, .istore 4, 2, 0), (69, .iload 7, 2, 0), (71, .istore 5, 2, 0), (73, .iinc 6 1, 3, 0), (76, .goto (-43), 3, 0), (79, .aload_n 0, 1, 0), (80, .getfield 46, 3, 18), (83, .iload_n 3, 1, 0), (84, .iaload, 1, 0), (85, .istore 6, 2, 0), (87, .iload 6, 2, 0), (89, .ifCond .lt 33, 3, 0), (92, .iload 6, 2, 0), (94, .aload_n 0, 1, 0), (95, .getfield 53, 3, 0), (98, .if_icmp .ge 24, 3, 0), (101, .aload_n 0, 1, 0), (102, .iload 6, 2, 0), (104, .iload_n 1, 1, 0), (105, .iload_n 2, 1, 0), (106, .invokevirtual 121, 3, 30), (109, .istore 7, 2, 0), (111, .iload 7, 2, 0), (113, .iload 5, 2, 0), (115, .if_icmp .ne 7, 3, 0), (118, .iload 6, 2, 0), (120, .istore 4, 2, 0), (122, .aload_n 0, 1, 0), (123, .getfield 46, 3, 18), (126, .iload_n 3, 1, 0), (127, .iload 4, 2, 0), (129, .iastore, 1, 0), (130, .return_, 1, 0)]
def r30 : List Row := [(0, .aload_n 0, 1, 0), (1, .getfield 7, 3, 6), (4, .iload_n 1, 1, 0), (5, .iaload, 1, 0), (6, .istore 4, 2, 0), (8, .aload_n 0, 1, 0), (9, .getfield 16, 3, 8), (12, .iload_n 1, 1, 0), (13, .iaload, 1, 0), (14, .istore 5, 2, 0), (16, .aload_n 0, 1, 0), (17, .getfield 13, 3, 7), (20, .iload_n 1, 1, 0), (21, .iaload, 1, 0), (22, .iconst 3, 1, 0), (23, .if_icmp .ne 11, 3, 0), (26, .iload 4, 2, 0), (28, .iload 5, 2, 0), (30, .iadd, 1, 0), (31, .goto 5, 3, 0), (34, .iload 4, 2, 0), (36, .istore 6, 2, 0), (38, .aload_n 0, 1, 0), (39, .getfield 57, 3, 1), (42, .iconst 1, 1, 0), (43, .isub, 1, 0), (44, .istore 7, 2, 0), (46, .iload 5, 2, 0), (48, .iconst 1, 1, 0), (49, .if_icmp .ne 58, 3, 0), (52, .iload_n 3, 1, 0), (53, .iconst 1, 1, 0), (54, .if_icmp .ne 18, 3, 0), (57, .iload_n 2, 1, 0), (58, .iload 6, 2, 0), (60, .if_icmp .lt 12, 3, 0), (63, .iload_n 2, 1, 0), (64, .iload 6, 2, 0), (66, .isub, 1, 0), (67, .istore 8, 2, 0), (69, .goto 112, 3, 0), (72, .iload_n 3, 1, 0), (73, .iconst (-1), 1, 0), (74, .if_icmp .ne 18, 3, 0), (77, .iload 7, 2, 0), (79, .iload 6, 2, 0), (81, .isub, 1, 0), (82, .iload 7, 2, 0), (84, .iload_n 2, 1, 0), (85, .isub, 1, 0), (86, .iadd, 1, 0), (87, .istore 8, 2, 0), (89, .goto 92, 3, 0), (92, .iload 7, 2, 0), (94, .iload 6, 2, 0), (96, .isub, 1, 0), (97, .iload 7, 2, 0), (99, .iadd, 1, 0), (100, .iload_n 2, 1, 0), (101, .iadd, 1, 0), (102, .istore 8, 2, 0), (104, .goto 77, 3, 0), (107, .iload 5, 2, 0), (109, .iconst (-1), 1, 0), (110, .if_icmp .ne 52, 3, 0), (113, .iload_n 3, 1, 0), (114, .iconst (-1), 1, 0), (115, .if_icmp .ne 18, 3, 0), (118, .iload_n 2, 1, 0), (119, .iload 6, 2, 0), (121, .if_icmp .gt 12, 3, 0), (124, .iload 6, 2, 0), (126, .iload_n 2, 1, 0), (127, .isub, 1, 0), (128, .istore 8, 2, 0), (130, .goto 51, 3, 0), (133, .iload_n 3, 1, 0), (134, .iconst 1, 1, 0), (135, .if_icmp .ne 12, 3, 0), (138, .iload 6, 2, 0), (140, .iload_n 2, 1, 0), (141, .iadd, 1, 0), (142, .istore 8, 2, 0), (144, .goto 37, 3, 0), (147, .iload 6, 2, 0), (149, .iload 7, 2, 0), (151, .iadd, 1, 0), (152, .iload 7, 2, 0), (154, .iload_n 2, 1, 0), (155, .isub, 1, 0), (156, .iadd, 1, 0), (157, .istore 8, 2, 0), (159, .goto 22, 3, 0), (162, .iload_n 2, 1, 0), (163, .iload 6, 2, 0), (165, .if_icmp .lt 10, 3, 0), (168, .iload_n 2, 1, 0), (169, .iload 6, 2, 0), (171, .isub, 1, 0), (172, .goto 7, 3, 0), (175, .iload 6, 2, 0), (177, .iload_n 2, 1, 0), (178, .isub, 1, 0), (179, .istore 8, 2, 0), (181, .iconst 2, 1, 0), (182, .iload 8, 2, 0), (184, .imul, 1, 0), (185, .istore 9, 2, 0), (187, .aload_n 0, 1, 0), (188, .getfield 19, 3, 9), (191, .iload_n 1, 1, 0), (192, .iaload, 1, 0), (193, .aload_n 0, 1, 0), (194, .getfield 60, 3, 2), (197, .if_icmp .ne 6, 3, 0), (200, .iinc 9 64, 3, 0), (203, .iload 9, 2, 0), (205, .ireturn, 1, 0)]
def r31 : List Row := [(0, .aload_n 0, 1, 0), (1, .getfield 13, 3, 7), (4, .iload_n 1, 1, 0), (5, .iaload, 1, 0), (6, .istore_n 2, 1, 0), (7, .iload_n 2, 1, 0), (8, .ifCond .ne 11, 3, 0), (11, .aload_n 0, 1, 0), (12, .iload_n 1, 1, 0), (13, .invokevirtual 124, 3, 32), (16, .goto 39, 3, 0), (19, .iload_n 2, 1, 0), (20, .iconst 3, 1, 0), (21, .if_icmp .ne 11, 3, 0), (24, .aload_n 0, 1, 0), (25, .iload_n 1, 1, 0), (26, .invokevirtual 127, 3, 33), (29, .goto 26, 3, 0), (32, .iload_n 2, 1, 0), (33, .iconst 1, 1, 0), (34, .if_icmp .ne 11, 3, 0), (37, .aload_n 0, 1, 0), (38, .iload_n 1, 1, 0), (39, .invokevirtual 130, 3, 34), (42, .goto 13, 3, 0), (45, .iload_n 2, 1, 0), (46, .iconst 2, 1, 0), (47, .if_icmp .ne 8, 3, 0), (50, .aload_n 0, 1, 0), (51, .iload_n 1, 1, 0), (52, .invokevirtual 133, 3, 37), (55, .return_, 1, 0)]
def r32 : List Row := [(0, .aload_n 0, 1, 0), (1, .iload_n 1, 1, 0), (2, .invokevirtual 136, 3, 25), (5, .istore_n 2, 1, 0), (6, .aload_n 0, 1, 0), (7, .getfield 16, 3, 8), (10, .iload_n 1, 1, 0), (11, .iload_n 2, 1, 0), (12, .iastore, 1, 0), (13, .iload_n 2, 1, 0), (14, .ifCond .ne 4, 3, 0), (17, .return_, 1, 0), (18, .aload_n 0, 1, 0), (19, .iload_n 1, 1, 0), (20, .invokevirtual 139, 3, 24), (23, .ifCond .eq 34, 3, 0), (26, .aload_n 0, 1, 0), (27, .aload_n 0, 1, 0), (28, .getfield 7, 3, 6), (31, .iload_n 1, 1, 0), (32, .iaload, 1, 0), (33, .iload_n 2, 1, 0), (34, .invokevirtual 79, 3, 19), (37, .ifCond .eq 20, 3, 0), (40, .aload_n 0, 1, 0), (41, .getfield 13, 3, 7), (44, .iload_n 1, 1, 0), (45, .iconst 1, 1, 0), (46, .iastore, 1, 0), (47, .aload_n 0, 1, 0), (48, .getfield 22, 3, 10), (51, .iload_n 1, 1, 0), (52, .iconst 3, 1, 0), (53, .iastore, 1, 0), (54, .goto 26, 3, 0), (57, .aload_n 0, 1, 0), (58, .iload_n 1, 1, 0), (59, .iload_n 2, 1, 0), (60, .invokevirtual 104, 3, 23), (63, .ifCond .eq 17, 3, 0), (66, .aload_n 0, 1, 0), (67, .getfield 13, 3, 7), (70, .iload_n 1, 1, 0), (71, .iconst 3, 1, 0), (72, .iastore, 1, 0), (73, .aload_n 0, 1, 0), (74, .getfield 22, 3, 10), (77, .iload_n 1, 1, 0), (78, .iconst 3, 1, 0), (79, .iastore, 1, 0), (80, .return_, 1, 0)]
def r33 : List Row := [(0, .aload_n 0, 1, 0), (1, .getfield 22, 3, 10), (4, .iload_n 1, 1, 0), (5, .aload_n 0, 1, 0), (6, .getfield 22, 3, 10), (9, .iload_n 1, 1, 0), (10, .iaload, 1, 0), (11, .iconst 1, 1, 0), (12, .isub, 1, 0), (13, .iastore, 1, 0), (14, .aload_n 0, 1, 0), (15, .getfield 22, 3, 10), (18, .iload_n 1, 1, 0), (19, .iaload, 1, 0), (20, .ifCond .le 4, 3, 0), (23, .return_, 1, 0), (24, .aload_n 0, 1, 0), (25, .getfield 16, 3, 8), (28, .iload_n 1, 1, 0), (29, .iaload, 1, 0), (30, .istore_n 2, 1, 0), (31, .aload_n 0, 1, 0), (32, .getfield 7, 3, 6), (35, .iload_n 1, 1, 0), (36, .iaload, 1, 0), (37, .iload_n 2, 1, 0), (38, .iadd, 1, 0), (39, .istore_n 3, 1, 0), (40, .aload_n 0, 1, 0), (41, .getfield 7, 3, 6), (44, .iload_n 1, 1, 0), (45, .iload_n 3, 1, 0), (46, .iastore, 1, 0), (47, .aload_n 0, 1, 0), (48, .iload_n 1, 1, 0), (49, .iload_n 2, 1, 0), (50, .invokevirtual 104, 3, 23), (53, .istore 4, 2, 0), (55, .aload_n 0, 1, 0), (56, .iload_n 1, 1, 0), (57, .iload_n 3, 1, 0), (58, .invokevirtual 94, 3, 21), (61, .ifCond .ne 37, 3, 0), (64, .aload_n 0, 1, 0), (65, .iload_n 1, 1, 0), (66, .invokevirtual 139, 3, 24), (69, .ifCond .eq 13, 3, 0), (72, .aload_n 0, 1, 0), (73, .iload_n 3, 1, 0), (74, .iload_n 2, 1, 0), (75, .iload_n 1, 1, 0), (76, .invokevirtual 97, 3, 20), (79, .ifCond .ne 19, 3, 0), (82, .iload 4, 2, 0), (84, .ifCond .ne 18, 3, 0), (87, .aload_n 0, 1, 0), (88, .iload_n 3, 1, 0), (89, .iload_n 2, 1, 0), (90, .ineg, 1, 0), (91, .iload_n 1, 1, 0), (92, .invokevirtual 97, 3, 20), (95, .ifCond .eq 7, 3, 0), (98, .iconst 1, 1, 0), (99, .goto 4, 3, 0), (102, .iconst 0, 1, 0), (103, .istore 5, 2, 0), (105, .iload 5, 2, 0), (107, .ifCond .eq 20, 3, 0), (110, .aload_n 0, 1, 0), (111, .getfield 13, 3, 7), (114, .iload_n 1, 1, 0), (115, .iconst 1, 1, 0), (116, .iastore, 1, 0), (117, .aload_n 0, 1, 0), (118, .getfield 22, 3, 10), (121, .iload_n 1, 1, 0), (122, .iconst 3, 1, 0), (123, .iastore, 1, 0), (124, .goto 32, 3, 0), (127, .iload 4, 2, 0), (129, .ifCond .eq 13, 3, 0), (132, .aload_n 0, 1, 0), (133, .getfield 22, 3, 10), (136, .iload_n 1, 1, 0), (137, .iconst 2, 1, 0), (138, .iastore, 1, 0), (139, .goto 17, 3, 0), (142, .aload_n 0, 1, 0), (143, .getfield 13, 3, 7), (146, .iload_n 1, 1, 0), (147, .iconst 0, 1, 0), (148, .iastore, 1, 0), (149, .aload_n 0, 1, 0), (150, .getfield 22, 3, 10), (153, .iload_n 1, 1, 0), (154, .iconst 0, 1, 0), (155, .iastore, 1, 0), (156, .return_, 1, 0)]
def r34 : List Row := [(0, .aload_n 0, 1, 0), (1, .iload_n 1, 1, 0), (2, .invokevirtual 143, 3, 35), (5, .istore_n 2, 1, 0), (6, .aload_n 0, 1, 0), (7, .iload_n 1, 1, 0), (8, .invokevirtual 136, 3, 25), (11, .istore_n 3, 1, 0), (12, .aload_n 0, 1, 0), (13, .getfield 16, 3, 8), (16, .iload_n 1, 1, 0), (17, .iload_n 3, 1, 0), (18, .iastore, 1, 0), (19, .iload_n 3, 1, 0), (20, .ifCond .eq 26, 3, 0), (23, .aload_n 0, 1, 0), (24, .iload_n 1, 1, 0), (25, .iload_n 3, 1, 0), (26, .invokevirtual 146, 3, 36), (29, .istore 4, 2, 0), (31, .iload_n 2, 1, 0), (32, .ifCond .ne 8, 3, 0), (35, .iload 4, 2, 0), (37, .ifCond .eq 7, 3, 0), (40, .iconst 1, 1, 0), (41, .goto 4, 3, 0), (44, .iconst 0, 1, 0), (45, .istore_n 2, 1, 0), (46, .iload_n 2, 1, 0), (47, .ifCond .eq 13, 3, 0), (50, .aload_n 0, 1, 0), (51, .getfield 22, 3, 10), (54, .iload_n 1, 1, 0), (55, .iconst 3, 1, 0), (56, .iastore, 1, 0), (57, .goto 33, 3, 0), (60, .aload_n 0, 1, 0), (61, .getfield 22, 3, 10), (64, .iload_n 1, 1, 0), (65, .aload_n 0, 1, 0), (66, .getfield 22, 3, 10), (69, .iload_n 1, 1, 0), (70, .iaload, 1, 0), (71, .iconst 1, 1, 0), (72, .isub, 1, 0), (73, .iastore, 1, 0), (74, .aload_n 0, 1, 0), (75, .getfield 22, 3, 10), (78, .iload_n 1, 1, 0), (79, .iaload, 1, 0), (80, .ifCond .ne 10, 3, 0), (83, .aload_n 0, 1, 0), (84, .getfield 13, 3, 7), (87, .iload_n 1, 1, 0), (88, .iconst 2, 1, 0), (89, .iastore, 1, 0), (90, .return_, 1, 0)]
def r35 : List Row := [(0, .aload_n 0, 1, 0), (1, .getfield 7, 3, 6), (4, .iload_n 1, 1, 0), (5, .iaload, 1, 0), (6, .istore_n 2, 1, 0), (7, .iconst 0, 1, 0), (8, .istore_n 3, 1, 0), (9, .iconst 0, 1, 0), (10, .istore 4, 2, 0), (12, .iload 4, 2, 0), (14, .aload_n 0, 1, 0), (15, .getfield 63, 3, 4), (18, .if_icmp .ge 87, 3, 0), (21, .aload_n 0, 1, 0), (22, .getfield 25, 3, 11), (25, .iload 4, 2, 0), (27, .iaload, 1, 0), (28, .iconst 2, 1, 0), (29, .if_icmp .ne 70, 3, 0), (32, .aload_n 0, 1, 0), (33, .getfield 43, 3, 17), (36, .iload 4, 2, 0), (38, .iaload, 1, 0), (39, .iload_n 1, 1, 0), (40, .if_icmp .ne 59, 3, 0), (43, .aload_n 0, 1, 0), (44, .getfield 31, 3, 13), (47, .iload 4, 2, 0), (49, .iaload, 1, 0), (50, .iload_n 2, 1, 0), (51, .if_icmp .ne 48, 3, 0), (54, .aload_n 0, 1, 0), (55, .getfield 25, 3, 11), (58, .iload 4, 2, 0), (60, .iconst 3, 1, 0), (61, .iastore, 1, 0), (62, .aload_n 0, 1, 0), (63, .getfield 40, 3, 16), (66, .iload 4, 2, 0), (68, .aload_n 0, 1, 0), (69, .getfield 66, 3, 3), (72, .iastore, 1, 0), (73, .aload_n 0, 1, 0), (74, .getfield 19, 3, 9), (77, .iload_n 1, 1, 0), (78, .aload_n 0, 1, 0), (79, .getfield 19, 3, 9), (82, .iload_n 1, 1, 0), (83, .iaload, 1, 0), (84, .iconst 1, 1, 0), (85, .isub, 1, 0), (86, .iastore, 1, 0), (87, .aload_n 0, 1, 0), (88, .dup, 1, 0), (89, .getfield 73, 3, 5), (92, .iconst 1, 1, 0), (93, .iadd, 1, 0), (94, .putfield 73, 3, 5), (97, .iconst 1, 1, 0), (98, .istore_n 3, 1, 0), (99, .iinc 4 1, 3, 0), (102, .goto (-90), 3, 0), (105, .iload_n 3, 1, 0), (106, .ireturn, 1, 0)]
def r36 : List Row := [(0, .aload_n 0, 1, 0), (1, .getfield 7, 3, 6), (4, .iload_n 1, 1, 0), (5, .iaload, 1, 0), (6, .istore_n 3, 1, 0), (7, .iconst 0, 1, 0), (8, .istore 4, 2, 0), (10, .iconst 0, 1, 0), (11, .istore 5, 2, 0), (13, .iload 5, 2, 0), (15, .aload_n 0, 1, 0), (16, .getfield 63, 3, 4), (19, .if_icmp .ge 96, 3, 0), (22, .aload_n 0, 1, 0), (23, .iload_n 1, 1, 0), (24, .invokevirtual 139, 3, 24), (27, .ifCond .ne 6, 3, 0), (30, .goto 85, 3, 0), (33, .aload_n 0, 1, 0), (34, .getfield 25, 3, 11), (37, .iload 5, 2, 0), (39, .iaload, 1, 0), (40, .iconst 1, 1, 0), (41, .if_icmp .ne 68, 3, 0), (44, .aload_n 0, 1, 0), (45, .getfield 28, 3, 12), (48, .iload 5, 2, 0), (50, .iaload, 1, 0), (51, .iload_n 3, 1, 0), (52, .if_icmp .ne 57, 3, 0), (55, .aload_n 0, 1, 0), (56, .iload 5, 2, 0), (58, .invokevirtual 91, 3, 17), (61, .iload_n 2, 1, 0), (62, .if_icmp .ne 47, 3, 0), (65, .aload_n 0, 1, 0), (66, .getfield 25, 3, 11), (69, .iload 5, 2, 0), (71, .iconst 2, 1, 0), (72, .iastore, 1, 0), (73, .aload_n 0, 1, 0), (74, .getfield 37, 3, 15), (77, .iload 5, 2, 0), (79, .aload_n 0, 1, 0), (80, .getfield 66, 3, 3), (83, .iastore, 1, 0), (84, .aload_n 0, 1, 0), (85, .getfield 43, 3, 17), (88, .iload 5, 2, 0), (90, .iload_n 1, 1, 0), (91, .iastore, 1, 0), (92, .aload_n 0, 1, 0), (93, .getfield 19, 3, 9), (96, .iload_n 1, 1, 0), (97, .aload_n 0, 1, 0), (98, .getfield 19, 3, 9), (101, .iload_n 1, 1, 0), (102, .iaload, 1, 0), (103, .iconst 1, 1, 0), (104, .iadd, 1, 0), (105, .iastore, 1, 0), (106, .iconst 1, 1, 0), (107, .istore 4, 2, 0), (109, .iinc 5 1, 3, 0), (112, .goto (-99), 3, 0), (115, .iload 4, 2, 0), (117, .ireturn, 1, 0)]
def r37 : List Row := [(0, .aload_n 0, 1, 0), (1, .iload_n 1, 1, 0), (2, .invokevirtual 136, 3, 25), (5, .istore_n 2, 1, 0), (6, .aload_n 0, 1, 0), (7, .getfield 16, 3, 8), (10, .iload_n 1, 1, 0), (11, .iload_n 2, 1, 0), (12, .iastore, 1, 0), (13, .iload_n 2, 1, 0), (14, .ifCond .eq 42, 3, 0), (17, .aload_n 0, 1, 0), (18, .iload_n 1, 1, 0), (19, .invokevirtual 139, 3, 24), (22, .ifCond .eq 34, 3, 0), (25, .aload_n 0, 1, 0), (26, .aload_n 0, 1, 0), (27, .getfield 7, 3, 6), (30, .iload_n 1, 1, 0), (31, .iaload, 1, 0), (32, .iload_n 2, 1, 0), (33, .invokevirtual 79, 3, 19), (36, .ifCond .eq 20, 3, 0), (39, .aload_n 0, 1, 0), (40, .getfield 13, 3, 7), (43, .iload_n 1, 1, 0), (44, .iconst 1, 1, 0), (45, .iastore, 1, 0), (46, .aload_n 0, 1, 0), (47, .getfield 22, 3, 10), (50, .iload_n 1, 1, 0), (51, .iconst 3, 1, 0), (52, .iastore, 1, 0), (53, .goto 17, 3, 0), (56, .aload_n 0, 1, 0), (57, .getfield 13, 3, 7), (60, .iload_n 1, 1, 0), (61, .iconst 0, 1, 0), (62, .iastore, 1, 0), (63, .aload_n 0, 1, 0), (64, .getfield 22, 3, 10), (67, .iload_n 1, 1, 0), (68, .iconst 0, 1, 0), (69, .iastore, 1, 0), (70, .return_, 1, 0)]
def prows : List (List Row) := [[], r1, r2, r3, r4, r5, r6, r7, r8, r9, r10, r11, r12, r13, r14, r15, r16, r17, r18, r19, r20, r21, r22, r23, r24, r25, r26, r27, r28, r29, r30, r31, r32, r33, r34, r35, r36, r37]
def pinfo : List MInfo := [(0, 0, 9, none, {}), (4, 5, 3, none, { frames := 1, cells := 13, slots := 276, locals := 16 }), (4, 5, 1, some .int, { frames := 0, cells := 0, slots := 0, locals := 0 }), (4, 15, 1, some .int, { frames := 1, cells := 0, slots := 0, locals := 16 }), (2, 4, 1, some .int, { frames := 9, cells := 0, slots := 0, locals := 132 }), (1, 1, 1, some .int, { frames := 0, cells := 0, slots := 0, locals := 0 }), (1, 1, 1, some .int, { frames := 0, cells := 0, slots := 0, locals := 0 }), (1, 3, 1, some .int, { frames := 0, cells := 0, slots := 0, locals := 0 }), (3, 3, 1, some .int, { frames := 0, cells := 0, slots := 0, locals := 0 }), (3, 3, 1, some .int, { frames := 0, cells := 0, slots := 0, locals := 0 }), (3, 3, 1, some .int, { frames := 2, cells := 0, slots := 0, locals := 28 }), (2, 4, 1, some .int, { frames := 0, cells := 0, slots := 0, locals := 0 }), (1, 3, 1, some .int, { frames := 0, cells := 0, slots := 0, locals := 0 }), (1, 3, 1, some .int, { frames := 0, cells := 0, slots := 0, locals := 0 }), (3, 7, 1, some .int, { frames := 1, cells := 0, slots := 0, locals := 13 }), (4, 4, 2, some .int, { frames := 0, cells := 0, slots := 0, locals := 0 }), (2, 2, 2, some .int, { frames := 0, cells := 0, slots := 0, locals := 0 }), (2, 2, 2, some .int, { frames := 0, cells := 0, slots := 0, locals := 0 }), (3, 3, 2, some .int, { frames := 0, cells := 0, slots := 0, locals := 0 }), (3, 4, 2, some .boolean, { frames := 1, cells := 0, slots := 0, locals := 13 }), (4, 4, 2, some .boolean, { frames := 2, cells := 0, slots := 0, locals := 28 }), (3, 4, 2, some .boolean, { frames := 0, cells := 0, slots := 0, locals := 0 }), (3, 3, 2, some .boolean, { frames := 3, cells := 0, slots := 0, locals := 43 }), (3, 6, 2, some .boolean, { frames := 4, cells := 0, slots := 0, locals := 57 }), (2, 2, 2, some .boolean, { frames := 0, cells := 0, slots := 0, locals := 0 }), (2, 4, 2, some .int, { frames := 5, cells := 0, slots := 0, locals := 74 }), (1, 2, 2, none, { frames := 8, cells := 0, slots := 0, locals := 119 }), (1, 2, 2, none, { frames := 0, cells := 0, slots := 0, locals := 0 }), (1, 4, 2, none, { frames := 3, cells := 0, slots := 0, locals := 47 }), (3, 8, 2, none, { frames := 2, cells := 0, slots := 0, locals := 28 }), (4, 10, 2, some .int, { frames := 0, cells := 0, slots := 0, locals := 0 }), (2, 3, 2, none, { frames := 7, cells := 0, slots := 0, locals := 105 }), (2, 3, 2, none, { frames := 6, cells := 0, slots := 0, locals := 89 }), (2, 6, 2, none, { frames := 5, cells := 0, slots := 0, locals := 74 }), (2, 5, 2, none, { frames := 6, cells := 0, slots := 0, locals := 89 }), (2, 5, 2, some .boolean, { frames := 0, cells := 0, slots := 0, locals := 0 }), (3, 6, 2, some .boolean, { frames := 1, cells := 0, slots := 0, locals := 13 }), (2, 3, 2, none, { frames := 6, cells := 0, slots := 0, locals := 89 })]
def pft : List FieldType := [.int, .int, .int, .int, .int, .int, .array .int, .array .int, .array .int, .array .int, .array .int, .array .int, .array .int, .array .int, .array .int, .array .int, .array .int, .array .int, .array .int]
def pj (lw : LW) : Prog := (fun m pc => if m < 100 then (prows.getD m []).lookup pc else lw.1 (m - 100) pc, fun m => if m < 100 then pinfo.getD m (0, 0, 9, none, {}) else lw.2 (m - 100), fun k => pft.getD k .int, 19)
def lay : Lay := ([(.int, 0), (.int, 0), (.int, 0), (.int, 0), (.int, 0), (.int, 0), (.array .int, 1), (.array .int, 2), (.array .int, 3), (.array .int, 4), (.array .int, 5), (.array .int, 6), (.array .int, 7), (.array .int, 8), (.array .int, 9), (.array .int, 10), (.array .int, 11), (.array .int, 12), (.array .int, 13)], [(.int, 4), (.int, 4), (.int, 4), (.int, 4), (.int, 4), (.int, 32), (.int, 32), (.int, 32), (.int, 32), (.int, 32), (.int, 32), (.int, 32), (.int, 32)])
abbrev ob (H : AH) (p : Nat) (s : St) : AH := put lay 13 H p s
section Acc
variable {H : AH} {p : Nat} {s : St} {i : Int32} {j q : Nat} {v : Int32} {w : Int64}
theorem g0 : fld (put lay j H p s) p 0 = .int (sI s 0) := fld_I (ty := .int) rfl (by decide) (by simp)
theorem s0 : wr (put lay j H p s) p 0 (.int v) = put lay j H p (uI s 0 v) := wr_I (ty := .int) rfl (by decide) (by simp)
theorem g1 : fld (put lay j H p s) p 1 = .int (sI s 1) := fld_I (ty := .int) rfl (by decide) (by simp)
theorem s1 : wr (put lay j H p s) p 1 (.int v) = put lay j H p (uI s 1 v) := wr_I (ty := .int) rfl (by decide) (by simp)
theorem g2 : fld (put lay j H p s) p 2 = .int (sI s 2) := fld_I (ty := .int) rfl (by decide) (by simp)
theorem s2 : wr (put lay j H p s) p 2 (.int v) = put lay j H p (uI s 2 v) := wr_I (ty := .int) rfl (by decide) (by simp)
theorem g3 : fld (put lay j H p s) p 3 = .int (sI s 3) := fld_I (ty := .int) rfl (by decide) (by simp)
theorem s3 : wr (put lay j H p s) p 3 (.int v) = put lay j H p (uI s 3 v) := wr_I (ty := .int) rfl (by decide) (by simp)
theorem g4 : fld (put lay j H p s) p 4 = .int (sI s 4) := fld_I (ty := .int) rfl (by decide) (by simp)
theorem s4 : wr (put lay j H p s) p 4 (.int v) = put lay j H p (uI s 4 v) := wr_I (ty := .int) rfl (by decide) (by simp)
theorem g5 : fld (put lay j H p s) p 5 = .int (sI s 5) := fld_I (ty := .int) rfl (by decide) (by simp)
theorem s5 : wr (put lay j H p s) p 5 (.int v) = put lay j H p (uI s 5 v) := wr_I (ty := .int) rfl (by decide) (by simp)
theorem g6 : fld (ob H p s) p 6 = .ref (p + 1) := fld_R (ty := .int) rfl (by decide)
theorem g7 : fld (ob H p s) p 7 = .ref (p + 2) := fld_R (ty := .int) rfl (by decide)
theorem g8 : fld (ob H p s) p 8 = .ref (p + 3) := fld_R (ty := .int) rfl (by decide)
theorem g9 : fld (ob H p s) p 9 = .ref (p + 4) := fld_R (ty := .int) rfl (by decide)
theorem g10 : fld (ob H p s) p 10 = .ref (p + 5) := fld_R (ty := .int) rfl (by decide)
theorem g11 : fld (ob H p s) p 11 = .ref (p + 6) := fld_R (ty := .int) rfl (by decide)
theorem g12 : fld (ob H p s) p 12 = .ref (p + 7) := fld_R (ty := .int) rfl (by decide)
theorem g13 : fld (ob H p s) p 13 = .ref (p + 8) := fld_R (ty := .int) rfl (by decide)
theorem g14 : fld (ob H p s) p 14 = .ref (p + 9) := fld_R (ty := .int) rfl (by decide)
theorem g15 : fld (ob H p s) p 15 = .ref (p + 10) := fld_R (ty := .int) rfl (by decide)
theorem g16 : fld (ob H p s) p 16 = .ref (p + 11) := fld_R (ty := .int) rfl (by decide)
theorem g17 : fld (ob H p s) p 17 = .ref (p + 12) := fld_R (ty := .int) rfl (by decide)
theorem g18 : fld (ob H p s) p 18 = .ref (p + 13) := fld_R (ty := .int) rfl (by decide)
theorem ai1 : inA (ob H p s) (p + 1) .int i = true ↔ (0 ≤ i.toInt ∧ i.toInt < 4) := inA_I (t := 0) rfl (by decide) (by decide)
theorem aw1 : inAw (ob H p s) (p + 1) .int i = true ↔ (0 ≤ i.toInt ∧ i.toInt < 4) := inAw_I (t := 0) rfl (by decide) (by decide)
theorem ae1 : elt (ob H p s) (p + 1) i = .int (sA s 1 i.toNatClampNeg) := elt_I (t := 0) (ty := .int) rfl (by decide) (by decide)
theorem as1 : wr (ob H p s) (p + 1) q (.int v) = ob H p (uA s 1 q v) := wr_A (t := 0) (ty := .int) rfl (by decide) (by decide)
theorem ai2 : inA (ob H p s) (p + 2) .int i = true ↔ (0 ≤ i.toInt ∧ i.toInt < 4) := inA_I (t := 1) rfl (by decide) (by decide)
theorem aw2 : inAw (ob H p s) (p + 2) .int i = true ↔ (0 ≤ i.toInt ∧ i.toInt < 4) := inAw_I (t := 1) rfl (by decide) (by decide)
theorem ae2 : elt (ob H p s) (p + 2) i = .int (sA s 2 i.toNatClampNeg) := elt_I (t := 1) (ty := .int) rfl (by decide) (by decide)
theorem as2 : wr (ob H p s) (p + 2) q (.int v) = ob H p (uA s 2 q v) := wr_A (t := 1) (ty := .int) rfl (by decide) (by decide)
theorem ai3 : inA (ob H p s) (p + 3) .int i = true ↔ (0 ≤ i.toInt ∧ i.toInt < 4) := inA_I (t := 2) rfl (by decide) (by decide)
theorem aw3 : inAw (ob H p s) (p + 3) .int i = true ↔ (0 ≤ i.toInt ∧ i.toInt < 4) := inAw_I (t := 2) rfl (by decide) (by decide)
theorem ae3 : elt (ob H p s) (p + 3) i = .int (sA s 3 i.toNatClampNeg) := elt_I (t := 2) (ty := .int) rfl (by decide) (by decide)
theorem as3 : wr (ob H p s) (p + 3) q (.int v) = ob H p (uA s 3 q v) := wr_A (t := 2) (ty := .int) rfl (by decide) (by decide)
theorem ai4 : inA (ob H p s) (p + 4) .int i = true ↔ (0 ≤ i.toInt ∧ i.toInt < 4) := inA_I (t := 3) rfl (by decide) (by decide)
theorem aw4 : inAw (ob H p s) (p + 4) .int i = true ↔ (0 ≤ i.toInt ∧ i.toInt < 4) := inAw_I (t := 3) rfl (by decide) (by decide)
theorem ae4 : elt (ob H p s) (p + 4) i = .int (sA s 4 i.toNatClampNeg) := elt_I (t := 3) (ty := .int) rfl (by decide) (by decide)
theorem as4 : wr (ob H p s) (p + 4) q (.int v) = ob H p (uA s 4 q v) := wr_A (t := 3) (ty := .int) rfl (by decide) (by decide)
theorem ai5 : inA (ob H p s) (p + 5) .int i = true ↔ (0 ≤ i.toInt ∧ i.toInt < 4) := inA_I (t := 4) rfl (by decide) (by decide)
theorem aw5 : inAw (ob H p s) (p + 5) .int i = true ↔ (0 ≤ i.toInt ∧ i.toInt < 4) := inAw_I (t := 4) rfl (by decide) (by decide)
theorem ae5 : elt (ob H p s) (p + 5) i = .int (sA s 5 i.toNatClampNeg) := elt_I (t := 4) (ty := .int) rfl (by decide) (by decide)
theorem as5 : wr (ob H p s) (p + 5) q (.int v) = ob H p (uA s 5 q v) := wr_A (t := 4) (ty := .int) rfl (by decide) (by decide)
theorem ai6 : inA (ob H p s) (p + 6) .int i = true ↔ (0 ≤ i.toInt ∧ i.toInt < 32) := inA_I (t := 5) rfl (by decide) (by decide)
theorem aw6 : inAw (ob H p s) (p + 6) .int i = true ↔ (0 ≤ i.toInt ∧ i.toInt < 32) := inAw_I (t := 5) rfl (by decide) (by decide)
theorem ae6 : elt (ob H p s) (p + 6) i = .int (sA s 6 i.toNatClampNeg) := elt_I (t := 5) (ty := .int) rfl (by decide) (by decide)
theorem as6 : wr (ob H p s) (p + 6) q (.int v) = ob H p (uA s 6 q v) := wr_A (t := 5) (ty := .int) rfl (by decide) (by decide)
theorem ai7 : inA (ob H p s) (p + 7) .int i = true ↔ (0 ≤ i.toInt ∧ i.toInt < 32) := inA_I (t := 6) rfl (by decide) (by decide)
theorem aw7 : inAw (ob H p s) (p + 7) .int i = true ↔ (0 ≤ i.toInt ∧ i.toInt < 32) := inAw_I (t := 6) rfl (by decide) (by decide)
theorem ae7 : elt (ob H p s) (p + 7) i = .int (sA s 7 i.toNatClampNeg) := elt_I (t := 6) (ty := .int) rfl (by decide) (by decide)
theorem as7 : wr (ob H p s) (p + 7) q (.int v) = ob H p (uA s 7 q v) := wr_A (t := 6) (ty := .int) rfl (by decide) (by decide)
theorem ai8 : inA (ob H p s) (p + 8) .int i = true ↔ (0 ≤ i.toInt ∧ i.toInt < 32) := inA_I (t := 7) rfl (by decide) (by decide)
theorem aw8 : inAw (ob H p s) (p + 8) .int i = true ↔ (0 ≤ i.toInt ∧ i.toInt < 32) := inAw_I (t := 7) rfl (by decide) (by decide)
theorem ae8 : elt (ob H p s) (p + 8) i = .int (sA s 8 i.toNatClampNeg) := elt_I (t := 7) (ty := .int) rfl (by decide) (by decide)
theorem as8 : wr (ob H p s) (p + 8) q (.int v) = ob H p (uA s 8 q v) := wr_A (t := 7) (ty := .int) rfl (by decide) (by decide)
theorem ai9 : inA (ob H p s) (p + 9) .int i = true ↔ (0 ≤ i.toInt ∧ i.toInt < 32) := inA_I (t := 8) rfl (by decide) (by decide)
theorem aw9 : inAw (ob H p s) (p + 9) .int i = true ↔ (0 ≤ i.toInt ∧ i.toInt < 32) := inAw_I (t := 8) rfl (by decide) (by decide)
theorem ae9 : elt (ob H p s) (p + 9) i = .int (sA s 9 i.toNatClampNeg) := elt_I (t := 8) (ty := .int) rfl (by decide) (by decide)
theorem as9 : wr (ob H p s) (p + 9) q (.int v) = ob H p (uA s 9 q v) := wr_A (t := 8) (ty := .int) rfl (by decide) (by decide)
theorem ai10 : inA (ob H p s) (p + 10) .int i = true ↔ (0 ≤ i.toInt ∧ i.toInt < 32) := inA_I (t := 9) rfl (by decide) (by decide)
theorem aw10 : inAw (ob H p s) (p + 10) .int i = true ↔ (0 ≤ i.toInt ∧ i.toInt < 32) := inAw_I (t := 9) rfl (by decide) (by decide)
theorem ae10 : elt (ob H p s) (p + 10) i = .int (sA s 10 i.toNatClampNeg) := elt_I (t := 9) (ty := .int) rfl (by decide) (by decide)
theorem as10 : wr (ob H p s) (p + 10) q (.int v) = ob H p (uA s 10 q v) := wr_A (t := 9) (ty := .int) rfl (by decide) (by decide)
theorem ai11 : inA (ob H p s) (p + 11) .int i = true ↔ (0 ≤ i.toInt ∧ i.toInt < 32) := inA_I (t := 10) rfl (by decide) (by decide)
theorem aw11 : inAw (ob H p s) (p + 11) .int i = true ↔ (0 ≤ i.toInt ∧ i.toInt < 32) := inAw_I (t := 10) rfl (by decide) (by decide)
theorem ae11 : elt (ob H p s) (p + 11) i = .int (sA s 11 i.toNatClampNeg) := elt_I (t := 10) (ty := .int) rfl (by decide) (by decide)
theorem as11 : wr (ob H p s) (p + 11) q (.int v) = ob H p (uA s 11 q v) := wr_A (t := 10) (ty := .int) rfl (by decide) (by decide)
theorem ai12 : inA (ob H p s) (p + 12) .int i = true ↔ (0 ≤ i.toInt ∧ i.toInt < 32) := inA_I (t := 11) rfl (by decide) (by decide)
theorem aw12 : inAw (ob H p s) (p + 12) .int i = true ↔ (0 ≤ i.toInt ∧ i.toInt < 32) := inAw_I (t := 11) rfl (by decide) (by decide)
theorem ae12 : elt (ob H p s) (p + 12) i = .int (sA s 12 i.toNatClampNeg) := elt_I (t := 11) (ty := .int) rfl (by decide) (by decide)
theorem as12 : wr (ob H p s) (p + 12) q (.int v) = ob H p (uA s 12 q v) := wr_A (t := 11) (ty := .int) rfl (by decide) (by decide)
theorem ai13 : inA (ob H p s) (p + 13) .int i = true ↔ (0 ≤ i.toInt ∧ i.toInt < 32) := inA_I (t := 12) rfl (by decide) (by decide)
theorem aw13 : inAw (ob H p s) (p + 13) .int i = true ↔ (0 ≤ i.toInt ∧ i.toInt < 32) := inAw_I (t := 12) rfl (by decide) (by decide)
theorem ae13 : elt (ob H p s) (p + 13) i = .int (sA s 13 i.toNatClampNeg) := elt_I (t := 12) (ty := .int) rfl (by decide) (by decide)
theorem as13 : wr (ob H p s) (p + 13) q (.int v) = ob H p (uA s 13 q v) := wr_A (t := 12) (ty := .int) rfl (by decide) (by decide)
theorem mkO_ob {lw : LW} : mkO (pj lw) H = put lay 0 (H.1 + 1, H.2) H.1 z0 := mkO_put rfl (fun k => match k with | 0 => rfl | 1 => rfl | 2 => rfl | 3 => rfl | 4 => rfl | 5 => rfl | 6 => rfl | 7 => rfl | 8 => rfl | 9 => rfl | 10 => rfl | 11 => rfl | 12 => rfl | 13 => rfl | 14 => rfl | 15 => rfl | 16 => rfl | 17 => rfl | 18 => rfl | (_ + 19) => rfl)
theorem mk1 {h : Nat → Cel} (hz : zr s 1) : wr (mkA .int 4 (put lay 0 (p + 1, h) p s)) p 6 (.ref (p + 1)) = put lay 1 (p + 2, h) p s := mkA_put (j := 0) rfl rfl (by decide) hz.1 hz.2 (Or.inl rfl)
theorem io1 {h : Nat → Cel} : isOw (mkA .int 4 (put lay 0 (p + 1, h) p s)) p = true := isOw_mk (c := 0)
theorem mk2 {h : Nat → Cel} (hz : zr s 2) : wr (mkA .int 4 (put lay 1 (p + 2, h) p s)) p 7 (.ref (p + 2)) = put lay 2 (p + 3, h) p s := mkA_put (j := 1) rfl rfl (by decide) hz.1 hz.2 (Or.inl rfl)
theorem io2 {h : Nat → Cel} : isOw (mkA .int 4 (put lay 1 (p + 2, h) p s)) p = true := isOw_mk (c := 1)
theorem mk3 {h : Nat → Cel} (hz : zr s 3) : wr (mkA .int 4 (put lay 2 (p + 3, h) p s)) p 8 (.ref (p + 3)) = put lay 3 (p + 4, h) p s := mkA_put (j := 2) rfl rfl (by decide) hz.1 hz.2 (Or.inl rfl)
theorem io3 {h : Nat → Cel} : isOw (mkA .int 4 (put lay 2 (p + 3, h) p s)) p = true := isOw_mk (c := 2)
theorem mk4 {h : Nat → Cel} (hz : zr s 4) : wr (mkA .int 4 (put lay 3 (p + 4, h) p s)) p 9 (.ref (p + 4)) = put lay 4 (p + 5, h) p s := mkA_put (j := 3) rfl rfl (by decide) hz.1 hz.2 (Or.inl rfl)
theorem io4 {h : Nat → Cel} : isOw (mkA .int 4 (put lay 3 (p + 4, h) p s)) p = true := isOw_mk (c := 3)
theorem mk5 {h : Nat → Cel} (hz : zr s 5) : wr (mkA .int 4 (put lay 4 (p + 5, h) p s)) p 10 (.ref (p + 5)) = put lay 5 (p + 6, h) p s := mkA_put (j := 4) rfl rfl (by decide) hz.1 hz.2 (Or.inl rfl)
theorem io5 {h : Nat → Cel} : isOw (mkA .int 4 (put lay 4 (p + 5, h) p s)) p = true := isOw_mk (c := 4)
theorem mk6 {h : Nat → Cel} (hz : zr s 6) : wr (mkA .int 32 (put lay 5 (p + 6, h) p s)) p 11 (.ref (p + 6)) = put lay 6 (p + 7, h) p s := mkA_put (j := 5) rfl rfl (by decide) hz.1 hz.2 (Or.inl rfl)
theorem io6 {h : Nat → Cel} : isOw (mkA .int 32 (put lay 5 (p + 6, h) p s)) p = true := isOw_mk (c := 5)
theorem mk7 {h : Nat → Cel} (hz : zr s 7) : wr (mkA .int 32 (put lay 6 (p + 7, h) p s)) p 12 (.ref (p + 7)) = put lay 7 (p + 8, h) p s := mkA_put (j := 6) rfl rfl (by decide) hz.1 hz.2 (Or.inl rfl)
theorem io7 {h : Nat → Cel} : isOw (mkA .int 32 (put lay 6 (p + 7, h) p s)) p = true := isOw_mk (c := 6)
theorem mk8 {h : Nat → Cel} (hz : zr s 8) : wr (mkA .int 32 (put lay 7 (p + 8, h) p s)) p 13 (.ref (p + 8)) = put lay 8 (p + 9, h) p s := mkA_put (j := 7) rfl rfl (by decide) hz.1 hz.2 (Or.inl rfl)
theorem io8 {h : Nat → Cel} : isOw (mkA .int 32 (put lay 7 (p + 8, h) p s)) p = true := isOw_mk (c := 7)
theorem mk9 {h : Nat → Cel} (hz : zr s 9) : wr (mkA .int 32 (put lay 8 (p + 9, h) p s)) p 14 (.ref (p + 9)) = put lay 9 (p + 10, h) p s := mkA_put (j := 8) rfl rfl (by decide) hz.1 hz.2 (Or.inl rfl)
theorem io9 {h : Nat → Cel} : isOw (mkA .int 32 (put lay 8 (p + 9, h) p s)) p = true := isOw_mk (c := 8)
theorem mk10 {h : Nat → Cel} (hz : zr s 10) : wr (mkA .int 32 (put lay 9 (p + 10, h) p s)) p 15 (.ref (p + 10)) = put lay 10 (p + 11, h) p s := mkA_put (j := 9) rfl rfl (by decide) hz.1 hz.2 (Or.inl rfl)
theorem io10 {h : Nat → Cel} : isOw (mkA .int 32 (put lay 9 (p + 10, h) p s)) p = true := isOw_mk (c := 9)
theorem mk11 {h : Nat → Cel} (hz : zr s 11) : wr (mkA .int 32 (put lay 10 (p + 11, h) p s)) p 16 (.ref (p + 11)) = put lay 11 (p + 12, h) p s := mkA_put (j := 10) rfl rfl (by decide) hz.1 hz.2 (Or.inl rfl)
theorem io11 {h : Nat → Cel} : isOw (mkA .int 32 (put lay 10 (p + 11, h) p s)) p = true := isOw_mk (c := 10)
theorem mk12 {h : Nat → Cel} (hz : zr s 12) : wr (mkA .int 32 (put lay 11 (p + 12, h) p s)) p 17 (.ref (p + 12)) = put lay 12 (p + 13, h) p s := mkA_put (j := 11) rfl rfl (by decide) hz.1 hz.2 (Or.inl rfl)
theorem io12 {h : Nat → Cel} : isOw (mkA .int 32 (put lay 11 (p + 12, h) p s)) p = true := isOw_mk (c := 11)
theorem mk13 {h : Nat → Cel} (hz : zr s 13) : wr (mkA .int 32 (put lay 12 (p + 13, h) p s)) p 18 (.ref (p + 13)) = put lay 13 (p + 14, h) p s := mkA_put (j := 12) rfl rfl (by decide) hz.1 hz.2 (Or.inl rfl)
theorem io13 {h : Nat → Cel} : isOw (mkA .int 32 (put lay 12 (p + 13, h) p s)) p = true := isOw_mk (c := 12)
end Acc
section Pc
variable {lw : LW} {L : List Slot} {S : List Value} {k n : Nat} {H : AH} {Q : Option Value → AH → Prop}
theorem c1 {x0 : Nat} {x1 : Int32} {x2 : Int32} {x3 : Int32} : Cl (pj lw) 1 [.ref x0, .int x1, .int x2, .int x3] H Q ↔ W (pj lw) 1 0 [.val (.ref x0), .val (.int x1), .val (.int x2), .val (.int x3), .unset] [] 0 0 H Q := cl_unf rfl
theorem w1_0 {x : Nat} : W (pj lw) 1 0 (.val (.ref x) :: L) S k n H Q ↔ W (pj lw) 1 1 (.val (.ref x) :: L) (.ref x :: S) k n H Q := W_s (rfl : (pj lw).1 1 0 = some (.aload_n 0, 1, 0)) rfl rfl rfl
theorem w1_1 {a : Nat} : W (pj lw) 1 1 L (.ref a :: S) k n H Q ↔ ((1 ≤ 1 ∧ cs S + 12 ≤ 16) ∧ W (pj lw) 1 4 L S k n H Q) := W_oinit (rfl : (pj lw).1 1 1 = some (.invokespecial 1, 3, (-1)))
theorem w1_4 {x : Nat} : W (pj lw) 1 4 (.val (.ref x) :: L) S k n H Q ↔ W (pj lw) 1 5 (.val (.ref x) :: L) (.ref x :: S) k n H Q := W_s (rfl : (pj lw).1 1 4 = some (.aload_n 0, 1, 0)) rfl rfl rfl
theorem w1_5 : W (pj lw) 1 5 L S k n H Q ↔ W (pj lw) 1 6 L (.int 4 :: S) k n H Q := W_s (rfl : (pj lw).1 1 5 = some (.iconst 4, 1, 0)) rfl rfl rfl
theorem w1_6 : W (pj lw) 1 6 L (.int 4 :: S) k n H Q ↔ ((k + 1 ≤ 13 ∧ n + 4 ≤ 276) ∧ W (pj lw) 1 8 L (.ref H.1 :: S) (k + 1) (n + 4) (mkA .int 4 H) Q) := W_newarr' (rfl : (pj lw).1 1 6 = some (.newarray .int, 2, 0)) rfl (by decide) (by decide)
theorem w1_8 {a : Nat} {v : Value} : W (pj lw) 1 8 L (v :: .ref a :: S) k n H Q ↔ ((isOw H a = true ∧ okv (.array .int) v = true) ∧ W (pj lw) 1 11 L S k n (wr H a 6 v) Q) := W_putf (rfl : (pj lw).1 1 8 = some (.putfield 7, 3, 6))
theorem w1_11 {x : Nat} : W (pj lw) 1 11 (.val (.ref x) :: L) S k n H Q ↔ W (pj lw) 1 12 (.val (.ref x) :: L) (.ref x :: S) k n H Q := W_s (rfl : (pj lw).1 1 11 = some (.aload_n 0, 1, 0)) rfl rfl rfl
theorem w1_12 : W (pj lw) 1 12 L S k n H Q ↔ W (pj lw) 1 13 L (.int 4 :: S) k n H Q := W_s (rfl : (pj lw).1 1 12 = some (.iconst 4, 1, 0)) rfl rfl rfl
theorem w1_13 : W (pj lw) 1 13 L (.int 4 :: S) k n H Q ↔ ((k + 1 ≤ 13 ∧ n + 4 ≤ 276) ∧ W (pj lw) 1 15 L (.ref H.1 :: S) (k + 1) (n + 4) (mkA .int 4 H) Q) := W_newarr' (rfl : (pj lw).1 1 13 = some (.newarray .int, 2, 0)) rfl (by decide) (by decide)
theorem w1_15 {a : Nat} {v : Value} : W (pj lw) 1 15 L (v :: .ref a :: S) k n H Q ↔ ((isOw H a = true ∧ okv (.array .int) v = true) ∧ W (pj lw) 1 18 L S k n (wr H a 7 v) Q) := W_putf (rfl : (pj lw).1 1 15 = some (.putfield 13, 3, 7))
theorem w1_18 {x : Nat} : W (pj lw) 1 18 (.val (.ref x) :: L) S k n H Q ↔ W (pj lw) 1 19 (.val (.ref x) :: L) (.ref x :: S) k n H Q := W_s (rfl : (pj lw).1 1 18 = some (.aload_n 0, 1, 0)) rfl rfl rfl
theorem w1_19 : W (pj lw) 1 19 L S k n H Q ↔ W (pj lw) 1 20 L (.int 4 :: S) k n H Q := W_s (rfl : (pj lw).1 1 19 = some (.iconst 4, 1, 0)) rfl rfl rfl
theorem w1_20 : W (pj lw) 1 20 L (.int 4 :: S) k n H Q ↔ ((k + 1 ≤ 13 ∧ n + 4 ≤ 276) ∧ W (pj lw) 1 22 L (.ref H.1 :: S) (k + 1) (n + 4) (mkA .int 4 H) Q) := W_newarr' (rfl : (pj lw).1 1 20 = some (.newarray .int, 2, 0)) rfl (by decide) (by decide)
theorem w1_22 {a : Nat} {v : Value} : W (pj lw) 1 22 L (v :: .ref a :: S) k n H Q ↔ ((isOw H a = true ∧ okv (.array .int) v = true) ∧ W (pj lw) 1 25 L S k n (wr H a 8 v) Q) := W_putf (rfl : (pj lw).1 1 22 = some (.putfield 16, 3, 8))
theorem w1_25 {x : Nat} : W (pj lw) 1 25 (.val (.ref x) :: L) S k n H Q ↔ W (pj lw) 1 26 (.val (.ref x) :: L) (.ref x :: S) k n H Q := W_s (rfl : (pj lw).1 1 25 = some (.aload_n 0, 1, 0)) rfl rfl rfl
theorem w1_26 : W (pj lw) 1 26 L S k n H Q ↔ W (pj lw) 1 27 L (.int 4 :: S) k n H Q := W_s (rfl : (pj lw).1 1 26 = some (.iconst 4, 1, 0)) rfl rfl rfl
theorem w1_27 : W (pj lw) 1 27 L (.int 4 :: S) k n H Q ↔ ((k + 1 ≤ 13 ∧ n + 4 ≤ 276) ∧ W (pj lw) 1 29 L (.ref H.1 :: S) (k + 1) (n + 4) (mkA .int 4 H) Q) := W_newarr' (rfl : (pj lw).1 1 27 = some (.newarray .int, 2, 0)) rfl (by decide) (by decide)
theorem w1_29 {a : Nat} {v : Value} : W (pj lw) 1 29 L (v :: .ref a :: S) k n H Q ↔ ((isOw H a = true ∧ okv (.array .int) v = true) ∧ W (pj lw) 1 32 L S k n (wr H a 9 v) Q) := W_putf (rfl : (pj lw).1 1 29 = some (.putfield 19, 3, 9))
theorem w1_32 {x : Nat} : W (pj lw) 1 32 (.val (.ref x) :: L) S k n H Q ↔ W (pj lw) 1 33 (.val (.ref x) :: L) (.ref x :: S) k n H Q := W_s (rfl : (pj lw).1 1 32 = some (.aload_n 0, 1, 0)) rfl rfl rfl
theorem w1_33 : W (pj lw) 1 33 L S k n H Q ↔ W (pj lw) 1 34 L (.int 4 :: S) k n H Q := W_s (rfl : (pj lw).1 1 33 = some (.iconst 4, 1, 0)) rfl rfl rfl
theorem w1_34 : W (pj lw) 1 34 L (.int 4 :: S) k n H Q ↔ ((k + 1 ≤ 13 ∧ n + 4 ≤ 276) ∧ W (pj lw) 1 36 L (.ref H.1 :: S) (k + 1) (n + 4) (mkA .int 4 H) Q) := W_newarr' (rfl : (pj lw).1 1 34 = some (.newarray .int, 2, 0)) rfl (by decide) (by decide)
theorem w1_36 {a : Nat} {v : Value} : W (pj lw) 1 36 L (v :: .ref a :: S) k n H Q ↔ ((isOw H a = true ∧ okv (.array .int) v = true) ∧ W (pj lw) 1 39 L S k n (wr H a 10 v) Q) := W_putf (rfl : (pj lw).1 1 36 = some (.putfield 22, 3, 10))
theorem w1_39 {x : Nat} : W (pj lw) 1 39 (.val (.ref x) :: L) S k n H Q ↔ W (pj lw) 1 40 (.val (.ref x) :: L) (.ref x :: S) k n H Q := W_s (rfl : (pj lw).1 1 39 = some (.aload_n 0, 1, 0)) rfl rfl rfl
theorem w1_40 : W (pj lw) 1 40 L S k n H Q ↔ W (pj lw) 1 42 L (.int 32 :: S) k n H Q := W_s (rfl : (pj lw).1 1 40 = some (.bipush 32, 2, 0)) rfl rfl rfl
theorem w1_42 : W (pj lw) 1 42 L (.int 32 :: S) k n H Q ↔ ((k + 1 ≤ 13 ∧ n + 32 ≤ 276) ∧ W (pj lw) 1 44 L (.ref H.1 :: S) (k + 1) (n + 32) (mkA .int 32 H) Q) := W_newarr' (rfl : (pj lw).1 1 42 = some (.newarray .int, 2, 0)) rfl (by decide) (by decide)
theorem w1_44 {a : Nat} {v : Value} : W (pj lw) 1 44 L (v :: .ref a :: S) k n H Q ↔ ((isOw H a = true ∧ okv (.array .int) v = true) ∧ W (pj lw) 1 47 L S k n (wr H a 11 v) Q) := W_putf (rfl : (pj lw).1 1 44 = some (.putfield 25, 3, 11))
theorem w1_47 {x : Nat} : W (pj lw) 1 47 (.val (.ref x) :: L) S k n H Q ↔ W (pj lw) 1 48 (.val (.ref x) :: L) (.ref x :: S) k n H Q := W_s (rfl : (pj lw).1 1 47 = some (.aload_n 0, 1, 0)) rfl rfl rfl
theorem w1_48 : W (pj lw) 1 48 L S k n H Q ↔ W (pj lw) 1 50 L (.int 32 :: S) k n H Q := W_s (rfl : (pj lw).1 1 48 = some (.bipush 32, 2, 0)) rfl rfl rfl
theorem w1_50 : W (pj lw) 1 50 L (.int 32 :: S) k n H Q ↔ ((k + 1 ≤ 13 ∧ n + 32 ≤ 276) ∧ W (pj lw) 1 52 L (.ref H.1 :: S) (k + 1) (n + 32) (mkA .int 32 H) Q) := W_newarr' (rfl : (pj lw).1 1 50 = some (.newarray .int, 2, 0)) rfl (by decide) (by decide)
theorem w1_52 {a : Nat} {v : Value} : W (pj lw) 1 52 L (v :: .ref a :: S) k n H Q ↔ ((isOw H a = true ∧ okv (.array .int) v = true) ∧ W (pj lw) 1 55 L S k n (wr H a 12 v) Q) := W_putf (rfl : (pj lw).1 1 52 = some (.putfield 28, 3, 12))
theorem w1_55 {x : Nat} : W (pj lw) 1 55 (.val (.ref x) :: L) S k n H Q ↔ W (pj lw) 1 56 (.val (.ref x) :: L) (.ref x :: S) k n H Q := W_s (rfl : (pj lw).1 1 55 = some (.aload_n 0, 1, 0)) rfl rfl rfl
theorem w1_56 : W (pj lw) 1 56 L S k n H Q ↔ W (pj lw) 1 58 L (.int 32 :: S) k n H Q := W_s (rfl : (pj lw).1 1 56 = some (.bipush 32, 2, 0)) rfl rfl rfl
theorem w1_58 : W (pj lw) 1 58 L (.int 32 :: S) k n H Q ↔ ((k + 1 ≤ 13 ∧ n + 32 ≤ 276) ∧ W (pj lw) 1 60 L (.ref H.1 :: S) (k + 1) (n + 32) (mkA .int 32 H) Q) := W_newarr' (rfl : (pj lw).1 1 58 = some (.newarray .int, 2, 0)) rfl (by decide) (by decide)
theorem w1_60 {a : Nat} {v : Value} : W (pj lw) 1 60 L (v :: .ref a :: S) k n H Q ↔ ((isOw H a = true ∧ okv (.array .int) v = true) ∧ W (pj lw) 1 63 L S k n (wr H a 13 v) Q) := W_putf (rfl : (pj lw).1 1 60 = some (.putfield 31, 3, 13))
theorem w1_63 {x : Nat} : W (pj lw) 1 63 (.val (.ref x) :: L) S k n H Q ↔ W (pj lw) 1 64 (.val (.ref x) :: L) (.ref x :: S) k n H Q := W_s (rfl : (pj lw).1 1 63 = some (.aload_n 0, 1, 0)) rfl rfl rfl
theorem w1_64 : W (pj lw) 1 64 L S k n H Q ↔ W (pj lw) 1 66 L (.int 32 :: S) k n H Q := W_s (rfl : (pj lw).1 1 64 = some (.bipush 32, 2, 0)) rfl rfl rfl
theorem w1_66 : W (pj lw) 1 66 L (.int 32 :: S) k n H Q ↔ ((k + 1 ≤ 13 ∧ n + 32 ≤ 276) ∧ W (pj lw) 1 68 L (.ref H.1 :: S) (k + 1) (n + 32) (mkA .int 32 H) Q) := W_newarr' (rfl : (pj lw).1 1 66 = some (.newarray .int, 2, 0)) rfl (by decide) (by decide)
theorem w1_68 {a : Nat} {v : Value} : W (pj lw) 1 68 L (v :: .ref a :: S) k n H Q ↔ ((isOw H a = true ∧ okv (.array .int) v = true) ∧ W (pj lw) 1 71 L S k n (wr H a 14 v) Q) := W_putf (rfl : (pj lw).1 1 68 = some (.putfield 34, 3, 14))
theorem w1_71 {x : Nat} : W (pj lw) 1 71 (.val (.ref x) :: L) S k n H Q ↔ W (pj lw) 1 72 (.val (.ref x) :: L) (.ref x :: S) k n H Q := W_s (rfl : (pj lw).1 1 71 = some (.aload_n 0, 1, 0)) rfl rfl rfl
theorem w1_72 : W (pj lw) 1 72 L S k n H Q ↔ W (pj lw) 1 74 L (.int 32 :: S) k n H Q := W_s (rfl : (pj lw).1 1 72 = some (.bipush 32, 2, 0)) rfl rfl rfl
theorem w1_74 : W (pj lw) 1 74 L (.int 32 :: S) k n H Q ↔ ((k + 1 ≤ 13 ∧ n + 32 ≤ 276) ∧ W (pj lw) 1 76 L (.ref H.1 :: S) (k + 1) (n + 32) (mkA .int 32 H) Q) := W_newarr' (rfl : (pj lw).1 1 74 = some (.newarray .int, 2, 0)) rfl (by decide) (by decide)
theorem w1_76 {a : Nat} {v : Value} : W (pj lw) 1 76 L (v :: .ref a :: S) k n H Q ↔ ((isOw H a = true ∧ okv (.array .int) v = true) ∧ W (pj lw) 1 79 L S k n (wr H a 15 v) Q) := W_putf (rfl : (pj lw).1 1 76 = some (.putfield 37, 3, 15))
theorem w1_79 {x : Nat} : W (pj lw) 1 79 (.val (.ref x) :: L) S k n H Q ↔ W (pj lw) 1 80 (.val (.ref x) :: L) (.ref x :: S) k n H Q := W_s (rfl : (pj lw).1 1 79 = some (.aload_n 0, 1, 0)) rfl rfl rfl
theorem w1_80 : W (pj lw) 1 80 L S k n H Q ↔ W (pj lw) 1 82 L (.int 32 :: S) k n H Q := W_s (rfl : (pj lw).1 1 80 = some (.bipush 32, 2, 0)) rfl rfl rfl
theorem w1_82 : W (pj lw) 1 82 L (.int 32 :: S) k n H Q ↔ ((k + 1 ≤ 13 ∧ n + 32 ≤ 276) ∧ W (pj lw) 1 84 L (.ref H.1 :: S) (k + 1) (n + 32) (mkA .int 32 H) Q) := W_newarr' (rfl : (pj lw).1 1 82 = some (.newarray .int, 2, 0)) rfl (by decide) (by decide)
theorem w1_84 {a : Nat} {v : Value} : W (pj lw) 1 84 L (v :: .ref a :: S) k n H Q ↔ ((isOw H a = true ∧ okv (.array .int) v = true) ∧ W (pj lw) 1 87 L S k n (wr H a 16 v) Q) := W_putf (rfl : (pj lw).1 1 84 = some (.putfield 40, 3, 16))
theorem w1_87 {x : Nat} : W (pj lw) 1 87 (.val (.ref x) :: L) S k n H Q ↔ W (pj lw) 1 88 (.val (.ref x) :: L) (.ref x :: S) k n H Q := W_s (rfl : (pj lw).1 1 87 = some (.aload_n 0, 1, 0)) rfl rfl rfl
theorem w1_88 : W (pj lw) 1 88 L S k n H Q ↔ W (pj lw) 1 90 L (.int 32 :: S) k n H Q := W_s (rfl : (pj lw).1 1 88 = some (.bipush 32, 2, 0)) rfl rfl rfl
theorem w1_90 : W (pj lw) 1 90 L (.int 32 :: S) k n H Q ↔ ((k + 1 ≤ 13 ∧ n + 32 ≤ 276) ∧ W (pj lw) 1 92 L (.ref H.1 :: S) (k + 1) (n + 32) (mkA .int 32 H) Q) := W_newarr' (rfl : (pj lw).1 1 90 = some (.newarray .int, 2, 0)) rfl (by decide) (by decide)
theorem w1_92 {a : Nat} {v : Value} : W (pj lw) 1 92 L (v :: .ref a :: S) k n H Q ↔ ((isOw H a = true ∧ okv (.array .int) v = true) ∧ W (pj lw) 1 95 L S k n (wr H a 17 v) Q) := W_putf (rfl : (pj lw).1 1 92 = some (.putfield 43, 3, 17))
theorem w1_95 {x : Nat} : W (pj lw) 1 95 (.val (.ref x) :: L) S k n H Q ↔ W (pj lw) 1 96 (.val (.ref x) :: L) (.ref x :: S) k n H Q := W_s (rfl : (pj lw).1 1 95 = some (.aload_n 0, 1, 0)) rfl rfl rfl
theorem w1_96 : W (pj lw) 1 96 L S k n H Q ↔ W (pj lw) 1 98 L (.int 32 :: S) k n H Q := W_s (rfl : (pj lw).1 1 96 = some (.bipush 32, 2, 0)) rfl rfl rfl
theorem w1_98 : W (pj lw) 1 98 L (.int 32 :: S) k n H Q ↔ ((k + 1 ≤ 13 ∧ n + 32 ≤ 276) ∧ W (pj lw) 1 100 L (.ref H.1 :: S) (k + 1) (n + 32) (mkA .int 32 H) Q) := W_newarr' (rfl : (pj lw).1 1 98 = some (.newarray .int, 2, 0)) rfl (by decide) (by decide)
theorem w1_100 {a : Nat} {v : Value} : W (pj lw) 1 100 L (v :: .ref a :: S) k n H Q ↔ ((isOw H a = true ∧ okv (.array .int) v = true) ∧ W (pj lw) 1 103 L S k n (wr H a 18 v) Q) := W_putf (rfl : (pj lw).1 1 100 = some (.putfield 46, 3, 18))
theorem w1_103 {x : Nat} : W (pj lw) 1 103 (.val (.ref x) :: L) S k n H Q ↔ W (pj lw) 1 104 (.val (.ref x) :: L) (.ref x :: S) k n H Q := W_s (rfl : (pj lw).1 1 103 = some (.aload_n 0, 1, 0)) rfl rfl rfl
theorem w1_104 {x : Nat} : W (pj lw) 1 104 (.val (.ref x) :: L) S k n H Q ↔ W (pj lw) 1 105 (.val (.ref x) :: L) (.ref x :: S) k n H Q := W_s (rfl : (pj lw).1 1 104 = some (.aload_n 0, 1, 0)) rfl rfl rfl
theorem w1_105 {x : Int32} {l0 : Slot} : W (pj lw) 1 105 (l0 :: .val (.int x) :: L) S k n H Q ↔ W (pj lw) 1 106 (l0 :: .val (.int x) :: L) (.int x :: S) k n H Q := W_s (rfl : (pj lw).1 1 105 = some (.iload_n 1, 1, 0)) rfl rfl rfl
theorem w1_106 : W (pj lw) 1 106 L S k n H Q ↔ W (pj lw) 1 107 L (.int 1 :: S) k n H Q := W_s (rfl : (pj lw).1 1 106 = some (.iconst 1, 1, 0)) rfl rfl rfl
theorem w1_107 : W (pj lw) 1 107 L S k n H Q ↔ W (pj lw) 1 108 L (.int 4 :: S) k n H Q := W_s (rfl : (pj lw).1 1 107 = some (.iconst 4, 1, 0)) rfl rfl rfl
theorem w1_108 {a : Nat} {x0 : Int32} {x1 : Int32} {x2 : Int32} : W (pj lw) 1 108 L (.int x2 :: .int x1 :: .int x0 :: .ref a :: S) k n H Q ↔ ((isO H a = true ∧ cs S + (4 + 11) + 0 ≤ 16) ∧ Cl (pj lw) 15 [.ref a, .int x0, .int x1, .int x2] H (fun v H => W (pj lw) 1 111 L (v.toList ++ S) k n H Q)) := W_inst (as := [.int x0, .int x1, .int x2]) (rfl : (pj lw).1 1 108 = some (.invokevirtual 49, 3, 15)) rfl rfl rfl (Nat.le_of_ble_eq_true rfl) (Nat.le_of_ble_eq_true rfl) ⟨rfl, rfl⟩
theorem w1_111 {a : Nat} {v : Value} : W (pj lw) 1 111 L (v :: .ref a :: S) k n H Q ↔ ((isOw H a = true ∧ okv (.int) v = true) ∧ W (pj lw) 1 114 L S k n (wr H a 0 v) Q) := W_putf (rfl : (pj lw).1 1 111 = some (.putfield 53, 3, 0))
theorem w1_114 {x : Nat} : W (pj lw) 1 114 (.val (.ref x) :: L) S k n H Q ↔ W (pj lw) 1 115 (.val (.ref x) :: L) (.ref x :: S) k n H Q := W_s (rfl : (pj lw).1 1 114 = some (.aload_n 0, 1, 0)) rfl rfl rfl
theorem w1_115 {x : Nat} : W (pj lw) 1 115 (.val (.ref x) :: L) S k n H Q ↔ W (pj lw) 1 116 (.val (.ref x) :: L) (.ref x :: S) k n H Q := W_s (rfl : (pj lw).1 1 115 = some (.aload_n 0, 1, 0)) rfl rfl rfl
theorem w1_116 {x : Int32} {l0 l1 : Slot} : W (pj lw) 1 116 (l0 :: l1 :: .val (.int x) :: L) S k n H Q ↔ W (pj lw) 1 117 (l0 :: l1 :: .val (.int x) :: L) (.int x :: S) k n H Q := W_s (rfl : (pj lw).1 1 116 = some (.iload_n 2, 1, 0)) rfl rfl rfl
theorem w1_117 : W (pj lw) 1 117 L S k n H Q ↔ W (pj lw) 1 118 L (.int 2 :: S) k n H Q := W_s (rfl : (pj lw).1 1 117 = some (.iconst 2, 1, 0)) rfl rfl rfl
theorem w1_118 : W (pj lw) 1 118 L S k n H Q ↔ W (pj lw) 1 120 L (.int 16 :: S) k n H Q := W_s (rfl : (pj lw).1 1 118 = some (.bipush 16, 2, 0)) rfl rfl rfl
theorem w1_120 {a : Nat} {x0 : Int32} {x1 : Int32} {x2 : Int32} : W (pj lw) 1 120 L (.int x2 :: .int x1 :: .int x0 :: .ref a :: S) k n H Q ↔ ((isO H a = true ∧ cs S + (4 + 11) + 0 ≤ 16) ∧ Cl (pj lw) 15 [.ref a, .int x0, .int x1, .int x2] H (fun v H => W (pj lw) 1 123 L (v.toList ++ S) k n H Q)) := W_inst (as := [.int x0, .int x1, .int x2]) (rfl : (pj lw).1 1 120 = some (.invokevirtual 49, 3, 15)) rfl rfl rfl (Nat.le_of_ble_eq_true rfl) (Nat.le_of_ble_eq_true rfl) ⟨rfl, rfl⟩
theorem w1_123 {a : Nat} {v : Value} : W (pj lw) 1 123 L (v :: .ref a :: S) k n H Q ↔ ((isOw H a = true ∧ okv (.int) v = true) ∧ W (pj lw) 1 126 L S k n (wr H a 1 v) Q) := W_putf (rfl : (pj lw).1 1 123 = some (.putfield 57, 3, 1))
theorem w1_126 {x : Nat} : W (pj lw) 1 126 (.val (.ref x) :: L) S k n H Q ↔ W (pj lw) 1 127 (.val (.ref x) :: L) (.ref x :: S) k n H Q := W_s (rfl : (pj lw).1 1 126 = some (.aload_n 0, 1, 0)) rfl rfl rfl
theorem w1_127 {x : Nat} : W (pj lw) 1 127 (.val (.ref x) :: L) S k n H Q ↔ W (pj lw) 1 128 (.val (.ref x) :: L) (.ref x :: S) k n H Q := W_s (rfl : (pj lw).1 1 127 = some (.aload_n 0, 1, 0)) rfl rfl rfl
theorem w1_128 {x : Int32} {l0 l1 l2 : Slot} : W (pj lw) 1 128 (l0 :: l1 :: l2 :: .val (.int x) :: L) S k n H Q ↔ W (pj lw) 1 129 (l0 :: l1 :: l2 :: .val (.int x) :: L) (.int x :: S) k n H Q := W_s (rfl : (pj lw).1 1 128 = some (.iload_n 3, 1, 0)) rfl rfl rfl
theorem w1_129 : W (pj lw) 1 129 L S k n H Q ↔ W (pj lw) 1 130 L (.int 1 :: S) k n H Q := W_s (rfl : (pj lw).1 1 129 = some (.iconst 1, 1, 0)) rfl rfl rfl
theorem w1_130 : W (pj lw) 1 130 L S k n H Q ↔ W (pj lw) 1 132 L (.int 8 :: S) k n H Q := W_s (rfl : (pj lw).1 1 130 = some (.bipush 8, 2, 0)) rfl rfl rfl
theorem w1_132 {a : Nat} {x0 : Int32} {x1 : Int32} {x2 : Int32} : W (pj lw) 1 132 L (.int x2 :: .int x1 :: .int x0 :: .ref a :: S) k n H Q ↔ ((isO H a = true ∧ cs S + (4 + 11) + 0 ≤ 16) ∧ Cl (pj lw) 15 [.ref a, .int x0, .int x1, .int x2] H (fun v H => W (pj lw) 1 135 L (v.toList ++ S) k n H Q)) := W_inst (as := [.int x0, .int x1, .int x2]) (rfl : (pj lw).1 1 132 = some (.invokevirtual 49, 3, 15)) rfl rfl rfl (Nat.le_of_ble_eq_true rfl) (Nat.le_of_ble_eq_true rfl) ⟨rfl, rfl⟩
theorem w1_135 {a : Nat} {v : Value} : W (pj lw) 1 135 L (v :: .ref a :: S) k n H Q ↔ ((isOw H a = true ∧ okv (.int) v = true) ∧ W (pj lw) 1 138 L S k n (wr H a 2 v) Q) := W_putf (rfl : (pj lw).1 1 135 = some (.putfield 60, 3, 2))
theorem w1_138 : W (pj lw) 1 138 L S k n H Q ↔ W (pj lw) 1 139 L (.int 0 :: S) k n H Q := W_s (rfl : (pj lw).1 1 138 = some (.iconst 0, 1, 0)) rfl rfl rfl
theorem w1_139 {x : Int32} {l0 l1 l2 l3 : Slot} : W (pj lw) 1 139 (l0 :: l1 :: l2 :: l3 :: .unset :: L) (.int x :: S) k n H Q ↔ W (pj lw) 1 141 (l0 :: l1 :: l2 :: l3 :: .val (.int x) :: L) S k n H Q := W_ist (rfl : (pj lw).1 1 139 = some (.istore 4, 2, 0)) rfl rfl
theorem w1_141 {x : Int32} {l0 l1 l2 l3 : Slot} : W (pj lw) 1 141 (l0 :: l1 :: l2 :: l3 :: .val (.int x) :: L) S k n H Q ↔ W (pj lw) 1 143 (l0 :: l1 :: l2 :: l3 :: .val (.int x) :: L) (.int x :: S) k n H Q := W_s (rfl : (pj lw).1 1 141 = some (.iload 4, 2, 0)) rfl rfl rfl
theorem w1_143 : W (pj lw) 1 143 L S k n H Q ↔ W (pj lw) 1 145 L (.int 32 :: S) k n H Q := W_s (rfl : (pj lw).1 1 143 = some (.bipush 32, 2, 0)) rfl rfl rfl
theorem w1_145 {x y : Int32} : W (pj lw) 1 145 L (.int y :: .int x :: S) k n H Q ↔ (if x < y then W (pj lw) 1 148 L S k n H Q else W (pj lw) 1 162 L S k n H Q) := W_icmp_ge (rfl : (pj lw).1 1 145 = some (.if_icmp .ge 17, 3, 0)) rfl
theorem w1_148 {x : Nat} : W (pj lw) 1 148 (.val (.ref x) :: L) S k n H Q ↔ W (pj lw) 1 149 (.val (.ref x) :: L) (.ref x :: S) k n H Q := W_s (rfl : (pj lw).1 1 148 = some (.aload_n 0, 1, 0)) rfl rfl rfl
theorem w1_149 {a : Nat} : W (pj lw) 1 149 L (.ref a :: S) k n H Q ↔ (isO H a = true ∧ W (pj lw) 1 152 L (fld H a 18 :: S) k n H Q) := W_getf (rfl : (pj lw).1 1 149 = some (.getfield 46, 3, 18))
theorem w1_152 {x : Int32} {l0 l1 l2 l3 : Slot} : W (pj lw) 1 152 (l0 :: l1 :: l2 :: l3 :: .val (.int x) :: L) S k n H Q ↔ W (pj lw) 1 154 (l0 :: l1 :: l2 :: l3 :: .val (.int x) :: L) (.int x :: S) k n H Q := W_s (rfl : (pj lw).1 1 152 = some (.iload 4, 2, 0)) rfl rfl rfl
theorem w1_154 : W (pj lw) 1 154 L S k n H Q ↔ W (pj lw) 1 155 L (.int (-1) :: S) k n H Q := W_s (rfl : (pj lw).1 1 154 = some (.iconst (-1), 1, 0)) rfl rfl rfl
theorem w1_155 {x i : Int32} {a : Nat} : W (pj lw) 1 155 L (.int x :: .int i :: .ref a :: S) k n H Q ↔ (inAw H a .int i = true ∧ W (pj lw) 1 156 L S k n (wr H a i.toNatClampNeg (.int x)) Q) := W_iastore (rfl : (pj lw).1 1 155 = some (.iastore, 1, 0))
theorem w1_156 {x : Int32} {l0 l1 l2 l3 : Slot} : W (pj lw) 1 156 (l0 :: l1 :: l2 :: l3 :: .val (.int x) :: L) S k n H Q ↔ W (pj lw) 1 159 (l0 :: l1 :: l2 :: l3 :: .val (.int (x + 1)) :: L) S k n H Q := W_s (rfl : (pj lw).1 1 156 = some (.iinc 4 1, 3, 0)) rfl rfl rfl
theorem w1_159 : W (pj lw) 1 159 L S k n H Q ↔ W (pj lw) 1 141 L S k n H Q := W_goto (rfl : (pj lw).1 1 159 = some (.goto (-18), 3, 0)) rfl
theorem w1_162 : W (pj lw) 1 162 L [] k n H Q ↔ Q none H := W_r (rfl : (pj lw).1 1 162 = some (.return_, 1, 0)) rfl
theorem c2 {x0 : Nat} {x1 : Int32} {x2 : Int32} {x3 : Int32} : Cl (pj lw) 2 [.ref x0, .int x1, .int x2, .int x3] H Q ↔ W (pj lw) 2 0 [.val (.ref x0), .val (.int x1), .val (.int x2), .val (.int x3), .unset] [] 0 0 H Q := cl_unf rfl
theorem w2_0 {x : Nat} : W (pj lw) 2 0 (.val (.ref x) :: L) S k n H Q ↔ W (pj lw) 2 1 (.val (.ref x) :: L) (.ref x :: S) k n H Q := W_s (rfl : (pj lw).1 2 0 = some (.aload_n 0, 1, 0)) rfl rfl rfl
theorem w2_1 {a : Nat} : W (pj lw) 2 1 L (.ref a :: S) k n H Q ↔ (isO H a = true ∧ W (pj lw) 2 4 L (fld H a 4 :: S) k n H Q) := W_getf (rfl : (pj lw).1 2 1 = some (.getfield 63, 3, 4))
theorem w2_4 : W (pj lw) 2 4 L S k n H Q ↔ W (pj lw) 2 6 L (.int 32 :: S) k n H Q := W_s (rfl : (pj lw).1 2 4 = some (.bipush 32, 2, 0)) rfl rfl rfl
theorem w2_6 {x y : Int32} : W (pj lw) 2 6 L (.int y :: .int x :: S) k n H Q ↔ (if x < y then W (pj lw) 2 11 L S k n H Q else W (pj lw) 2 9 L S k n H Q) := W_icmp_lt (rfl : (pj lw).1 2 6 = some (.if_icmp .lt 5, 3, 0)) rfl
theorem w2_9 : W (pj lw) 2 9 L S k n H Q ↔ W (pj lw) 2 10 L (.int (-1) :: S) k n H Q := W_s (rfl : (pj lw).1 2 9 = some (.iconst (-1), 1, 0)) rfl rfl rfl
theorem w2_10 {x : Int32} : W (pj lw) 2 10 L (.int x :: S) k n H Q ↔ Q (some (.int x)) H := W_r (rfl : (pj lw).1 2 10 = some (.ireturn, 1, 0)) rfl
theorem w2_11 {x : Int32} {l0 l1 : Slot} : W (pj lw) 2 11 (l0 :: l1 :: .val (.int x) :: L) S k n H Q ↔ W (pj lw) 2 12 (l0 :: l1 :: .val (.int x) :: L) (.int x :: S) k n H Q := W_s (rfl : (pj lw).1 2 11 = some (.iload_n 2, 1, 0)) rfl rfl rfl
theorem w2_12 {x : Int32} : W (pj lw) 2 12 L (.int x :: S) k n H Q ↔ (if x < 0 then W (pj lw) 2 40 L S k n H Q else W (pj lw) 2 15 L S k n H Q) := W_if_lt (rfl : (pj lw).1 2 12 = some (.ifCond .lt 28, 3, 0)) rfl
theorem w2_15 {x : Int32} {l0 l1 : Slot} : W (pj lw) 2 15 (l0 :: l1 :: .val (.int x) :: L) S k n H Q ↔ W (pj lw) 2 16 (l0 :: l1 :: .val (.int x) :: L) (.int x :: S) k n H Q := W_s (rfl : (pj lw).1 2 15 = some (.iload_n 2, 1, 0)) rfl rfl rfl
theorem w2_16 {x : Nat} : W (pj lw) 2 16 (.val (.ref x) :: L) S k n H Q ↔ W (pj lw) 2 17 (.val (.ref x) :: L) (.ref x :: S) k n H Q := W_s (rfl : (pj lw).1 2 16 = some (.aload_n 0, 1, 0)) rfl rfl rfl
theorem w2_17 {a : Nat} : W (pj lw) 2 17 L (.ref a :: S) k n H Q ↔ (isO H a = true ∧ W (pj lw) 2 20 L (fld H a 1 :: S) k n H Q) := W_getf (rfl : (pj lw).1 2 17 = some (.getfield 57, 3, 1))
theorem w2_20 {x y : Int32} : W (pj lw) 2 20 L (.int y :: .int x :: S) k n H Q ↔ (if x < y then W (pj lw) 2 23 L S k n H Q else W (pj lw) 2 40 L S k n H Q) := W_icmp_ge (rfl : (pj lw).1 2 20 = some (.if_icmp .ge 20, 3, 0)) rfl
theorem w2_23 {x : Int32} {l0 l1 l2 : Slot} : W (pj lw) 2 23 (l0 :: l1 :: l2 :: .val (.int x) :: L) S k n H Q ↔ W (pj lw) 2 24 (l0 :: l1 :: l2 :: .val (.int x) :: L) (.int x :: S) k n H Q := W_s (rfl : (pj lw).1 2 23 = some (.iload_n 3, 1, 0)) rfl rfl rfl
theorem w2_24 {x : Int32} : W (pj lw) 2 24 L (.int x :: S) k n H Q ↔ (if x < 0 then W (pj lw) 2 40 L S k n H Q else W (pj lw) 2 27 L S k n H Q) := W_if_lt (rfl : (pj lw).1 2 24 = some (.ifCond .lt 16, 3, 0)) rfl
theorem w2_27 {x : Int32} {l0 l1 l2 : Slot} : W (pj lw) 2 27 (l0 :: l1 :: l2 :: .val (.int x) :: L) S k n H Q ↔ W (pj lw) 2 28 (l0 :: l1 :: l2 :: .val (.int x) :: L) (.int x :: S) k n H Q := W_s (rfl : (pj lw).1 2 27 = some (.iload_n 3, 1, 0)) rfl rfl rfl
theorem w2_28 {x : Nat} : W (pj lw) 2 28 (.val (.ref x) :: L) S k n H Q ↔ W (pj lw) 2 29 (.val (.ref x) :: L) (.ref x :: S) k n H Q := W_s (rfl : (pj lw).1 2 28 = some (.aload_n 0, 1, 0)) rfl rfl rfl
theorem w2_29 {a : Nat} : W (pj lw) 2 29 L (.ref a :: S) k n H Q ↔ (isO H a = true ∧ W (pj lw) 2 32 L (fld H a 1 :: S) k n H Q) := W_getf (rfl : (pj lw).1 2 29 = some (.getfield 57, 3, 1))
theorem w2_32 {x y : Int32} : W (pj lw) 2 32 L (.int y :: .int x :: S) k n H Q ↔ (if x < y then W (pj lw) 2 35 L S k n H Q else W (pj lw) 2 40 L S k n H Q) := W_icmp_ge (rfl : (pj lw).1 2 32 = some (.if_icmp .ge 8, 3, 0)) rfl
theorem w2_35 {x : Int32} {l0 l1 : Slot} : W (pj lw) 2 35 (l0 :: l1 :: .val (.int x) :: L) S k n H Q ↔ W (pj lw) 2 36 (l0 :: l1 :: .val (.int x) :: L) (.int x :: S) k n H Q := W_s (rfl : (pj lw).1 2 35 = some (.iload_n 2, 1, 0)) rfl rfl rfl
theorem w2_36 {x : Int32} {l0 l1 l2 : Slot} : W (pj lw) 2 36 (l0 :: l1 :: l2 :: .val (.int x) :: L) S k n H Q ↔ W (pj lw) 2 37 (l0 :: l1 :: l2 :: .val (.int x) :: L) (.int x :: S) k n H Q := W_s (rfl : (pj lw).1 2 36 = some (.iload_n 3, 1, 0)) rfl rfl rfl
theorem w2_37 {x y : Int32} : W (pj lw) 2 37 L (.int y :: .int x :: S) k n H Q ↔ (if x = y then W (pj lw) 2 40 L S k n H Q else W (pj lw) 2 43 L S k n H Q) := W_icmp_ne (rfl : (pj lw).1 2 37 = some (.if_icmp .ne 6, 3, 0)) rfl
theorem w2_40 : W (pj lw) 2 40 L S k n H Q ↔ W (pj lw) 2 42 L (.int (-2) :: S) k n H Q := W_s (rfl : (pj lw).1 2 40 = some (.bipush (-2), 2, 0)) rfl rfl rfl
theorem w2_42 {x : Int32} : W (pj lw) 2 42 L (.int x :: S) k n H Q ↔ Q (some (.int x)) H := W_r (rfl : (pj lw).1 2 42 = some (.ireturn, 1, 0)) rfl
theorem w2_43 {x : Int32} {l0 : Slot} : W (pj lw) 2 43 (l0 :: .val (.int x) :: L) S k n H Q ↔ W (pj lw) 2 44 (l0 :: .val (.int x) :: L) (.int x :: S) k n H Q := W_s (rfl : (pj lw).1 2 43 = some (.iload_n 1, 1, 0)) rfl rfl rfl
theorem w2_44 {x : Nat} : W (pj lw) 2 44 (.val (.ref x) :: L) S k n H Q ↔ W (pj lw) 2 45 (.val (.ref x) :: L) (.ref x :: S) k n H Q := W_s (rfl : (pj lw).1 2 44 = some (.aload_n 0, 1, 0)) rfl rfl rfl
theorem w2_45 {a : Nat} : W (pj lw) 2 45 L (.ref a :: S) k n H Q ↔ (isO H a = true ∧ W (pj lw) 2 48 L (fld H a 3 :: S) k n H Q) := W_getf (rfl : (pj lw).1 2 45 = some (.getfield 66, 3, 3))
theorem w2_48 {x y : Int32} : W (pj lw) 2 48 L (.int y :: .int x :: S) k n H Q ↔ (if x < y then W (pj lw) 2 51 L S k n H Q else W (pj lw) 2 54 L S k n H Q) := W_icmp_ge (rfl : (pj lw).1 2 48 = some (.if_icmp .ge 6, 3, 0)) rfl
theorem w2_51 : W (pj lw) 2 51 L S k n H Q ↔ W (pj lw) 2 53 L (.int (-3) :: S) k n H Q := W_s (rfl : (pj lw).1 2 51 = some (.bipush (-3), 2, 0)) rfl rfl rfl
theorem w2_53 {x : Int32} : W (pj lw) 2 53 L (.int x :: S) k n H Q ↔ Q (some (.int x)) H := W_r (rfl : (pj lw).1 2 53 = some (.ireturn, 1, 0)) rfl
theorem w2_54 {x : Nat} : W (pj lw) 2 54 (.val (.ref x) :: L) S k n H Q ↔ W (pj lw) 2 55 (.val (.ref x) :: L) (.ref x :: S) k n H Q := W_s (rfl : (pj lw).1 2 54 = some (.aload_n 0, 1, 0)) rfl rfl rfl
theorem w2_55 {a : Nat} : W (pj lw) 2 55 L (.ref a :: S) k n H Q ↔ (isO H a = true ∧ W (pj lw) 2 58 L (fld H a 4 :: S) k n H Q) := W_getf (rfl : (pj lw).1 2 55 = some (.getfield 63, 3, 4))
theorem w2_58 {x : Int32} {l0 l1 l2 l3 : Slot} : W (pj lw) 2 58 (l0 :: l1 :: l2 :: l3 :: .unset :: L) (.int x :: S) k n H Q ↔ W (pj lw) 2 60 (l0 :: l1 :: l2 :: l3 :: .val (.int x) :: L) S k n H Q := W_ist (rfl : (pj lw).1 2 58 = some (.istore 4, 2, 0)) rfl rfl
theorem w2_60 {x : Nat} : W (pj lw) 2 60 (.val (.ref x) :: L) S k n H Q ↔ W (pj lw) 2 61 (.val (.ref x) :: L) (.ref x :: S) k n H Q := W_s (rfl : (pj lw).1 2 60 = some (.aload_n 0, 1, 0)) rfl rfl rfl
theorem w2_61 {a : Nat} : W (pj lw) 2 61 L (.ref a :: S) k n H Q ↔ (isO H a = true ∧ W (pj lw) 2 64 L (fld H a 11 :: S) k n H Q) := W_getf (rfl : (pj lw).1 2 61 = some (.getfield 25, 3, 11))
theorem w2_64 {x : Int32} {l0 l1 l2 l3 : Slot} : W (pj lw) 2 64 (l0 :: l1 :: l2 :: l3 :: .val (.int x) :: L) S k n H Q ↔ W (pj lw) 2 66 (l0 :: l1 :: l2 :: l3 :: .val (.int x) :: L) (.int x :: S) k n H Q := W_s (rfl : (pj lw).1 2 64 = some (.iload 4, 2, 0)) rfl rfl rfl
theorem w2_66 : W (pj lw) 2 66 L S k n H Q ↔ W (pj lw) 2 67 L (.int 0 :: S) k n H Q := W_s (rfl : (pj lw).1 2 66 = some (.iconst 0, 1, 0)) rfl rfl rfl
theorem w2_67 {x i : Int32} {a : Nat} : W (pj lw) 2 67 L (.int x :: .int i :: .ref a :: S) k n H Q ↔ (inAw H a .int i = true ∧ W (pj lw) 2 68 L S k n (wr H a i.toNatClampNeg (.int x)) Q) := W_iastore (rfl : (pj lw).1 2 67 = some (.iastore, 1, 0))
theorem w2_68 {x : Nat} : W (pj lw) 2 68 (.val (.ref x) :: L) S k n H Q ↔ W (pj lw) 2 69 (.val (.ref x) :: L) (.ref x :: S) k n H Q := W_s (rfl : (pj lw).1 2 68 = some (.aload_n 0, 1, 0)) rfl rfl rfl
theorem w2_69 {a : Nat} : W (pj lw) 2 69 L (.ref a :: S) k n H Q ↔ (isO H a = true ∧ W (pj lw) 2 72 L (fld H a 12 :: S) k n H Q) := W_getf (rfl : (pj lw).1 2 69 = some (.getfield 28, 3, 12))
theorem w2_72 {x : Int32} {l0 l1 l2 l3 : Slot} : W (pj lw) 2 72 (l0 :: l1 :: l2 :: l3 :: .val (.int x) :: L) S k n H Q ↔ W (pj lw) 2 74 (l0 :: l1 :: l2 :: l3 :: .val (.int x) :: L) (.int x :: S) k n H Q := W_s (rfl : (pj lw).1 2 72 = some (.iload 4, 2, 0)) rfl rfl rfl
theorem w2_74 {x : Int32} {l0 l1 : Slot} : W (pj lw) 2 74 (l0 :: l1 :: .val (.int x) :: L) S k n H Q ↔ W (pj lw) 2 75 (l0 :: l1 :: .val (.int x) :: L) (.int x :: S) k n H Q := W_s (rfl : (pj lw).1 2 74 = some (.iload_n 2, 1, 0)) rfl rfl rfl
theorem w2_75 {x i : Int32} {a : Nat} : W (pj lw) 2 75 L (.int x :: .int i :: .ref a :: S) k n H Q ↔ (inAw H a .int i = true ∧ W (pj lw) 2 76 L S k n (wr H a i.toNatClampNeg (.int x)) Q) := W_iastore (rfl : (pj lw).1 2 75 = some (.iastore, 1, 0))
theorem w2_76 {x : Nat} : W (pj lw) 2 76 (.val (.ref x) :: L) S k n H Q ↔ W (pj lw) 2 77 (.val (.ref x) :: L) (.ref x :: S) k n H Q := W_s (rfl : (pj lw).1 2 76 = some (.aload_n 0, 1, 0)) rfl rfl rfl
theorem w2_77 {a : Nat} : W (pj lw) 2 77 L (.ref a :: S) k n H Q ↔ (isO H a = true ∧ W (pj lw) 2 80 L (fld H a 13 :: S) k n H Q) := W_getf (rfl : (pj lw).1 2 77 = some (.getfield 31, 3, 13))
theorem w2_80 {x : Int32} {l0 l1 l2 l3 : Slot} : W (pj lw) 2 80 (l0 :: l1 :: l2 :: l3 :: .val (.int x) :: L) S k n H Q ↔ W (pj lw) 2 82 (l0 :: l1 :: l2 :: l3 :: .val (.int x) :: L) (.int x :: S) k n H Q := W_s (rfl : (pj lw).1 2 80 = some (.iload 4, 2, 0)) rfl rfl rfl
theorem w2_82 {x : Int32} {l0 l1 l2 : Slot} : W (pj lw) 2 82 (l0 :: l1 :: l2 :: .val (.int x) :: L) S k n H Q ↔ W (pj lw) 2 83 (l0 :: l1 :: l2 :: .val (.int x) :: L) (.int x :: S) k n H Q := W_s (rfl : (pj lw).1 2 82 = some (.iload_n 3, 1, 0)) rfl rfl rfl
theorem w2_83 {x i : Int32} {a : Nat} : W (pj lw) 2 83 L (.int x :: .int i :: .ref a :: S) k n H Q ↔ (inAw H a .int i = true ∧ W (pj lw) 2 84 L S k n (wr H a i.toNatClampNeg (.int x)) Q) := W_iastore (rfl : (pj lw).1 2 83 = some (.iastore, 1, 0))
theorem w2_84 {x : Nat} : W (pj lw) 2 84 (.val (.ref x) :: L) S k n H Q ↔ W (pj lw) 2 85 (.val (.ref x) :: L) (.ref x :: S) k n H Q := W_s (rfl : (pj lw).1 2 84 = some (.aload_n 0, 1, 0)) rfl rfl rfl
theorem w2_85 {a : Nat} : W (pj lw) 2 85 L (.ref a :: S) k n H Q ↔ (isO H a = true ∧ W (pj lw) 2 88 L (fld H a 14 :: S) k n H Q) := W_getf (rfl : (pj lw).1 2 85 = some (.getfield 34, 3, 14))
theorem w2_88 {x : Int32} {l0 l1 l2 l3 : Slot} : W (pj lw) 2 88 (l0 :: l1 :: l2 :: l3 :: .val (.int x) :: L) S k n H Q ↔ W (pj lw) 2 90 (l0 :: l1 :: l2 :: l3 :: .val (.int x) :: L) (.int x :: S) k n H Q := W_s (rfl : (pj lw).1 2 88 = some (.iload 4, 2, 0)) rfl rfl rfl
theorem w2_90 {x : Int32} {l0 : Slot} : W (pj lw) 2 90 (l0 :: .val (.int x) :: L) S k n H Q ↔ W (pj lw) 2 91 (l0 :: .val (.int x) :: L) (.int x :: S) k n H Q := W_s (rfl : (pj lw).1 2 90 = some (.iload_n 1, 1, 0)) rfl rfl rfl
theorem w2_91 {x i : Int32} {a : Nat} : W (pj lw) 2 91 L (.int x :: .int i :: .ref a :: S) k n H Q ↔ (inAw H a .int i = true ∧ W (pj lw) 2 92 L S k n (wr H a i.toNatClampNeg (.int x)) Q) := W_iastore (rfl : (pj lw).1 2 91 = some (.iastore, 1, 0))
theorem w2_92 {x : Nat} : W (pj lw) 2 92 (.val (.ref x) :: L) S k n H Q ↔ W (pj lw) 2 93 (.val (.ref x) :: L) (.ref x :: S) k n H Q := W_s (rfl : (pj lw).1 2 92 = some (.aload_n 0, 1, 0)) rfl rfl rfl
theorem w2_93 {a : Nat} : W (pj lw) 2 93 L (.ref a :: S) k n H Q ↔ (isO H a = true ∧ W (pj lw) 2 96 L (fld H a 15 :: S) k n H Q) := W_getf (rfl : (pj lw).1 2 93 = some (.getfield 37, 3, 15))
theorem w2_96 {x : Int32} {l0 l1 l2 l3 : Slot} : W (pj lw) 2 96 (l0 :: l1 :: l2 :: l3 :: .val (.int x) :: L) S k n H Q ↔ W (pj lw) 2 98 (l0 :: l1 :: l2 :: l3 :: .val (.int x) :: L) (.int x :: S) k n H Q := W_s (rfl : (pj lw).1 2 96 = some (.iload 4, 2, 0)) rfl rfl rfl
theorem w2_98 : W (pj lw) 2 98 L S k n H Q ↔ W (pj lw) 2 99 L (.int (-1) :: S) k n H Q := W_s (rfl : (pj lw).1 2 98 = some (.iconst (-1), 1, 0)) rfl rfl rfl
theorem w2_99 {x i : Int32} {a : Nat} : W (pj lw) 2 99 L (.int x :: .int i :: .ref a :: S) k n H Q ↔ (inAw H a .int i = true ∧ W (pj lw) 2 100 L S k n (wr H a i.toNatClampNeg (.int x)) Q) := W_iastore (rfl : (pj lw).1 2 99 = some (.iastore, 1, 0))
theorem w2_100 {x : Nat} : W (pj lw) 2 100 (.val (.ref x) :: L) S k n H Q ↔ W (pj lw) 2 101 (.val (.ref x) :: L) (.ref x :: S) k n H Q := W_s (rfl : (pj lw).1 2 100 = some (.aload_n 0, 1, 0)) rfl rfl rfl
theorem w2_101 {a : Nat} : W (pj lw) 2 101 L (.ref a :: S) k n H Q ↔ (isO H a = true ∧ W (pj lw) 2 104 L (fld H a 16 :: S) k n H Q) := W_getf (rfl : (pj lw).1 2 101 = some (.getfield 40, 3, 16))
theorem w2_104 {x : Int32} {l0 l1 l2 l3 : Slot} : W (pj lw) 2 104 (l0 :: l1 :: l2 :: l3 :: .val (.int x) :: L) S k n H Q ↔ W (pj lw) 2 106 (l0 :: l1 :: l2 :: l3 :: .val (.int x) :: L) (.int x :: S) k n H Q := W_s (rfl : (pj lw).1 2 104 = some (.iload 4, 2, 0)) rfl rfl rfl
theorem w2_106 : W (pj lw) 2 106 L S k n H Q ↔ W (pj lw) 2 107 L (.int (-1) :: S) k n H Q := W_s (rfl : (pj lw).1 2 106 = some (.iconst (-1), 1, 0)) rfl rfl rfl
theorem w2_107 {x i : Int32} {a : Nat} : W (pj lw) 2 107 L (.int x :: .int i :: .ref a :: S) k n H Q ↔ (inAw H a .int i = true ∧ W (pj lw) 2 108 L S k n (wr H a i.toNatClampNeg (.int x)) Q) := W_iastore (rfl : (pj lw).1 2 107 = some (.iastore, 1, 0))
theorem w2_108 {x : Nat} : W (pj lw) 2 108 (.val (.ref x) :: L) S k n H Q ↔ W (pj lw) 2 109 (.val (.ref x) :: L) (.ref x :: S) k n H Q := W_s (rfl : (pj lw).1 2 108 = some (.aload_n 0, 1, 0)) rfl rfl rfl
theorem w2_109 {a : Nat} : W (pj lw) 2 109 L (.ref a :: S) k n H Q ↔ (isO H a = true ∧ W (pj lw) 2 112 L (fld H a 17 :: S) k n H Q) := W_getf (rfl : (pj lw).1 2 109 = some (.getfield 43, 3, 17))
theorem w2_112 {x : Int32} {l0 l1 l2 l3 : Slot} : W (pj lw) 2 112 (l0 :: l1 :: l2 :: l3 :: .val (.int x) :: L) S k n H Q ↔ W (pj lw) 2 114 (l0 :: l1 :: l2 :: l3 :: .val (.int x) :: L) (.int x :: S) k n H Q := W_s (rfl : (pj lw).1 2 112 = some (.iload 4, 2, 0)) rfl rfl rfl
theorem w2_114 : W (pj lw) 2 114 L S k n H Q ↔ W (pj lw) 2 115 L (.int (-1) :: S) k n H Q := W_s (rfl : (pj lw).1 2 114 = some (.iconst (-1), 1, 0)) rfl rfl rfl
theorem w2_115 {x i : Int32} {a : Nat} : W (pj lw) 2 115 L (.int x :: .int i :: .ref a :: S) k n H Q ↔ (inAw H a .int i = true ∧ W (pj lw) 2 116 L S k n (wr H a i.toNatClampNeg (.int x)) Q) := W_iastore (rfl : (pj lw).1 2 115 = some (.iastore, 1, 0))
theorem w2_116 {x : Nat} : W (pj lw) 2 116 (.val (.ref x) :: L) S k n H Q ↔ W (pj lw) 2 117 (.val (.ref x) :: L) (.ref x :: S) k n H Q := W_s (rfl : (pj lw).1 2 116 = some (.aload_n 0, 1, 0)) rfl rfl rfl
theorem w2_117 {x : Int32} {l0 l1 l2 l3 : Slot} : W (pj lw) 2 117 (l0 :: l1 :: l2 :: l3 :: .val (.int x) :: L) S k n H Q ↔ W (pj lw) 2 119 (l0 :: l1 :: l2 :: l3 :: .val (.int x) :: L) (.int x :: S) k n H Q := W_s (rfl : (pj lw).1 2 117 = some (.iload 4, 2, 0)) rfl rfl rfl
theorem w2_119 : W (pj lw) 2 119 L S k n H Q ↔ W (pj lw) 2 120 L (.int 1 :: S) k n H Q := W_s (rfl : (pj lw).1 2 119 = some (.iconst 1, 1, 0)) rfl rfl rfl
theorem w2_120 {x y : Int32} : W (pj lw) 2 120 L (.int y :: .int x :: S) k n H Q ↔ W (pj lw) 2 121 L (.int (x + y) :: S) k n H Q := W_s (rfl : (pj lw).1 2 120 = some (.iadd, 1, 0)) rfl rfl rfl
theorem w2_121 {a : Nat} {v : Value} : W (pj lw) 2 121 L (v :: .ref a :: S) k n H Q ↔ ((isOw H a = true ∧ okv (.int) v = true) ∧ W (pj lw) 2 124 L S k n (wr H a 4 v) Q) := W_putf (rfl : (pj lw).1 2 121 = some (.putfield 63, 3, 4))
theorem w2_124 {x : Int32} {l0 l1 l2 l3 : Slot} : W (pj lw) 2 124 (l0 :: l1 :: l2 :: l3 :: .val (.int x) :: L) S k n H Q ↔ W (pj lw) 2 126 (l0 :: l1 :: l2 :: l3 :: .val (.int x) :: L) (.int x :: S) k n H Q := W_s (rfl : (pj lw).1 2 124 = some (.iload 4, 2, 0)) rfl rfl rfl
theorem w2_126 {x : Int32} : W (pj lw) 2 126 L (.int x :: S) k n H Q ↔ Q (some (.int x)) H := W_r (rfl : (pj lw).1 2 126 = some (.ireturn, 1, 0)) rfl
theorem c3 {x0 : Nat} {x1 : Int32} {x2 : Int32} {x3 : Int32} : Cl (pj lw) 3 [.ref x0, .int x1, .int x2, .int x3] H Q ↔ W (pj lw) 3 0 [.val (.ref x0), .val (.int x1), .val (.int x2), .val (.int x3), .unset, .unset, .unset, .unset, .unset, .unset, .unset, .unset, .unset, .unset, .unset] [] 0 0 H Q := cl_unf rfl
theorem w3_0 {x : Nat} : W (pj lw) 3 0 (.val (.ref x) :: L) S k n H Q ↔ W (pj lw) 3 1 (.val (.ref x) :: L) (.ref x :: S) k n H Q := W_s (rfl : (pj lw).1 3 0 = some (.aload_n 0, 1, 0)) rfl rfl rfl
theorem w3_1 {x : Int32} {l0 l1 : Slot} : W (pj lw) 3 1 (l0 :: l1 :: .val (.int x) :: L) S k n H Q ↔ W (pj lw) 3 2 (l0 :: l1 :: .val (.int x) :: L) (.int x :: S) k n H Q := W_s (rfl : (pj lw).1 3 1 = some (.iload_n 2, 1, 0)) rfl rfl rfl
theorem w3_2 : W (pj lw) 3 2 L S k n H Q ↔ W (pj lw) 3 3 L (.int 0 :: S) k n H Q := W_s (rfl : (pj lw).1 3 2 = some (.iconst 0, 1, 0)) rfl rfl rfl
theorem w3_3 : W (pj lw) 3 3 L S k n H Q ↔ W (pj lw) 3 5 L (.int 32 :: S) k n H Q := W_s (rfl : (pj lw).1 3 3 = some (.bipush 32, 2, 0)) rfl rfl rfl
theorem w3_5 {a : Nat} {x0 : Int32} {x1 : Int32} {x2 : Int32} : W (pj lw) 3 5 L (.int x2 :: .int x1 :: .int x0 :: .ref a :: S) k n H Q ↔ ((isO H a = true ∧ cs S + (4 + 11) + 0 ≤ 16) ∧ Cl (pj lw) 15 [.ref a, .int x0, .int x1, .int x2] H (fun v H => W (pj lw) 3 8 L (v.toList ++ S) k n H Q)) := W_inst (as := [.int x0, .int x1, .int x2]) (rfl : (pj lw).1 3 5 = some (.invokevirtual 49, 3, 15)) rfl rfl rfl (Nat.le_of_ble_eq_true rfl) (Nat.le_of_ble_eq_true rfl) ⟨rfl, rfl⟩
theorem w3_8 {x : Int32} {l0 l1 l2 l3 : Slot} : W (pj lw) 3 8 (l0 :: l1 :: l2 :: l3 :: .unset :: L) (.int x :: S) k n H Q ↔ W (pj lw) 3 10 (l0 :: l1 :: l2 :: l3 :: .val (.int x) :: L) S k n H Q := W_ist (rfl : (pj lw).1 3 8 = some (.istore 4, 2, 0)) rfl rfl
theorem w3_10 {x : Nat} : W (pj lw) 3 10 (.val (.ref x) :: L) S k n H Q ↔ W (pj lw) 3 11 (.val (.ref x) :: L) (.ref x :: S) k n H Q := W_s (rfl : (pj lw).1 3 10 = some (.aload_n 0, 1, 0)) rfl rfl rfl
theorem w3_11 {x : Int32} {l0 l1 l2 : Slot} : W (pj lw) 3 11 (l0 :: l1 :: l2 :: .val (.int x) :: L) S k n H Q ↔ W (pj lw) 3 12 (l0 :: l1 :: l2 :: .val (.int x) :: L) (.int x :: S) k n H Q := W_s (rfl : (pj lw).1 3 11 = some (.iload_n 3, 1, 0)) rfl rfl rfl
theorem w3_12 : W (pj lw) 3 12 L S k n H Q ↔ W (pj lw) 3 13 L (.int 0 :: S) k n H Q := W_s (rfl : (pj lw).1 3 12 = some (.iconst 0, 1, 0)) rfl rfl rfl
theorem w3_13 : W (pj lw) 3 13 L S k n H Q ↔ W (pj lw) 3 15 L (.int 16 :: S) k n H Q := W_s (rfl : (pj lw).1 3 13 = some (.bipush 16, 2, 0)) rfl rfl rfl
theorem w3_15 {a : Nat} {x0 : Int32} {x1 : Int32} {x2 : Int32} : W (pj lw) 3 15 L (.int x2 :: .int x1 :: .int x0 :: .ref a :: S) k n H Q ↔ ((isO H a = true ∧ cs S + (4 + 11) + 0 ≤ 16) ∧ Cl (pj lw) 15 [.ref a, .int x0, .int x1, .int x2] H (fun v H => W (pj lw) 3 18 L (v.toList ++ S) k n H Q)) := W_inst (as := [.int x0, .int x1, .int x2]) (rfl : (pj lw).1 3 15 = some (.invokevirtual 49, 3, 15)) rfl rfl rfl (Nat.le_of_ble_eq_true rfl) (Nat.le_of_ble_eq_true rfl) ⟨rfl, rfl⟩
theorem w3_18 {x : Int32} {l0 l1 l2 l3 l4 : Slot} : W (pj lw) 3 18 (l0 :: l1 :: l2 :: l3 :: l4 :: .unset :: L) (.int x :: S) k n H Q ↔ W (pj lw) 3 20 (l0 :: l1 :: l2 :: l3 :: l4 :: .val (.int x) :: L) S k n H Q := W_ist (rfl : (pj lw).1 3 18 = some (.istore 5, 2, 0)) rfl rfl
theorem w3_20 {x : Int32} {l0 : Slot} : W (pj lw) 3 20 (l0 :: .val (.int x) :: L) S k n H Q ↔ W (pj lw) 3 21 (l0 :: .val (.int x) :: L) (.int x :: S) k n H Q := W_s (rfl : (pj lw).1 3 20 = some (.iload_n 1, 1, 0)) rfl rfl rfl
theorem w3_21 {x : Int32} {l0 l1 l2 l3 l4 l5 : Slot} : W (pj lw) 3 21 (l0 :: l1 :: l2 :: l3 :: l4 :: l5 :: .unset :: L) (.int x :: S) k n H Q ↔ W (pj lw) 3 23 (l0 :: l1 :: l2 :: l3 :: l4 :: l5 :: .val (.int x) :: L) S k n H Q := W_ist (rfl : (pj lw).1 3 21 = some (.istore 6, 2, 0)) rfl rfl
theorem w3_23 : W (pj lw) 3 23 L S k n H Q ↔ W (pj lw) 3 24 L (.int 0 :: S) k n H Q := W_s (rfl : (pj lw).1 3 23 = some (.iconst 0, 1, 0)) rfl rfl rfl
theorem w3_24 {x : Int32} {l0 l1 l2 l3 l4 l5 l6 : Slot} : W (pj lw) 3 24 (l0 :: l1 :: l2 :: l3 :: l4 :: l5 :: l6 :: .unset :: L) (.int x :: S) k n H Q ↔ W (pj lw) 3 26 (l0 :: l1 :: l2 :: l3 :: l4 :: l5 :: l6 :: .val (.int x) :: L) S k n H Q := W_ist (rfl : (pj lw).1 3 24 = some (.istore 7, 2, 0)) rfl rfl
theorem w3_26 : W (pj lw) 3 26 L S k n H Q ↔ W (pj lw) 3 27 L (.int 0 :: S) k n H Q := W_s (rfl : (pj lw).1 3 26 = some (.iconst 0, 1, 0)) rfl rfl rfl
theorem w3_27 {x : Int32} {l0 l1 l2 l3 l4 l5 l6 l7 : Slot} : W (pj lw) 3 27 (l0 :: l1 :: l2 :: l3 :: l4 :: l5 :: l6 :: l7 :: .unset :: L) (.int x :: S) k n H Q ↔ W (pj lw) 3 29 (l0 :: l1 :: l2 :: l3 :: l4 :: l5 :: l6 :: l7 :: .val (.int x) :: L) S k n H Q := W_ist (rfl : (pj lw).1 3 27 = some (.istore 8, 2, 0)) rfl rfl
theorem w3_29 {x : Int32} {l0 l1 l2 l3 l4 l5 l6 l7 : Slot} : W (pj lw) 3 29 (l0 :: l1 :: l2 :: l3 :: l4 :: l5 :: l6 :: l7 :: .val (.int x) :: L) S k n H Q ↔ W (pj lw) 3 31 (l0 :: l1 :: l2 :: l3 :: l4 :: l5 :: l6 :: l7 :: .val (.int x) :: L) (.int x :: S) k n H Q := W_s (rfl : (pj lw).1 3 29 = some (.iload 8, 2, 0)) rfl rfl rfl
theorem w3_31 {x : Int32} {l0 l1 l2 l3 : Slot} : W (pj lw) 3 31 (l0 :: l1 :: l2 :: l3 :: .val (.int x) :: L) S k n H Q ↔ W (pj lw) 3 33 (l0 :: l1 :: l2 :: l3 :: .val (.int x) :: L) (.int x :: S) k n H Q := W_s (rfl : (pj lw).1 3 31 = some (.iload 4, 2, 0)) rfl rfl rfl
theorem w3_33 {x y : Int32} : W (pj lw) 3 33 L (.int y :: .int x :: S) k n H Q ↔ (if x < y then W (pj lw) 3 36 L S k n H Q else W (pj lw) 3 164 L S k n H Q) := W_icmp_ge (rfl : (pj lw).1 3 33 = some (.if_icmp .ge 131, 3, 0)) rfl
theorem w3_36 {x : Nat} : W (pj lw) 3 36 (.val (.ref x) :: L) S k n H Q ↔ W (pj lw) 3 37 (.val (.ref x) :: L) (.ref x :: S) k n H Q := W_s (rfl : (pj lw).1 3 36 = some (.aload_n 0, 1, 0)) rfl rfl rfl
theorem w3_37 {a : Nat} : W (pj lw) 3 37 L (.ref a :: S) k n H Q ↔ (isO H a = true ∧ W (pj lw) 3 40 L (fld H a 4 :: S) k n H Q) := W_getf (rfl : (pj lw).1 3 37 = some (.getfield 63, 3, 4))
theorem w3_40 : W (pj lw) 3 40 L S k n H Q ↔ W (pj lw) 3 42 L (.int 32 :: S) k n H Q := W_s (rfl : (pj lw).1 3 40 = some (.bipush 32, 2, 0)) rfl rfl rfl
theorem w3_42 {x y : Int32} : W (pj lw) 3 42 L (.int y :: .int x :: S) k n H Q ↔ (if x < y then W (pj lw) 3 48 L S k n H Q else W (pj lw) 3 45 L S k n H Q) := W_icmp_lt (rfl : (pj lw).1 3 42 = some (.if_icmp .lt 6, 3, 0)) rfl
theorem w3_45 : W (pj lw) 3 45 L S k n H Q ↔ W (pj lw) 3 164 L S k n H Q := W_goto (rfl : (pj lw).1 3 45 = some (.goto 119, 3, 0)) rfl
theorem w3_48 {x : Int32} {l0 l1 l2 l3 l4 l5 : Slot} : W (pj lw) 3 48 (l0 :: l1 :: l2 :: l3 :: l4 :: l5 :: .val (.int x) :: L) S k n H Q ↔ W (pj lw) 3 50 (l0 :: l1 :: l2 :: l3 :: l4 :: l5 :: .val (.int x) :: L) (.int x :: S) k n H Q := W_s (rfl : (pj lw).1 3 48 = some (.iload 6, 2, 0)) rfl rfl rfl
theorem w3_50 : W (pj lw) 3 50 L S k n H Q ↔ W (pj lw) 3 52 L (.int 1103515245 :: S) k n H Q := W_s (rfl : (pj lw).1 3 50 = some (.ldc 69, 2, 1103515245)) rfl rfl rfl
theorem w3_52 {x y : Int32} : W (pj lw) 3 52 L (.int y :: .int x :: S) k n H Q ↔ W (pj lw) 3 53 L (.int (x * y) :: S) k n H Q := W_s (rfl : (pj lw).1 3 52 = some (.imul, 1, 0)) rfl rfl rfl
theorem w3_53 : W (pj lw) 3 53 L S k n H Q ↔ W (pj lw) 3 56 L (.int 12345 :: S) k n H Q := W_s (rfl : (pj lw).1 3 53 = some (.sipush 12345, 3, 0)) rfl rfl rfl
theorem w3_56 {x y : Int32} : W (pj lw) 3 56 L (.int y :: .int x :: S) k n H Q ↔ W (pj lw) 3 57 L (.int (x + y) :: S) k n H Q := W_s (rfl : (pj lw).1 3 56 = some (.iadd, 1, 0)) rfl rfl rfl
theorem w3_57i {y : Int32} {x : Int32} {l0 l1 l2 l3 l4 l5 : Slot} : W (pj lw) 3 57 (l0 :: l1 :: l2 :: l3 :: l4 :: l5 :: .val (.int y) :: L) (.int x :: S) k n H Q ↔ W (pj lw) 3 59 (l0 :: l1 :: l2 :: l3 :: l4 :: l5 :: .val (.int x) :: L) S k n H Q := W_ist (rfl : (pj lw).1 3 57 = some (.istore 6, 2, 0)) rfl rfl
theorem w3_59 {x : Int32} {l0 l1 l2 l3 l4 l5 : Slot} : W (pj lw) 3 59 (l0 :: l1 :: l2 :: l3 :: l4 :: l5 :: .val (.int x) :: L) S k n H Q ↔ W (pj lw) 3 61 (l0 :: l1 :: l2 :: l3 :: l4 :: l5 :: .val (.int x) :: L) (.int x :: S) k n H Q := W_s (rfl : (pj lw).1 3 59 = some (.iload 6, 2, 0)) rfl rfl rfl
theorem w3_61 : W (pj lw) 3 61 L S k n H Q ↔ W (pj lw) 3 63 L (.int 16 :: S) k n H Q := W_s (rfl : (pj lw).1 3 61 = some (.bipush 16, 2, 0)) rfl rfl rfl
theorem w3_63 {x y : Int32} : W (pj lw) 3 63 L (.int y :: .int x :: S) k n H Q ↔ W (pj lw) 3 64 L (.int (Jvm.Free.XT.ushr x y) :: S) k n H Q := W_s (rfl : (pj lw).1 3 63 = some (.iushr, 1, 0)) rfl rfl rfl
theorem w3_64 : W (pj lw) 3 64 L S k n H Q ↔ W (pj lw) 3 67 L (.int 32767 :: S) k n H Q := W_s (rfl : (pj lw).1 3 64 = some (.sipush 32767, 3, 0)) rfl rfl rfl
theorem w3_67 {x y : Int32} : W (pj lw) 3 67 L (.int y :: .int x :: S) k n H Q ↔ W (pj lw) 3 68 L (.int (x &&& y) :: S) k n H Q := W_s (rfl : (pj lw).1 3 67 = some (.iand, 1, 0)) rfl rfl rfl
theorem w3_68i {y : Int32} {x : Int32} {l0 l1 l2 l3 l4 l5 l6 l7 l8 : Slot} : W (pj lw) 3 68 (l0 :: l1 :: l2 :: l3 :: l4 :: l5 :: l6 :: l7 :: l8 :: .val (.int y) :: L) (.int x :: S) k n H Q ↔ W (pj lw) 3 70 (l0 :: l1 :: l2 :: l3 :: l4 :: l5 :: l6 :: l7 :: l8 :: .val (.int x) :: L) S k n H Q := W_ist (rfl : (pj lw).1 3 68 = some (.istore 9, 2, 0)) rfl rfl
theorem w3_68 {x : Int32} {l0 l1 l2 l3 l4 l5 l6 l7 l8 : Slot} : W (pj lw) 3 68 (l0 :: l1 :: l2 :: l3 :: l4 :: l5 :: l6 :: l7 :: l8 :: .unset :: L) (.int x :: S) k n H Q ↔ W (pj lw) 3 70 (l0 :: l1 :: l2 :: l3 :: l4 :: l5 :: l6 :: l7 :: l8 :: .val (.int x) :: L) S k n H Q := W_ist (rfl : (pj lw).1 3 68 = some (.istore 9, 2, 0)) rfl rfl
theorem w3_70 {x : Int32} {l0 l1 l2 l3 l4 l5 : Slot} : W (pj lw) 3 70 (l0 :: l1 :: l2 :: l3 :: l4 :: l5 :: .val (.int x) :: L) S k n H Q ↔ W (pj lw) 3 72 (l0 :: l1 :: l2 :: l3 :: l4 :: l5 :: .val (.int x) :: L) (.int x :: S) k n H Q := W_s (rfl : (pj lw).1 3 70 = some (.iload 6, 2, 0)) rfl rfl rfl
theorem w3_72 : W (pj lw) 3 72 L S k n H Q ↔ W (pj lw) 3 74 L (.int 1103515245 :: S) k n H Q := W_s (rfl : (pj lw).1 3 72 = some (.ldc 69, 2, 1103515245)) rfl rfl rfl
theorem w3_74 {x y : Int32} : W (pj lw) 3 74 L (.int y :: .int x :: S) k n H Q ↔ W (pj lw) 3 75 L (.int (x * y) :: S) k n H Q := W_s (rfl : (pj lw).1 3 74 = some (.imul, 1, 0)) rfl rfl rfl
theorem w3_75 : W (pj lw) 3 75 L S k n H Q ↔ W (pj lw) 3 78 L (.int 12345 :: S) k n H Q := W_s (rfl : (pj lw).1 3 75 = some (.sipush 12345, 3, 0)) rfl rfl rfl
theorem w3_78 {x y : Int32} : W (pj lw) 3 78 L (.int y :: .int x :: S) k n H Q ↔ W (pj lw) 3 79 L (.int (x + y) :: S) k n H Q := W_s (rfl : (pj lw).1 3 78 = some (.iadd, 1, 0)) rfl rfl rfl
theorem w3_79i {y : Int32} {x : Int32} {l0 l1 l2 l3 l4 l5 : Slot} : W (pj lw) 3 79 (l0 :: l1 :: l2 :: l3 :: l4 :: l5 :: .val (.int y) :: L) (.int x :: S) k n H Q ↔ W (pj lw) 3 81 (l0 :: l1 :: l2 :: l3 :: l4 :: l5 :: .val (.int x) :: L) S k n H Q := W_ist (rfl : (pj lw).1 3 79 = some (.istore 6, 2, 0)) rfl rfl
theorem w3_81 {x : Int32} {l0 l1 l2 l3 l4 l5 : Slot} : W (pj lw) 3 81 (l0 :: l1 :: l2 :: l3 :: l4 :: l5 :: .val (.int x) :: L) S k n H Q ↔ W (pj lw) 3 83 (l0 :: l1 :: l2 :: l3 :: l4 :: l5 :: .val (.int x) :: L) (.int x :: S) k n H Q := W_s (rfl : (pj lw).1 3 81 = some (.iload 6, 2, 0)) rfl rfl rfl
theorem w3_83 : W (pj lw) 3 83 L S k n H Q ↔ W (pj lw) 3 85 L (.int 16 :: S) k n H Q := W_s (rfl : (pj lw).1 3 83 = some (.bipush 16, 2, 0)) rfl rfl rfl
theorem w3_85 {x y : Int32} : W (pj lw) 3 85 L (.int y :: .int x :: S) k n H Q ↔ W (pj lw) 3 86 L (.int (Jvm.Free.XT.ushr x y) :: S) k n H Q := W_s (rfl : (pj lw).1 3 85 = some (.iushr, 1, 0)) rfl rfl rfl
theorem w3_86 : W (pj lw) 3 86 L S k n H Q ↔ W (pj lw) 3 89 L (.int 32767 :: S) k n H Q := W_s (rfl : (pj lw).1 3 86 = some (.sipush 32767, 3, 0)) rfl rfl rfl
theorem w3_89 {x y : Int32} : W (pj lw) 3 89 L (.int y :: .int x :: S) k n H Q ↔ W (pj lw) 3 90 L (.int (x &&& y) :: S) k n H Q := W_s (rfl : (pj lw).1 3 89 = some (.iand, 1, 0)) rfl rfl rfl
theorem w3_90i {y : Int32} {x : Int32} {l0 l1 l2 l3 l4 l5 l6 l7 l8 l9 : Slot} : W (pj lw) 3 90 (l0 :: l1 :: l2 :: l3 :: l4 :: l5 :: l6 :: l7 :: l8 :: l9 :: .val (.int y) :: L) (.int x :: S) k n H Q ↔ W (pj lw) 3 92 (l0 :: l1 :: l2 :: l3 :: l4 :: l5 :: l6 :: l7 :: l8 :: l9 :: .val (.int x) :: L) S k n H Q := W_ist (rfl : (pj lw).1 3 90 = some (.istore 10, 2, 0)) rfl rfl
theorem w3_90 {x : Int32} {l0 l1 l2 l3 l4 l5 l6 l7 l8 l9 : Slot} : W (pj lw) 3 90 (l0 :: l1 :: l2 :: l3 :: l4 :: l5 :: l6 :: l7 :: l8 :: l9 :: .unset :: L) (.int x :: S) k n H Q ↔ W (pj lw) 3 92 (l0 :: l1 :: l2 :: l3 :: l4 :: l5 :: l6 :: l7 :: l8 :: l9 :: .val (.int x) :: L) S k n H Q := W_ist (rfl : (pj lw).1 3 90 = some (.istore 10, 2, 0)) rfl rfl
theorem w3_92 {x : Int32} {l0 l1 l2 l3 l4 l5 l6 l7 l8 : Slot} : W (pj lw) 3 92 (l0 :: l1 :: l2 :: l3 :: l4 :: l5 :: l6 :: l7 :: l8 :: .val (.int x) :: L) S k n H Q ↔ W (pj lw) 3 94 (l0 :: l1 :: l2 :: l3 :: l4 :: l5 :: l6 :: l7 :: l8 :: .val (.int x) :: L) (.int x :: S) k n H Q := W_s (rfl : (pj lw).1 3 92 = some (.iload 9, 2, 0)) rfl rfl rfl
theorem w3_94 {x : Nat} : W (pj lw) 3 94 (.val (.ref x) :: L) S k n H Q ↔ W (pj lw) 3 95 (.val (.ref x) :: L) (.ref x :: S) k n H Q := W_s (rfl : (pj lw).1 3 94 = some (.aload_n 0, 1, 0)) rfl rfl rfl
theorem w3_95 {a : Nat} : W (pj lw) 3 95 L (.ref a :: S) k n H Q ↔ (isO H a = true ∧ W (pj lw) 3 98 L (fld H a 1 :: S) k n H Q) := W_getf (rfl : (pj lw).1 3 95 = some (.getfield 57, 3, 1))
theorem w3_98 {x y : Int32} : W (pj lw) 3 98 L (.int y :: .int x :: S) k n H Q ↔ (¬ y = 0 ∧ W (pj lw) 3 99 L (.int (x % y) :: S) k n H Q) := W_irem (rfl : (pj lw).1 3 98 = some (.irem, 1, 0))
theorem w3_99i {y : Int32} {x : Int32} {l0 l1 l2 l3 l4 l5 l6 l7 l8 l9 l10 : Slot} : W (pj lw) 3 99 (l0 :: l1 :: l2 :: l3 :: l4 :: l5 :: l6 :: l7 :: l8 :: l9 :: l10 :: .val (.int y) :: L) (.int x :: S) k n H Q ↔ W (pj lw) 3 101 (l0 :: l1 :: l2 :: l3 :: l4 :: l5 :: l6 :: l7 :: l8 :: l9 :: l10 :: .val (.int x) :: L) S k n H Q := W_ist (rfl : (pj lw).1 3 99 = some (.istore 11, 2, 0)) rfl rfl
theorem w3_99 {x : Int32} {l0 l1 l2 l3 l4 l5 l6 l7 l8 l9 l10 : Slot} : W (pj lw) 3 99 (l0 :: l1 :: l2 :: l3 :: l4 :: l5 :: l6 :: l7 :: l8 :: l9 :: l10 :: .unset :: L) (.int x :: S) k n H Q ↔ W (pj lw) 3 101 (l0 :: l1 :: l2 :: l3 :: l4 :: l5 :: l6 :: l7 :: l8 :: l9 :: l10 :: .val (.int x) :: L) S k n H Q := W_ist (rfl : (pj lw).1 3 99 = some (.istore 11, 2, 0)) rfl rfl
theorem w3_101 {x : Int32} {l0 l1 l2 l3 l4 l5 l6 l7 l8 l9 : Slot} : W (pj lw) 3 101 (l0 :: l1 :: l2 :: l3 :: l4 :: l5 :: l6 :: l7 :: l8 :: l9 :: .val (.int x) :: L) S k n H Q ↔ W (pj lw) 3 103 (l0 :: l1 :: l2 :: l3 :: l4 :: l5 :: l6 :: l7 :: l8 :: l9 :: .val (.int x) :: L) (.int x :: S) k n H Q := W_s (rfl : (pj lw).1 3 101 = some (.iload 10, 2, 0)) rfl rfl rfl
theorem w3_103 {x : Nat} : W (pj lw) 3 103 (.val (.ref x) :: L) S k n H Q ↔ W (pj lw) 3 104 (.val (.ref x) :: L) (.ref x :: S) k n H Q := W_s (rfl : (pj lw).1 3 103 = some (.aload_n 0, 1, 0)) rfl rfl rfl
theorem w3_104 {a : Nat} : W (pj lw) 3 104 L (.ref a :: S) k n H Q ↔ (isO H a = true ∧ W (pj lw) 3 107 L (fld H a 1 :: S) k n H Q) := W_getf (rfl : (pj lw).1 3 104 = some (.getfield 57, 3, 1))
theorem w3_107 : W (pj lw) 3 107 L S k n H Q ↔ W (pj lw) 3 108 L (.int 1 :: S) k n H Q := W_s (rfl : (pj lw).1 3 107 = some (.iconst 1, 1, 0)) rfl rfl rfl
theorem w3_108 {x y : Int32} : W (pj lw) 3 108 L (.int y :: .int x :: S) k n H Q ↔ W (pj lw) 3 109 L (.int (x - y) :: S) k n H Q := W_s (rfl : (pj lw).1 3 108 = some (.isub, 1, 0)) rfl rfl rfl
theorem w3_109 {x y : Int32} : W (pj lw) 3 109 L (.int y :: .int x :: S) k n H Q ↔ (¬ y = 0 ∧ W (pj lw) 3 110 L (.int (x % y) :: S) k n H Q) := W_irem (rfl : (pj lw).1 3 109 = some (.irem, 1, 0))
theorem w3_110i {y : Int32} {x : Int32} {l0 l1 l2 l3 l4 l5 l6 l7 l8 l9 l10 l11 : Slot} : W (pj lw) 3 110 (l0 :: l1 :: l2 :: l3 :: l4 :: l5 :: l6 :: l7 :: l8 :: l9 :: l10 :: l11 :: .val (.int y) :: L) (.int x :: S) k n H Q ↔ W (pj lw) 3 112 (l0 :: l1 :: l2 :: l3 :: l4 :: l5 :: l6 :: l7 :: l8 :: l9 :: l10 :: l11 :: .val (.int x) :: L) S k n H Q := W_ist (rfl : (pj lw).1 3 110 = some (.istore 12, 2, 0)) rfl rfl
theorem w3_110 {x : Int32} {l0 l1 l2 l3 l4 l5 l6 l7 l8 l9 l10 l11 : Slot} : W (pj lw) 3 110 (l0 :: l1 :: l2 :: l3 :: l4 :: l5 :: l6 :: l7 :: l8 :: l9 :: l10 :: l11 :: .unset :: L) (.int x :: S) k n H Q ↔ W (pj lw) 3 112 (l0 :: l1 :: l2 :: l3 :: l4 :: l5 :: l6 :: l7 :: l8 :: l9 :: l10 :: l11 :: .val (.int x) :: L) S k n H Q := W_ist (rfl : (pj lw).1 3 110 = some (.istore 12, 2, 0)) rfl rfl
theorem w3_112 {x : Int32} {l0 l1 l2 l3 l4 l5 l6 l7 l8 l9 l10 l11 : Slot} : W (pj lw) 3 112 (l0 :: l1 :: l2 :: l3 :: l4 :: l5 :: l6 :: l7 :: l8 :: l9 :: l10 :: l11 :: .val (.int x) :: L) S k n H Q ↔ W (pj lw) 3 114 (l0 :: l1 :: l2 :: l3 :: l4 :: l5 :: l6 :: l7 :: l8 :: l9 :: l10 :: l11 :: .val (.int x) :: L) (.int x :: S) k n H Q := W_s (rfl : (pj lw).1 3 112 = some (.iload 12, 2, 0)) rfl rfl rfl
theorem w3_114 {x : Int32} {l0 l1 l2 l3 l4 l5 l6 l7 l8 l9 l10 : Slot} : W (pj lw) 3 114 (l0 :: l1 :: l2 :: l3 :: l4 :: l5 :: l6 :: l7 :: l8 :: l9 :: l10 :: .val (.int x) :: L) S k n H Q ↔ W (pj lw) 3 116 (l0 :: l1 :: l2 :: l3 :: l4 :: l5 :: l6 :: l7 :: l8 :: l9 :: l10 :: .val (.int x) :: L) (.int x :: S) k n H Q := W_s (rfl : (pj lw).1 3 114 = some (.iload 11, 2, 0)) rfl rfl rfl
theorem w3_116 {x y : Int32} : W (pj lw) 3 116 L (.int y :: .int x :: S) k n H Q ↔ (if x < y then W (pj lw) 3 126 L S k n H Q else W (pj lw) 3 119 L S k n H Q) := W_icmp_lt (rfl : (pj lw).1 3 116 = some (.if_icmp .lt 10, 3, 0)) rfl
theorem w3_119 {x : Int32} {l0 l1 l2 l3 l4 l5 l6 l7 l8 l9 l10 l11 : Slot} : W (pj lw) 3 119 (l0 :: l1 :: l2 :: l3 :: l4 :: l5 :: l6 :: l7 :: l8 :: l9 :: l10 :: l11 :: .val (.int x) :: L) S k n H Q ↔ W (pj lw) 3 121 (l0 :: l1 :: l2 :: l3 :: l4 :: l5 :: l6 :: l7 :: l8 :: l9 :: l10 :: l11 :: .val (.int x) :: L) (.int x :: S) k n H Q := W_s (rfl : (pj lw).1 3 119 = some (.iload 12, 2, 0)) rfl rfl rfl
theorem w3_121 : W (pj lw) 3 121 L S k n H Q ↔ W (pj lw) 3 122 L (.int 1 :: S) k n H Q := W_s (rfl : (pj lw).1 3 121 = some (.iconst 1, 1, 0)) rfl rfl rfl
theorem w3_122 {x y : Int32} : W (pj lw) 3 122 L (.int y :: .int x :: S) k n H Q ↔ W (pj lw) 3 123 L (.int (x + y) :: S) k n H Q := W_s (rfl : (pj lw).1 3 122 = some (.iadd, 1, 0)) rfl rfl rfl
theorem w3_123 : W (pj lw) 3 123 L S k n H Q ↔ W (pj lw) 3 128 L S k n H Q := W_goto (rfl : (pj lw).1 3 123 = some (.goto 5, 3, 0)) rfl
theorem w3_126 {x : Int32} {l0 l1 l2 l3 l4 l5 l6 l7 l8 l9 l10 l11 : Slot} : W (pj lw) 3 126 (l0 :: l1 :: l2 :: l3 :: l4 :: l5 :: l6 :: l7 :: l8 :: l9 :: l10 :: l11 :: .val (.int x) :: L) S k n H Q ↔ W (pj lw) 3 128 (l0 :: l1 :: l2 :: l3 :: l4 :: l5 :: l6 :: l7 :: l8 :: l9 :: l10 :: l11 :: .val (.int x) :: L) (.int x :: S) k n H Q := W_s (rfl : (pj lw).1 3 126 = some (.iload 12, 2, 0)) rfl rfl rfl
theorem w3_128i {y : Int32} {x : Int32} {l0 l1 l2 l3 l4 l5 l6 l7 l8 l9 l10 l11 l12 : Slot} : W (pj lw) 3 128 (l0 :: l1 :: l2 :: l3 :: l4 :: l5 :: l6 :: l7 :: l8 :: l9 :: l10 :: l11 :: l12 :: .val (.int y) :: L) (.int x :: S) k n H Q ↔ W (pj lw) 3 130 (l0 :: l1 :: l2 :: l3 :: l4 :: l5 :: l6 :: l7 :: l8 :: l9 :: l10 :: l11 :: l12 :: .val (.int x) :: L) S k n H Q := W_ist (rfl : (pj lw).1 3 128 = some (.istore 13, 2, 0)) rfl rfl
theorem w3_128 {x : Int32} {l0 l1 l2 l3 l4 l5 l6 l7 l8 l9 l10 l11 l12 : Slot} : W (pj lw) 3 128 (l0 :: l1 :: l2 :: l3 :: l4 :: l5 :: l6 :: l7 :: l8 :: l9 :: l10 :: l11 :: l12 :: .unset :: L) (.int x :: S) k n H Q ↔ W (pj lw) 3 130 (l0 :: l1 :: l2 :: l3 :: l4 :: l5 :: l6 :: l7 :: l8 :: l9 :: l10 :: l11 :: l12 :: .val (.int x) :: L) S k n H Q := W_ist (rfl : (pj lw).1 3 128 = some (.istore 13, 2, 0)) rfl rfl
theorem w3_130 {x : Nat} : W (pj lw) 3 130 (.val (.ref x) :: L) S k n H Q ↔ W (pj lw) 3 131 (.val (.ref x) :: L) (.ref x :: S) k n H Q := W_s (rfl : (pj lw).1 3 130 = some (.aload_n 0, 1, 0)) rfl rfl rfl
theorem w3_131 {x : Nat} : W (pj lw) 3 131 (.val (.ref x) :: L) S k n H Q ↔ W (pj lw) 3 132 (.val (.ref x) :: L) (.ref x :: S) k n H Q := W_s (rfl : (pj lw).1 3 131 = some (.aload_n 0, 1, 0)) rfl rfl rfl
theorem w3_132 {a : Nat} : W (pj lw) 3 132 L (.ref a :: S) k n H Q ↔ (isO H a = true ∧ W (pj lw) 3 135 L (fld H a 3 :: S) k n H Q) := W_getf (rfl : (pj lw).1 3 132 = some (.getfield 66, 3, 3))
theorem w3_135 {x : Int32} {l0 l1 l2 l3 l4 l5 l6 l7 : Slot} : W (pj lw) 3 135 (l0 :: l1 :: l2 :: l3 :: l4 :: l5 :: l6 :: l7 :: .val (.int x) :: L) S k n H Q ↔ W (pj lw) 3 137 (l0 :: l1 :: l2 :: l3 :: l4 :: l5 :: l6 :: l7 :: .val (.int x) :: L) (.int x :: S) k n H Q := W_s (rfl : (pj lw).1 3 135 = some (.iload 8, 2, 0)) rfl rfl rfl
theorem w3_137 {x : Int32} {l0 l1 l2 l3 l4 : Slot} : W (pj lw) 3 137 (l0 :: l1 :: l2 :: l3 :: l4 :: .val (.int x) :: L) S k n H Q ↔ W (pj lw) 3 139 (l0 :: l1 :: l2 :: l3 :: l4 :: .val (.int x) :: L) (.int x :: S) k n H Q := W_s (rfl : (pj lw).1 3 137 = some (.iload 5, 2, 0)) rfl rfl rfl
theorem w3_139 {x y : Int32} : W (pj lw) 3 139 L (.int y :: .int x :: S) k n H Q ↔ W (pj lw) 3 140 L (.int (x * y) :: S) k n H Q := W_s (rfl : (pj lw).1 3 139 = some (.imul, 1, 0)) rfl rfl rfl
theorem w3_140 {x y : Int32} : W (pj lw) 3 140 L (.int y :: .int x :: S) k n H Q ↔ W (pj lw) 3 141 L (.int (x + y) :: S) k n H Q := W_s (rfl : (pj lw).1 3 140 = some (.iadd, 1, 0)) rfl rfl rfl
theorem w3_141 {x : Int32} {l0 l1 l2 l3 l4 l5 l6 l7 l8 l9 l10 : Slot} : W (pj lw) 3 141 (l0 :: l1 :: l2 :: l3 :: l4 :: l5 :: l6 :: l7 :: l8 :: l9 :: l10 :: .val (.int x) :: L) S k n H Q ↔ W (pj lw) 3 143 (l0 :: l1 :: l2 :: l3 :: l4 :: l5 :: l6 :: l7 :: l8 :: l9 :: l10 :: .val (.int x) :: L) (.int x :: S) k n H Q := W_s (rfl : (pj lw).1 3 141 = some (.iload 11, 2, 0)) rfl rfl rfl
theorem w3_143 {x : Int32} {l0 l1 l2 l3 l4 l5 l6 l7 l8 l9 l10 l11 l12 : Slot} : W (pj lw) 3 143 (l0 :: l1 :: l2 :: l3 :: l4 :: l5 :: l6 :: l7 :: l8 :: l9 :: l10 :: l11 :: l12 :: .val (.int x) :: L) S k n H Q ↔ W (pj lw) 3 145 (l0 :: l1 :: l2 :: l3 :: l4 :: l5 :: l6 :: l7 :: l8 :: l9 :: l10 :: l11 :: l12 :: .val (.int x) :: L) (.int x :: S) k n H Q := W_s (rfl : (pj lw).1 3 143 = some (.iload 13, 2, 0)) rfl rfl rfl
theorem w3_145 {a : Nat} {x0 : Int32} {x1 : Int32} {x2 : Int32} : W (pj lw) 3 145 L (.int x2 :: .int x1 :: .int x0 :: .ref a :: S) k n H Q ↔ ((isO H a = true ∧ cs S + (5 + 11) + 0 ≤ 16) ∧ Cl (pj lw) 2 [.ref a, .int x0, .int x1, .int x2] H (fun v H => W (pj lw) 3 148 L (v.toList ++ S) k n H Q)) := W_inst (as := [.int x0, .int x1, .int x2]) (rfl : (pj lw).1 3 145 = some (.invokevirtual 70, 3, 2)) rfl rfl rfl (Nat.le_of_ble_eq_true rfl) (Nat.le_of_ble_eq_true rfl) ⟨rfl, rfl⟩
theorem w3_148i {y : Int32} {x : Int32} {l0 l1 l2 l3 l4 l5 l6 l7 l8 l9 l10 l11 l12 l13 : Slot} : W (pj lw) 3 148 (l0 :: l1 :: l2 :: l3 :: l4 :: l5 :: l6 :: l7 :: l8 :: l9 :: l10 :: l11 :: l12 :: l13 :: .val (.int y) :: L) (.int x :: S) k n H Q ↔ W (pj lw) 3 150 (l0 :: l1 :: l2 :: l3 :: l4 :: l5 :: l6 :: l7 :: l8 :: l9 :: l10 :: l11 :: l12 :: l13 :: .val (.int x) :: L) S k n H Q := W_ist (rfl : (pj lw).1 3 148 = some (.istore 14, 2, 0)) rfl rfl
theorem w3_148 {x : Int32} {l0 l1 l2 l3 l4 l5 l6 l7 l8 l9 l10 l11 l12 l13 : Slot} : W (pj lw) 3 148 (l0 :: l1 :: l2 :: l3 :: l4 :: l5 :: l6 :: l7 :: l8 :: l9 :: l10 :: l11 :: l12 :: l13 :: .unset :: L) (.int x :: S) k n H Q ↔ W (pj lw) 3 150 (l0 :: l1 :: l2 :: l3 :: l4 :: l5 :: l6 :: l7 :: l8 :: l9 :: l10 :: l11 :: l12 :: l13 :: .val (.int x) :: L) S k n H Q := W_ist (rfl : (pj lw).1 3 148 = some (.istore 14, 2, 0)) rfl rfl
theorem w3_150 {x : Int32} {l0 l1 l2 l3 l4 l5 l6 l7 l8 l9 l10 l11 l12 l13 : Slot} : W (pj lw) 3 150 (l0 :: l1 :: l2 :: l3 :: l4 :: l5 :: l6 :: l7 :: l8 :: l9 :: l10 :: l11 :: l12 :: l13 :: .val (.int x) :: L) S k n H Q ↔ W (pj lw) 3 152 (l0 :: l1 :: l2 :: l3 :: l4 :: l5 :: l6 :: l7 :: l8 :: l9 :: l10 :: l11 :: l12 :: l13 :: .val (.int x) :: L) (.int x :: S) k n H Q := W_s (rfl : (pj lw).1 3 150 = some (.iload 14, 2, 0)) rfl rfl rfl
theorem w3_152 {x : Int32} : W (pj lw) 3 152 L (.int x :: S) k n H Q ↔ (if x < 0 then W (pj lw) 3 158 L S k n H Q else W (pj lw) 3 155 L S k n H Q) := W_if_lt (rfl : (pj lw).1 3 152 = some (.ifCond .lt 6, 3, 0)) rfl
theorem w3_155 {x : Int32} {l0 l1 l2 l3 l4 l5 l6 : Slot} : W (pj lw) 3 155 (l0 :: l1 :: l2 :: l3 :: l4 :: l5 :: l6 :: .val (.int x) :: L) S k n H Q ↔ W (pj lw) 3 158 (l0 :: l1 :: l2 :: l3 :: l4 :: l5 :: l6 :: .val (.int (x + 1)) :: L) S k n H Q := W_s (rfl : (pj lw).1 3 155 = some (.iinc 7 1, 3, 0)) rfl rfl rfl
theorem w3_158 {x : Int32} {l0 l1 l2 l3 l4 l5 l6 l7 : Slot} : W (pj lw) 3 158 (l0 :: l1 :: l2 :: l3 :: l4 :: l5 :: l6 :: l7 :: .val (.int x) :: L) S k n H Q ↔ W (pj lw) 3 161 (l0 :: l1 :: l2 :: l3 :: l4 :: l5 :: l6 :: l7 :: .val (.int (x + 1)) :: L) S k n H Q := W_s (rfl : (pj lw).1 3 158 = some (.iinc 8 1, 3, 0)) rfl rfl rfl
theorem w3_161 : W (pj lw) 3 161 L S k n H Q ↔ W (pj lw) 3 29 L S k n H Q := W_goto (rfl : (pj lw).1 3 161 = some (.goto (-132), 3, 0)) rfl
theorem w3_164 {x : Int32} {l0 l1 l2 l3 l4 l5 l6 : Slot} : W (pj lw) 3 164 (l0 :: l1 :: l2 :: l3 :: l4 :: l5 :: l6 :: .val (.int x) :: L) S k n H Q ↔ W (pj lw) 3 166 (l0 :: l1 :: l2 :: l3 :: l4 :: l5 :: l6 :: .val (.int x) :: L) (.int x :: S) k n H Q := W_s (rfl : (pj lw).1 3 164 = some (.iload 7, 2, 0)) rfl rfl rfl
theorem w3_166 {x : Int32} : W (pj lw) 3 166 L (.int x :: S) k n H Q ↔ Q (some (.int x)) H := W_r (rfl : (pj lw).1 3 166 = some (.ireturn, 1, 0)) rfl
theorem c4 {x0 : Nat} {x1 : Int32} : Cl (pj lw) 4 [.ref x0, .int x1] H Q ↔ W (pj lw) 4 0 [.val (.ref x0), .val (.int x1), .unset, .unset] [] 0 0 H Q := cl_unf rfl
theorem w4_0 {x : Nat} : W (pj lw) 4 0 (.val (.ref x) :: L) S k n H Q ↔ W (pj lw) 4 1 (.val (.ref x) :: L) (.ref x :: S) k n H Q := W_s (rfl : (pj lw).1 4 0 = some (.aload_n 0, 1, 0)) rfl rfl rfl
theorem w4_1 {x : Int32} {l0 : Slot} : W (pj lw) 4 1 (l0 :: .val (.int x) :: L) S k n H Q ↔ W (pj lw) 4 2 (l0 :: .val (.int x) :: L) (.int x :: S) k n H Q := W_s (rfl : (pj lw).1 4 1 = some (.iload_n 1, 1, 0)) rfl rfl rfl
theorem w4_2 : W (pj lw) 4 2 L S k n H Q ↔ W (pj lw) 4 3 L (.int 1 :: S) k n H Q := W_s (rfl : (pj lw).1 4 2 = some (.iconst 1, 1, 0)) rfl rfl rfl
theorem w4_3 : W (pj lw) 4 3 L S k n H Q ↔ W (pj lw) 4 5 L (.int 32 :: S) k n H Q := W_s (rfl : (pj lw).1 4 3 = some (.bipush 32, 2, 0)) rfl rfl rfl
theorem w4_5 {a : Nat} {x0 : Int32} {x1 : Int32} {x2 : Int32} : W (pj lw) 4 5 L (.int x2 :: .int x1 :: .int x0 :: .ref a :: S) k n H Q ↔ ((isO H a = true ∧ cs S + (4 + 11) + 0 ≤ 132) ∧ Cl (pj lw) 15 [.ref a, .int x0, .int x1, .int x2] H (fun v H => W (pj lw) 4 8 L (v.toList ++ S) k n H Q)) := W_inst (as := [.int x0, .int x1, .int x2]) (rfl : (pj lw).1 4 5 = some (.invokevirtual 49, 3, 15)) rfl rfl rfl (Nat.le_of_ble_eq_true rfl) (Nat.le_of_ble_eq_true rfl) ⟨rfl, rfl⟩
theorem w4_8 {x : Int32} {l0 l1 : Slot} : W (pj lw) 4 8 (l0 :: l1 :: .unset :: L) (.int x :: S) k n H Q ↔ W (pj lw) 4 9 (l0 :: l1 :: .val (.int x) :: L) S k n H Q := W_istn (rfl : (pj lw).1 4 8 = some (.istore_n 2, 1, 0)) rfl rfl
theorem w4_9 {x : Nat} : W (pj lw) 4 9 (.val (.ref x) :: L) S k n H Q ↔ W (pj lw) 4 10 (.val (.ref x) :: L) (.ref x :: S) k n H Q := W_s (rfl : (pj lw).1 4 9 = some (.aload_n 0, 1, 0)) rfl rfl rfl
theorem w4_10 : W (pj lw) 4 10 L S k n H Q ↔ W (pj lw) 4 11 L (.int 0 :: S) k n H Q := W_s (rfl : (pj lw).1 4 10 = some (.iconst 0, 1, 0)) rfl rfl rfl
theorem w4_11 {a : Nat} {v : Value} : W (pj lw) 4 11 L (v :: .ref a :: S) k n H Q ↔ ((isOw H a = true ∧ okv (.int) v = true) ∧ W (pj lw) 4 14 L S k n (wr H a 5 v) Q) := W_putf (rfl : (pj lw).1 4 11 = some (.putfield 73, 3, 5))
theorem w4_14 : W (pj lw) 4 14 L S k n H Q ↔ W (pj lw) 4 15 L (.int 0 :: S) k n H Q := W_s (rfl : (pj lw).1 4 14 = some (.iconst 0, 1, 0)) rfl rfl rfl
theorem w4_15 {x : Int32} {l0 l1 l2 : Slot} : W (pj lw) 4 15 (l0 :: l1 :: l2 :: .unset :: L) (.int x :: S) k n H Q ↔ W (pj lw) 4 16 (l0 :: l1 :: l2 :: .val (.int x) :: L) S k n H Q := W_istn (rfl : (pj lw).1 4 15 = some (.istore_n 3, 1, 0)) rfl rfl
theorem w4_16 {x : Int32} {l0 l1 l2 : Slot} : W (pj lw) 4 16 (l0 :: l1 :: l2 :: .val (.int x) :: L) S k n H Q ↔ W (pj lw) 4 17 (l0 :: l1 :: l2 :: .val (.int x) :: L) (.int x :: S) k n H Q := W_s (rfl : (pj lw).1 4 16 = some (.iload_n 3, 1, 0)) rfl rfl rfl
theorem w4_17 {x : Int32} {l0 l1 : Slot} : W (pj lw) 4 17 (l0 :: l1 :: .val (.int x) :: L) S k n H Q ↔ W (pj lw) 4 18 (l0 :: l1 :: .val (.int x) :: L) (.int x :: S) k n H Q := W_s (rfl : (pj lw).1 4 17 = some (.iload_n 2, 1, 0)) rfl rfl rfl
theorem w4_18 {x y : Int32} : W (pj lw) 4 18 L (.int y :: .int x :: S) k n H Q ↔ (if x < y then W (pj lw) 4 21 L S k n H Q else W (pj lw) 4 31 L S k n H Q) := W_icmp_ge (rfl : (pj lw).1 4 18 = some (.if_icmp .ge 13, 3, 0)) rfl
theorem w4_21 {x : Nat} : W (pj lw) 4 21 (.val (.ref x) :: L) S k n H Q ↔ W (pj lw) 4 22 (.val (.ref x) :: L) (.ref x :: S) k n H Q := W_s (rfl : (pj lw).1 4 21 = some (.aload_n 0, 1, 0)) rfl rfl rfl
theorem w4_22 {a : Nat} : W (pj lw) 4 22 L (.ref a :: S) k n H Q ↔ ((isO H a = true ∧ cs S + (2 + 11) + 119 ≤ 132) ∧ Cl (pj lw) 26 [.ref a] H (fun v H => W (pj lw) 4 25 L (v.toList ++ S) k n H Q)) := W_inst (as := []) (rfl : (pj lw).1 4 22 = some (.invokevirtual 76, 3, 26)) rfl rfl rfl (Nat.le_of_ble_eq_true rfl) (Nat.le_of_ble_eq_true rfl) ⟨rfl, rfl⟩
theorem w4_25 {x : Int32} {l0 l1 l2 : Slot} : W (pj lw) 4 25 (l0 :: l1 :: l2 :: .val (.int x) :: L) S k n H Q ↔ W (pj lw) 4 28 (l0 :: l1 :: l2 :: .val (.int (x + 1)) :: L) S k n H Q := W_s (rfl : (pj lw).1 4 25 = some (.iinc 3 1, 3, 0)) rfl rfl rfl
theorem w4_28 : W (pj lw) 4 28 L S k n H Q ↔ W (pj lw) 4 16 L S k n H Q := W_goto (rfl : (pj lw).1 4 28 = some (.goto (-12), 3, 0)) rfl
theorem w4_31 {x : Nat} : W (pj lw) 4 31 (.val (.ref x) :: L) S k n H Q ↔ W (pj lw) 4 32 (.val (.ref x) :: L) (.ref x :: S) k n H Q := W_s (rfl : (pj lw).1 4 31 = some (.aload_n 0, 1, 0)) rfl rfl rfl
theorem w4_32 {a : Nat} : W (pj lw) 4 32 L (.ref a :: S) k n H Q ↔ (isO H a = true ∧ W (pj lw) 4 35 L (fld H a 5 :: S) k n H Q) := W_getf (rfl : (pj lw).1 4 32 = some (.getfield 73, 3, 5))
theorem w4_35 {x : Int32} : W (pj lw) 4 35 L (.int x :: S) k n H Q ↔ Q (some (.int x)) H := W_r (rfl : (pj lw).1 4 35 = some (.ireturn, 1, 0)) rfl
theorem c5 {x0 : Nat} : Cl (pj lw) 5 [.ref x0] H Q ↔ W (pj lw) 5 0 [.val (.ref x0)] [] 0 0 H Q := cl_unf rfl
theorem w5_0 {x : Nat} : W (pj lw) 5 0 (.val (.ref x) :: L) S k n H Q ↔ W (pj lw) 5 1 (.val (.ref x) :: L) (.ref x :: S) k n H Q := W_s (rfl : (pj lw).1 5 0 = some (.aload_n 0, 1, 0)) rfl rfl rfl
theorem w5_1 {a : Nat} : W (pj lw) 5 1 L (.ref a :: S) k n H Q ↔ (isO H a = true ∧ W (pj lw) 5 4 L (fld H a 3 :: S) k n H Q) := W_getf (rfl : (pj lw).1 5 1 = some (.getfield 66, 3, 3))
theorem w5_4 {x : Int32} : W (pj lw) 5 4 L (.int x :: S) k n H Q ↔ Q (some (.int x)) H := W_r (rfl : (pj lw).1 5 4 = some (.ireturn, 1, 0)) rfl
theorem c6 {x0 : Nat} : Cl (pj lw) 6 [.ref x0] H Q ↔ W (pj lw) 6 0 [.val (.ref x0)] [] 0 0 H Q := cl_unf rfl
theorem w6_0 {x : Nat} : W (pj lw) 6 0 (.val (.ref x) :: L) S k n H Q ↔ W (pj lw) 6 1 (.val (.ref x) :: L) (.ref x :: S) k n H Q := W_s (rfl : (pj lw).1 6 0 = some (.aload_n 0, 1, 0)) rfl rfl rfl
theorem w6_1 {a : Nat} : W (pj lw) 6 1 L (.ref a :: S) k n H Q ↔ (isO H a = true ∧ W (pj lw) 6 4 L (fld H a 4 :: S) k n H Q) := W_getf (rfl : (pj lw).1 6 1 = some (.getfield 63, 3, 4))
theorem w6_4 {x : Int32} : W (pj lw) 6 4 L (.int x :: S) k n H Q ↔ Q (some (.int x)) H := W_r (rfl : (pj lw).1 6 4 = some (.ireturn, 1, 0)) rfl
theorem c7 {x0 : Nat} : Cl (pj lw) 7 [.ref x0] H Q ↔ W (pj lw) 7 0 [.val (.ref x0), .unset, .unset] [] 0 0 H Q := cl_unf rfl
theorem w7_0 : W (pj lw) 7 0 L S k n H Q ↔ W (pj lw) 7 1 L (.int 0 :: S) k n H Q := W_s (rfl : (pj lw).1 7 0 = some (.iconst 0, 1, 0)) rfl rfl rfl
theorem w7_1 {x : Int32} {l0 : Slot} : W (pj lw) 7 1 (l0 :: .unset :: L) (.int x :: S) k n H Q ↔ W (pj lw) 7 2 (l0 :: .val (.int x) :: L) S k n H Q := W_istn (rfl : (pj lw).1 7 1 = some (.istore_n 1, 1, 0)) rfl rfl
theorem w7_2 : W (pj lw) 7 2 L S k n H Q ↔ W (pj lw) 7 3 L (.int 0 :: S) k n H Q := W_s (rfl : (pj lw).1 7 2 = some (.iconst 0, 1, 0)) rfl rfl rfl
theorem w7_3 {x : Int32} {l0 l1 : Slot} : W (pj lw) 7 3 (l0 :: l1 :: .unset :: L) (.int x :: S) k n H Q ↔ W (pj lw) 7 4 (l0 :: l1 :: .val (.int x) :: L) S k n H Q := W_istn (rfl : (pj lw).1 7 3 = some (.istore_n 2, 1, 0)) rfl rfl
theorem w7_4 {x : Int32} {l0 l1 : Slot} : W (pj lw) 7 4 (l0 :: l1 :: .val (.int x) :: L) S k n H Q ↔ W (pj lw) 7 5 (l0 :: l1 :: .val (.int x) :: L) (.int x :: S) k n H Q := W_s (rfl : (pj lw).1 7 4 = some (.iload_n 2, 1, 0)) rfl rfl rfl
theorem w7_5 {x : Nat} : W (pj lw) 7 5 (.val (.ref x) :: L) S k n H Q ↔ W (pj lw) 7 6 (.val (.ref x) :: L) (.ref x :: S) k n H Q := W_s (rfl : (pj lw).1 7 5 = some (.aload_n 0, 1, 0)) rfl rfl rfl
theorem w7_6 {a : Nat} : W (pj lw) 7 6 L (.ref a :: S) k n H Q ↔ (isO H a = true ∧ W (pj lw) 7 9 L (fld H a 4 :: S) k n H Q) := W_getf (rfl : (pj lw).1 7 6 = some (.getfield 63, 3, 4))
theorem w7_9 {x y : Int32} : W (pj lw) 7 9 L (.int y :: .int x :: S) k n H Q ↔ (if x < y then W (pj lw) 7 12 L S k n H Q else W (pj lw) 7 31 L S k n H Q) := W_icmp_ge (rfl : (pj lw).1 7 9 = some (.if_icmp .ge 22, 3, 0)) rfl
theorem w7_12 {x : Nat} : W (pj lw) 7 12 (.val (.ref x) :: L) S k n H Q ↔ W (pj lw) 7 13 (.val (.ref x) :: L) (.ref x :: S) k n H Q := W_s (rfl : (pj lw).1 7 12 = some (.aload_n 0, 1, 0)) rfl rfl rfl
theorem w7_13 {a : Nat} : W (pj lw) 7 13 L (.ref a :: S) k n H Q ↔ (isO H a = true ∧ W (pj lw) 7 16 L (fld H a 11 :: S) k n H Q) := W_getf (rfl : (pj lw).1 7 13 = some (.getfield 25, 3, 11))
theorem w7_16 {x : Int32} {l0 l1 : Slot} : W (pj lw) 7 16 (l0 :: l1 :: .val (.int x) :: L) S k n H Q ↔ W (pj lw) 7 17 (l0 :: l1 :: .val (.int x) :: L) (.int x :: S) k n H Q := W_s (rfl : (pj lw).1 7 16 = some (.iload_n 2, 1, 0)) rfl rfl rfl
theorem w7_17 {i : Int32} {a : Nat} : W (pj lw) 7 17 L (.int i :: .ref a :: S) k n H Q ↔ (inA H a .int i = true ∧ W (pj lw) 7 18 L (elt H a i :: S) k n H Q) := W_iaload (rfl : (pj lw).1 7 17 = some (.iaload, 1, 0))
theorem w7_18 : W (pj lw) 7 18 L S k n H Q ↔ W (pj lw) 7 19 L (.int 3 :: S) k n H Q := W_s (rfl : (pj lw).1 7 18 = some (.iconst 3, 1, 0)) rfl rfl rfl
theorem w7_19 {x y : Int32} : W (pj lw) 7 19 L (.int y :: .int x :: S) k n H Q ↔ (if x = y then W (pj lw) 7 22 L S k n H Q else W (pj lw) 7 25 L S k n H Q) := W_icmp_ne (rfl : (pj lw).1 7 19 = some (.if_icmp .ne 6, 3, 0)) rfl
theorem w7_22 {x : Int32} {l0 : Slot} : W (pj lw) 7 22 (l0 :: .val (.int x) :: L) S k n H Q ↔ W (pj lw) 7 25 (l0 :: .val (.int (x + 1)) :: L) S k n H Q := W_s (rfl : (pj lw).1 7 22 = some (.iinc 1 1, 3, 0)) rfl rfl rfl
theorem w7_25 {x : Int32} {l0 l1 : Slot} : W (pj lw) 7 25 (l0 :: l1 :: .val (.int x) :: L) S k n H Q ↔ W (pj lw) 7 28 (l0 :: l1 :: .val (.int (x + 1)) :: L) S k n H Q := W_s (rfl : (pj lw).1 7 25 = some (.iinc 2 1, 3, 0)) rfl rfl rfl
theorem w7_28 : W (pj lw) 7 28 L S k n H Q ↔ W (pj lw) 7 4 L S k n H Q := W_goto (rfl : (pj lw).1 7 28 = some (.goto (-24), 3, 0)) rfl
theorem w7_31 {x : Int32} {l0 : Slot} : W (pj lw) 7 31 (l0 :: .val (.int x) :: L) S k n H Q ↔ W (pj lw) 7 32 (l0 :: .val (.int x) :: L) (.int x :: S) k n H Q := W_s (rfl : (pj lw).1 7 31 = some (.iload_n 1, 1, 0)) rfl rfl rfl
theorem w7_32 {x : Int32} : W (pj lw) 7 32 L (.int x :: S) k n H Q ↔ Q (some (.int x)) H := W_r (rfl : (pj lw).1 7 32 = some (.ireturn, 1, 0)) rfl
theorem c8 {x0 : Nat} {x1 : Int32} {x2 : Int32} : Cl (pj lw) 8 [.ref x0, .int x1, .int x2] H Q ↔ W (pj lw) 8 0 [.val (.ref x0), .val (.int x1), .val (.int x2)] [] 0 0 H Q := cl_unf rfl
theorem w8_0 {x : Int32} {l0 : Slot} : W (pj lw) 8 0 (l0 :: .val (.int x) :: L) S k n H Q ↔ W (pj lw) 8 1 (l0 :: .val (.int x) :: L) (.int x :: S) k n H Q := W_s (rfl : (pj lw).1 8 0 = some (.iload_n 1, 1, 0)) rfl rfl rfl
theorem w8_1 {x : Int32} : W (pj lw) 8 1 L (.int x :: S) k n H Q ↔ (if x < 0 then W (pj lw) 8 12 L S k n H Q else W (pj lw) 8 4 L S k n H Q) := W_if_lt (rfl : (pj lw).1 8 1 = some (.ifCond .lt 11, 3, 0)) rfl
theorem w8_4 {x : Int32} {l0 : Slot} : W (pj lw) 8 4 (l0 :: .val (.int x) :: L) S k n H Q ↔ W (pj lw) 8 5 (l0 :: .val (.int x) :: L) (.int x :: S) k n H Q := W_s (rfl : (pj lw).1 8 4 = some (.iload_n 1, 1, 0)) rfl rfl rfl
theorem w8_5 {x : Nat} : W (pj lw) 8 5 (.val (.ref x) :: L) S k n H Q ↔ W (pj lw) 8 6 (.val (.ref x) :: L) (.ref x :: S) k n H Q := W_s (rfl : (pj lw).1 8 5 = some (.aload_n 0, 1, 0)) rfl rfl rfl
theorem w8_6 {a : Nat} : W (pj lw) 8 6 L (.ref a :: S) k n H Q ↔ (isO H a = true ∧ W (pj lw) 8 9 L (fld H a 0 :: S) k n H Q) := W_getf (rfl : (pj lw).1 8 6 = some (.getfield 53, 3, 0))
theorem w8_9 {x y : Int32} : W (pj lw) 8 9 L (.int y :: .int x :: S) k n H Q ↔ (if x < y then W (pj lw) 8 15 L S k n H Q else W (pj lw) 8 12 L S k n H Q) := W_icmp_lt (rfl : (pj lw).1 8 9 = some (.if_icmp .lt 6, 3, 0)) rfl
theorem w8_12 : W (pj lw) 8 12 L S k n H Q ↔ W (pj lw) 8 14 L (.int (-99) :: S) k n H Q := W_s (rfl : (pj lw).1 8 12 = some (.bipush (-99), 2, 0)) rfl rfl rfl
theorem w8_14 {x : Int32} : W (pj lw) 8 14 L (.int x :: S) k n H Q ↔ Q (some (.int x)) H := W_r (rfl : (pj lw).1 8 14 = some (.ireturn, 1, 0)) rfl
theorem w8_15 {x : Int32} {l0 l1 : Slot} : W (pj lw) 8 15 (l0 :: l1 :: .val (.int x) :: L) S k n H Q ↔ W (pj lw) 8 16 (l0 :: l1 :: .val (.int x) :: L) (.int x :: S) k n H Q := W_s (rfl : (pj lw).1 8 15 = some (.iload_n 2, 1, 0)) rfl rfl rfl
theorem w8_16 {x : Int32} : W (pj lw) 8 16 L (.int x :: S) k n H Q ↔ (if x = 0 then W (pj lw) 8 19 L S k n H Q else W (pj lw) 8 26 L S k n H Q) := W_if_ne (rfl : (pj lw).1 8 16 = some (.ifCond .ne 10, 3, 0)) rfl
theorem w8_19 {x : Nat} : W (pj lw) 8 19 (.val (.ref x) :: L) S k n H Q ↔ W (pj lw) 8 20 (.val (.ref x) :: L) (.ref x :: S) k n H Q := W_s (rfl : (pj lw).1 8 19 = some (.aload_n 0, 1, 0)) rfl rfl rfl
theorem w8_20 {a : Nat} : W (pj lw) 8 20 L (.ref a :: S) k n H Q ↔ (isO H a = true ∧ W (pj lw) 8 23 L (fld H a 6 :: S) k n H Q) := W_getf (rfl : (pj lw).1 8 20 = some (.getfield 7, 3, 6))
theorem w8_23 {x : Int32} {l0 : Slot} : W (pj lw) 8 23 (l0 :: .val (.int x) :: L) S k n H Q ↔ W (pj lw) 8 24 (l0 :: .val (.int x) :: L) (.int x :: S) k n H Q := W_s (rfl : (pj lw).1 8 23 = some (.iload_n 1, 1, 0)) rfl rfl rfl
theorem w8_24 {i : Int32} {a : Nat} : W (pj lw) 8 24 L (.int i :: .ref a :: S) k n H Q ↔ (inA H a .int i = true ∧ W (pj lw) 8 25 L (elt H a i :: S) k n H Q) := W_iaload (rfl : (pj lw).1 8 24 = some (.iaload, 1, 0))
theorem w8_25 {x : Int32} : W (pj lw) 8 25 L (.int x :: S) k n H Q ↔ Q (some (.int x)) H := W_r (rfl : (pj lw).1 8 25 = some (.ireturn, 1, 0)) rfl
theorem w8_26 {x : Int32} {l0 l1 : Slot} : W (pj lw) 8 26 (l0 :: l1 :: .val (.int x) :: L) S k n H Q ↔ W (pj lw) 8 27 (l0 :: l1 :: .val (.int x) :: L) (.int x :: S) k n H Q := W_s (rfl : (pj lw).1 8 26 = some (.iload_n 2, 1, 0)) rfl rfl rfl
theorem w8_27 : W (pj lw) 8 27 L S k n H Q ↔ W (pj lw) 8 28 L (.int 1 :: S) k n H Q := W_s (rfl : (pj lw).1 8 27 = some (.iconst 1, 1, 0)) rfl rfl rfl
theorem w8_28 {x y : Int32} : W (pj lw) 8 28 L (.int y :: .int x :: S) k n H Q ↔ (if x = y then W (pj lw) 8 31 L S k n H Q else W (pj lw) 8 38 L S k n H Q) := W_icmp_ne (rfl : (pj lw).1 8 28 = some (.if_icmp .ne 10, 3, 0)) rfl
theorem w8_31 {x : Nat} : W (pj lw) 8 31 (.val (.ref x) :: L) S k n H Q ↔ W (pj lw) 8 32 (.val (.ref x) :: L) (.ref x :: S) k n H Q := W_s (rfl : (pj lw).1 8 31 = some (.aload_n 0, 1, 0)) rfl rfl rfl
theorem w8_32 {a : Nat} : W (pj lw) 8 32 L (.ref a :: S) k n H Q ↔ (isO H a = true ∧ W (pj lw) 8 35 L (fld H a 7 :: S) k n H Q) := W_getf (rfl : (pj lw).1 8 32 = some (.getfield 13, 3, 7))
theorem w8_35 {x : Int32} {l0 : Slot} : W (pj lw) 8 35 (l0 :: .val (.int x) :: L) S k n H Q ↔ W (pj lw) 8 36 (l0 :: .val (.int x) :: L) (.int x :: S) k n H Q := W_s (rfl : (pj lw).1 8 35 = some (.iload_n 1, 1, 0)) rfl rfl rfl
theorem w8_36 {i : Int32} {a : Nat} : W (pj lw) 8 36 L (.int i :: .ref a :: S) k n H Q ↔ (inA H a .int i = true ∧ W (pj lw) 8 37 L (elt H a i :: S) k n H Q) := W_iaload (rfl : (pj lw).1 8 36 = some (.iaload, 1, 0))
theorem w8_37 {x : Int32} : W (pj lw) 8 37 L (.int x :: S) k n H Q ↔ Q (some (.int x)) H := W_r (rfl : (pj lw).1 8 37 = some (.ireturn, 1, 0)) rfl
theorem w8_38 {x : Int32} {l0 l1 : Slot} : W (pj lw) 8 38 (l0 :: l1 :: .val (.int x) :: L) S k n H Q ↔ W (pj lw) 8 39 (l0 :: l1 :: .val (.int x) :: L) (.int x :: S) k n H Q := W_s (rfl : (pj lw).1 8 38 = some (.iload_n 2, 1, 0)) rfl rfl rfl
theorem w8_39 : W (pj lw) 8 39 L S k n H Q ↔ W (pj lw) 8 40 L (.int 2 :: S) k n H Q := W_s (rfl : (pj lw).1 8 39 = some (.iconst 2, 1, 0)) rfl rfl rfl
theorem w8_40 {x y : Int32} : W (pj lw) 8 40 L (.int y :: .int x :: S) k n H Q ↔ (if x = y then W (pj lw) 8 43 L S k n H Q else W (pj lw) 8 50 L S k n H Q) := W_icmp_ne (rfl : (pj lw).1 8 40 = some (.if_icmp .ne 10, 3, 0)) rfl
theorem w8_43 {x : Nat} : W (pj lw) 8 43 (.val (.ref x) :: L) S k n H Q ↔ W (pj lw) 8 44 (.val (.ref x) :: L) (.ref x :: S) k n H Q := W_s (rfl : (pj lw).1 8 43 = some (.aload_n 0, 1, 0)) rfl rfl rfl
theorem w8_44 {a : Nat} : W (pj lw) 8 44 L (.ref a :: S) k n H Q ↔ (isO H a = true ∧ W (pj lw) 8 47 L (fld H a 8 :: S) k n H Q) := W_getf (rfl : (pj lw).1 8 44 = some (.getfield 16, 3, 8))
theorem w8_47 {x : Int32} {l0 : Slot} : W (pj lw) 8 47 (l0 :: .val (.int x) :: L) S k n H Q ↔ W (pj lw) 8 48 (l0 :: .val (.int x) :: L) (.int x :: S) k n H Q := W_s (rfl : (pj lw).1 8 47 = some (.iload_n 1, 1, 0)) rfl rfl rfl
theorem w8_48 {i : Int32} {a : Nat} : W (pj lw) 8 48 L (.int i :: .ref a :: S) k n H Q ↔ (inA H a .int i = true ∧ W (pj lw) 8 49 L (elt H a i :: S) k n H Q) := W_iaload (rfl : (pj lw).1 8 48 = some (.iaload, 1, 0))
theorem w8_49 {x : Int32} : W (pj lw) 8 49 L (.int x :: S) k n H Q ↔ Q (some (.int x)) H := W_r (rfl : (pj lw).1 8 49 = some (.ireturn, 1, 0)) rfl
theorem w8_50 {x : Int32} {l0 l1 : Slot} : W (pj lw) 8 50 (l0 :: l1 :: .val (.int x) :: L) S k n H Q ↔ W (pj lw) 8 51 (l0 :: l1 :: .val (.int x) :: L) (.int x :: S) k n H Q := W_s (rfl : (pj lw).1 8 50 = some (.iload_n 2, 1, 0)) rfl rfl rfl
theorem w8_51 : W (pj lw) 8 51 L S k n H Q ↔ W (pj lw) 8 52 L (.int 3 :: S) k n H Q := W_s (rfl : (pj lw).1 8 51 = some (.iconst 3, 1, 0)) rfl rfl rfl
theorem w8_52 {x y : Int32} : W (pj lw) 8 52 L (.int y :: .int x :: S) k n H Q ↔ (if x = y then W (pj lw) 8 55 L S k n H Q else W (pj lw) 8 62 L S k n H Q) := W_icmp_ne (rfl : (pj lw).1 8 52 = some (.if_icmp .ne 10, 3, 0)) rfl
theorem w8_55 {x : Nat} : W (pj lw) 8 55 (.val (.ref x) :: L) S k n H Q ↔ W (pj lw) 8 56 (.val (.ref x) :: L) (.ref x :: S) k n H Q := W_s (rfl : (pj lw).1 8 55 = some (.aload_n 0, 1, 0)) rfl rfl rfl
theorem w8_56 {a : Nat} : W (pj lw) 8 56 L (.ref a :: S) k n H Q ↔ (isO H a = true ∧ W (pj lw) 8 59 L (fld H a 9 :: S) k n H Q) := W_getf (rfl : (pj lw).1 8 56 = some (.getfield 19, 3, 9))
theorem w8_59 {x : Int32} {l0 : Slot} : W (pj lw) 8 59 (l0 :: .val (.int x) :: L) S k n H Q ↔ W (pj lw) 8 60 (l0 :: .val (.int x) :: L) (.int x :: S) k n H Q := W_s (rfl : (pj lw).1 8 59 = some (.iload_n 1, 1, 0)) rfl rfl rfl
theorem w8_60 {i : Int32} {a : Nat} : W (pj lw) 8 60 L (.int i :: .ref a :: S) k n H Q ↔ (inA H a .int i = true ∧ W (pj lw) 8 61 L (elt H a i :: S) k n H Q) := W_iaload (rfl : (pj lw).1 8 60 = some (.iaload, 1, 0))
theorem w8_61 {x : Int32} : W (pj lw) 8 61 L (.int x :: S) k n H Q ↔ Q (some (.int x)) H := W_r (rfl : (pj lw).1 8 61 = some (.ireturn, 1, 0)) rfl
theorem w8_62 {x : Int32} {l0 l1 : Slot} : W (pj lw) 8 62 (l0 :: l1 :: .val (.int x) :: L) S k n H Q ↔ W (pj lw) 8 63 (l0 :: l1 :: .val (.int x) :: L) (.int x :: S) k n H Q := W_s (rfl : (pj lw).1 8 62 = some (.iload_n 2, 1, 0)) rfl rfl rfl
theorem w8_63 : W (pj lw) 8 63 L S k n H Q ↔ W (pj lw) 8 64 L (.int 4 :: S) k n H Q := W_s (rfl : (pj lw).1 8 63 = some (.iconst 4, 1, 0)) rfl rfl rfl
theorem w8_64 {x y : Int32} : W (pj lw) 8 64 L (.int y :: .int x :: S) k n H Q ↔ (if x = y then W (pj lw) 8 67 L S k n H Q else W (pj lw) 8 74 L S k n H Q) := W_icmp_ne (rfl : (pj lw).1 8 64 = some (.if_icmp .ne 10, 3, 0)) rfl
theorem w8_67 {x : Nat} : W (pj lw) 8 67 (.val (.ref x) :: L) S k n H Q ↔ W (pj lw) 8 68 (.val (.ref x) :: L) (.ref x :: S) k n H Q := W_s (rfl : (pj lw).1 8 67 = some (.aload_n 0, 1, 0)) rfl rfl rfl
theorem w8_68 {a : Nat} : W (pj lw) 8 68 L (.ref a :: S) k n H Q ↔ (isO H a = true ∧ W (pj lw) 8 71 L (fld H a 10 :: S) k n H Q) := W_getf (rfl : (pj lw).1 8 68 = some (.getfield 22, 3, 10))
theorem w8_71 {x : Int32} {l0 : Slot} : W (pj lw) 8 71 (l0 :: .val (.int x) :: L) S k n H Q ↔ W (pj lw) 8 72 (l0 :: .val (.int x) :: L) (.int x :: S) k n H Q := W_s (rfl : (pj lw).1 8 71 = some (.iload_n 1, 1, 0)) rfl rfl rfl
theorem w8_72 {i : Int32} {a : Nat} : W (pj lw) 8 72 L (.int i :: .ref a :: S) k n H Q ↔ (inA H a .int i = true ∧ W (pj lw) 8 73 L (elt H a i :: S) k n H Q) := W_iaload (rfl : (pj lw).1 8 72 = some (.iaload, 1, 0))
theorem w8_73 {x : Int32} : W (pj lw) 8 73 L (.int x :: S) k n H Q ↔ Q (some (.int x)) H := W_r (rfl : (pj lw).1 8 73 = some (.ireturn, 1, 0)) rfl
theorem w8_74 : W (pj lw) 8 74 L S k n H Q ↔ W (pj lw) 8 76 L (.int (-99) :: S) k n H Q := W_s (rfl : (pj lw).1 8 74 = some (.bipush (-99), 2, 0)) rfl rfl rfl
theorem w8_76 {x : Int32} : W (pj lw) 8 76 L (.int x :: S) k n H Q ↔ Q (some (.int x)) H := W_r (rfl : (pj lw).1 8 76 = some (.ireturn, 1, 0)) rfl
theorem c9 {x0 : Nat} {x1 : Int32} {x2 : Int32} : Cl (pj lw) 9 [.ref x0, .int x1, .int x2] H Q ↔ W (pj lw) 9 0 [.val (.ref x0), .val (.int x1), .val (.int x2)] [] 0 0 H Q := cl_unf rfl
theorem w9_0 {x : Int32} {l0 : Slot} : W (pj lw) 9 0 (l0 :: .val (.int x) :: L) S k n H Q ↔ W (pj lw) 9 1 (l0 :: .val (.int x) :: L) (.int x :: S) k n H Q := W_s (rfl : (pj lw).1 9 0 = some (.iload_n 1, 1, 0)) rfl rfl rfl
theorem w9_1 {x : Int32} : W (pj lw) 9 1 L (.int x :: S) k n H Q ↔ (if x < 0 then W (pj lw) 9 12 L S k n H Q else W (pj lw) 9 4 L S k n H Q) := W_if_lt (rfl : (pj lw).1 9 1 = some (.ifCond .lt 11, 3, 0)) rfl
theorem w9_4 {x : Int32} {l0 : Slot} : W (pj lw) 9 4 (l0 :: .val (.int x) :: L) S k n H Q ↔ W (pj lw) 9 5 (l0 :: .val (.int x) :: L) (.int x :: S) k n H Q := W_s (rfl : (pj lw).1 9 4 = some (.iload_n 1, 1, 0)) rfl rfl rfl
theorem w9_5 {x : Nat} : W (pj lw) 9 5 (.val (.ref x) :: L) S k n H Q ↔ W (pj lw) 9 6 (.val (.ref x) :: L) (.ref x :: S) k n H Q := W_s (rfl : (pj lw).1 9 5 = some (.aload_n 0, 1, 0)) rfl rfl rfl
theorem w9_6 {a : Nat} : W (pj lw) 9 6 L (.ref a :: S) k n H Q ↔ (isO H a = true ∧ W (pj lw) 9 9 L (fld H a 4 :: S) k n H Q) := W_getf (rfl : (pj lw).1 9 6 = some (.getfield 63, 3, 4))
theorem w9_9 {x y : Int32} : W (pj lw) 9 9 L (.int y :: .int x :: S) k n H Q ↔ (if x < y then W (pj lw) 9 15 L S k n H Q else W (pj lw) 9 12 L S k n H Q) := W_icmp_lt (rfl : (pj lw).1 9 9 = some (.if_icmp .lt 6, 3, 0)) rfl
theorem w9_12 : W (pj lw) 9 12 L S k n H Q ↔ W (pj lw) 9 14 L (.int (-99) :: S) k n H Q := W_s (rfl : (pj lw).1 9 12 = some (.bipush (-99), 2, 0)) rfl rfl rfl
theorem w9_14 {x : Int32} : W (pj lw) 9 14 L (.int x :: S) k n H Q ↔ Q (some (.int x)) H := W_r (rfl : (pj lw).1 9 14 = some (.ireturn, 1, 0)) rfl
theorem w9_15 {x : Int32} {l0 l1 : Slot} : W (pj lw) 9 15 (l0 :: l1 :: .val (.int x) :: L) S k n H Q ↔ W (pj lw) 9 16 (l0 :: l1 :: .val (.int x) :: L) (.int x :: S) k n H Q := W_s (rfl : (pj lw).1 9 15 = some (.iload_n 2, 1, 0)) rfl rfl rfl
theorem w9_16 {x : Int32} : W (pj lw) 9 16 L (.int x :: S) k n H Q ↔ (if x = 0 then W (pj lw) 9 19 L S k n H Q else W (pj lw) 9 26 L S k n H Q) := W_if_ne (rfl : (pj lw).1 9 16 = some (.ifCond .ne 10, 3, 0)) rfl
theorem w9_19 {x : Nat} : W (pj lw) 9 19 (.val (.ref x) :: L) S k n H Q ↔ W (pj lw) 9 20 (.val (.ref x) :: L) (.ref x :: S) k n H Q := W_s (rfl : (pj lw).1 9 19 = some (.aload_n 0, 1, 0)) rfl rfl rfl
theorem w9_20 {a : Nat} : W (pj lw) 9 20 L (.ref a :: S) k n H Q ↔ (isO H a = true ∧ W (pj lw) 9 23 L (fld H a 11 :: S) k n H Q) := W_getf (rfl : (pj lw).1 9 20 = some (.getfield 25, 3, 11))
theorem w9_23 {x : Int32} {l0 : Slot} : W (pj lw) 9 23 (l0 :: .val (.int x) :: L) S k n H Q ↔ W (pj lw) 9 24 (l0 :: .val (.int x) :: L) (.int x :: S) k n H Q := W_s (rfl : (pj lw).1 9 23 = some (.iload_n 1, 1, 0)) rfl rfl rfl
theorem w9_24 {i : Int32} {a : Nat} : W (pj lw) 9 24 L (.int i :: .ref a :: S) k n H Q ↔ (inA H a .int i = true ∧ W (pj lw) 9 25 L (elt H a i :: S) k n H Q) := W_iaload (rfl : (pj lw).1 9 24 = some (.iaload, 1, 0))
theorem w9_25 {x : Int32} : W (pj lw) 9 25 L (.int x :: S) k n H Q ↔ Q (some (.int x)) H := W_r (rfl : (pj lw).1 9 25 = some (.ireturn, 1, 0)) rfl
theorem w9_26 {x : Int32} {l0 l1 : Slot} : W (pj lw) 9 26 (l0 :: l1 :: .val (.int x) :: L) S k n H Q ↔ W (pj lw) 9 27 (l0 :: l1 :: .val (.int x) :: L) (.int x :: S) k n H Q := W_s (rfl : (pj lw).1 9 26 = some (.iload_n 2, 1, 0)) rfl rfl rfl
theorem w9_27 : W (pj lw) 9 27 L S k n H Q ↔ W (pj lw) 9 28 L (.int 1 :: S) k n H Q := W_s (rfl : (pj lw).1 9 27 = some (.iconst 1, 1, 0)) rfl rfl rfl
theorem w9_28 {x y : Int32} : W (pj lw) 9 28 L (.int y :: .int x :: S) k n H Q ↔ (if x = y then W (pj lw) 9 31 L S k n H Q else W (pj lw) 9 38 L S k n H Q) := W_icmp_ne (rfl : (pj lw).1 9 28 = some (.if_icmp .ne 10, 3, 0)) rfl
theorem w9_31 {x : Nat} : W (pj lw) 9 31 (.val (.ref x) :: L) S k n H Q ↔ W (pj lw) 9 32 (.val (.ref x) :: L) (.ref x :: S) k n H Q := W_s (rfl : (pj lw).1 9 31 = some (.aload_n 0, 1, 0)) rfl rfl rfl
theorem w9_32 {a : Nat} : W (pj lw) 9 32 L (.ref a :: S) k n H Q ↔ (isO H a = true ∧ W (pj lw) 9 35 L (fld H a 12 :: S) k n H Q) := W_getf (rfl : (pj lw).1 9 32 = some (.getfield 28, 3, 12))
theorem w9_35 {x : Int32} {l0 : Slot} : W (pj lw) 9 35 (l0 :: .val (.int x) :: L) S k n H Q ↔ W (pj lw) 9 36 (l0 :: .val (.int x) :: L) (.int x :: S) k n H Q := W_s (rfl : (pj lw).1 9 35 = some (.iload_n 1, 1, 0)) rfl rfl rfl
theorem w9_36 {i : Int32} {a : Nat} : W (pj lw) 9 36 L (.int i :: .ref a :: S) k n H Q ↔ (inA H a .int i = true ∧ W (pj lw) 9 37 L (elt H a i :: S) k n H Q) := W_iaload (rfl : (pj lw).1 9 36 = some (.iaload, 1, 0))
theorem w9_37 {x : Int32} : W (pj lw) 9 37 L (.int x :: S) k n H Q ↔ Q (some (.int x)) H := W_r (rfl : (pj lw).1 9 37 = some (.ireturn, 1, 0)) rfl
theorem w9_38 {x : Int32} {l0 l1 : Slot} : W (pj lw) 9 38 (l0 :: l1 :: .val (.int x) :: L) S k n H Q ↔ W (pj lw) 9 39 (l0 :: l1 :: .val (.int x) :: L) (.int x :: S) k n H Q := W_s (rfl : (pj lw).1 9 38 = some (.iload_n 2, 1, 0)) rfl rfl rfl
theorem w9_39 : W (pj lw) 9 39 L S k n H Q ↔ W (pj lw) 9 40 L (.int 2 :: S) k n H Q := W_s (rfl : (pj lw).1 9 39 = some (.iconst 2, 1, 0)) rfl rfl rfl
theorem w9_40 {x y : Int32} : W (pj lw) 9 40 L (.int y :: .int x :: S) k n H Q ↔ (if x = y then W (pj lw) 9 43 L S k n H Q else W (pj lw) 9 50 L S k n H Q) := W_icmp_ne (rfl : (pj lw).1 9 40 = some (.if_icmp .ne 10, 3, 0)) rfl
theorem w9_43 {x : Nat} : W (pj lw) 9 43 (.val (.ref x) :: L) S k n H Q ↔ W (pj lw) 9 44 (.val (.ref x) :: L) (.ref x :: S) k n H Q := W_s (rfl : (pj lw).1 9 43 = some (.aload_n 0, 1, 0)) rfl rfl rfl
theorem w9_44 {a : Nat} : W (pj lw) 9 44 L (.ref a :: S) k n H Q ↔ (isO H a = true ∧ W (pj lw) 9 47 L (fld H a 13 :: S) k n H Q) := W_getf (rfl : (pj lw).1 9 44 = some (.getfield 31, 3, 13))
theorem w9_47 {x : Int32} {l0 : Slot} : W (pj lw) 9 47 (l0 :: .val (.int x) :: L) S k n H Q ↔ W (pj lw) 9 48 (l0 :: .val (.int x) :: L) (.int x :: S) k n H Q := W_s (rfl : (pj lw).1 9 47 = some (.iload_n 1, 1, 0)) rfl rfl rfl
theorem w9_48 {i : Int32} {a : Nat} : W (pj lw) 9 48 L (.int i :: .ref a :: S) k n H Q ↔ (inA H a .int i = true ∧ W (pj lw) 9 49 L (elt H a i :: S) k n H Q) := W_iaload (rfl : (pj lw).1 9 48 = some (.iaload, 1, 0))
theorem w9_49 {x : Int32} : W (pj lw) 9 49 L (.int x :: S) k n H Q ↔ Q (some (.int x)) H := W_r (rfl : (pj lw).1 9 49 = some (.ireturn, 1, 0)) rfl
theorem w9_50 {x : Int32} {l0 l1 : Slot} : W (pj lw) 9 50 (l0 :: l1 :: .val (.int x) :: L) S k n H Q ↔ W (pj lw) 9 51 (l0 :: l1 :: .val (.int x) :: L) (.int x :: S) k n H Q := W_s (rfl : (pj lw).1 9 50 = some (.iload_n 2, 1, 0)) rfl rfl rfl
theorem w9_51 : W (pj lw) 9 51 L S k n H Q ↔ W (pj lw) 9 52 L (.int 3 :: S) k n H Q := W_s (rfl : (pj lw).1 9 51 = some (.iconst 3, 1, 0)) rfl rfl rfl
theorem w9_52 {x y : Int32} : W (pj lw) 9 52 L (.int y :: .int x :: S) k n H Q ↔ (if x = y then W (pj lw) 9 55 L S k n H Q else W (pj lw) 9 62 L S k n H Q) := W_icmp_ne (rfl : (pj lw).1 9 52 = some (.if_icmp .ne 10, 3, 0)) rfl
theorem w9_55 {x : Nat} : W (pj lw) 9 55 (.val (.ref x) :: L) S k n H Q ↔ W (pj lw) 9 56 (.val (.ref x) :: L) (.ref x :: S) k n H Q := W_s (rfl : (pj lw).1 9 55 = some (.aload_n 0, 1, 0)) rfl rfl rfl
theorem w9_56 {a : Nat} : W (pj lw) 9 56 L (.ref a :: S) k n H Q ↔ (isO H a = true ∧ W (pj lw) 9 59 L (fld H a 14 :: S) k n H Q) := W_getf (rfl : (pj lw).1 9 56 = some (.getfield 34, 3, 14))
theorem w9_59 {x : Int32} {l0 : Slot} : W (pj lw) 9 59 (l0 :: .val (.int x) :: L) S k n H Q ↔ W (pj lw) 9 60 (l0 :: .val (.int x) :: L) (.int x :: S) k n H Q := W_s (rfl : (pj lw).1 9 59 = some (.iload_n 1, 1, 0)) rfl rfl rfl
theorem w9_60 {i : Int32} {a : Nat} : W (pj lw) 9 60 L (.int i :: .ref a :: S) k n H Q ↔ (inA H a .int i = true ∧ W (pj lw) 9 61 L (elt H a i :: S) k n H Q) := W_iaload (rfl : (pj lw).1 9 60 = some (.iaload, 1, 0))
theorem w9_61 {x : Int32} : W (pj lw) 9 61 L (.int x :: S) k n H Q ↔ Q (some (.int x)) H := W_r (rfl : (pj lw).1 9 61 = some (.ireturn, 1, 0)) rfl
theorem w9_62 {x : Int32} {l0 l1 : Slot} : W (pj lw) 9 62 (l0 :: l1 :: .val (.int x) :: L) S k n H Q ↔ W (pj lw) 9 63 (l0 :: l1 :: .val (.int x) :: L) (.int x :: S) k n H Q := W_s (rfl : (pj lw).1 9 62 = some (.iload_n 2, 1, 0)) rfl rfl rfl
theorem w9_63 : W (pj lw) 9 63 L S k n H Q ↔ W (pj lw) 9 64 L (.int 4 :: S) k n H Q := W_s (rfl : (pj lw).1 9 63 = some (.iconst 4, 1, 0)) rfl rfl rfl
theorem w9_64 {x y : Int32} : W (pj lw) 9 64 L (.int y :: .int x :: S) k n H Q ↔ (if x = y then W (pj lw) 9 67 L S k n H Q else W (pj lw) 9 74 L S k n H Q) := W_icmp_ne (rfl : (pj lw).1 9 64 = some (.if_icmp .ne 10, 3, 0)) rfl
theorem w9_67 {x : Nat} : W (pj lw) 9 67 (.val (.ref x) :: L) S k n H Q ↔ W (pj lw) 9 68 (.val (.ref x) :: L) (.ref x :: S) k n H Q := W_s (rfl : (pj lw).1 9 67 = some (.aload_n 0, 1, 0)) rfl rfl rfl
theorem w9_68 {a : Nat} : W (pj lw) 9 68 L (.ref a :: S) k n H Q ↔ (isO H a = true ∧ W (pj lw) 9 71 L (fld H a 15 :: S) k n H Q) := W_getf (rfl : (pj lw).1 9 68 = some (.getfield 37, 3, 15))
theorem w9_71 {x : Int32} {l0 : Slot} : W (pj lw) 9 71 (l0 :: .val (.int x) :: L) S k n H Q ↔ W (pj lw) 9 72 (l0 :: .val (.int x) :: L) (.int x :: S) k n H Q := W_s (rfl : (pj lw).1 9 71 = some (.iload_n 1, 1, 0)) rfl rfl rfl
theorem w9_72 {i : Int32} {a : Nat} : W (pj lw) 9 72 L (.int i :: .ref a :: S) k n H Q ↔ (inA H a .int i = true ∧ W (pj lw) 9 73 L (elt H a i :: S) k n H Q) := W_iaload (rfl : (pj lw).1 9 72 = some (.iaload, 1, 0))
theorem w9_73 {x : Int32} : W (pj lw) 9 73 L (.int x :: S) k n H Q ↔ Q (some (.int x)) H := W_r (rfl : (pj lw).1 9 73 = some (.ireturn, 1, 0)) rfl
theorem w9_74 {x : Int32} {l0 l1 : Slot} : W (pj lw) 9 74 (l0 :: l1 :: .val (.int x) :: L) S k n H Q ↔ W (pj lw) 9 75 (l0 :: l1 :: .val (.int x) :: L) (.int x :: S) k n H Q := W_s (rfl : (pj lw).1 9 74 = some (.iload_n 2, 1, 0)) rfl rfl rfl
theorem w9_75 : W (pj lw) 9 75 L S k n H Q ↔ W (pj lw) 9 76 L (.int 5 :: S) k n H Q := W_s (rfl : (pj lw).1 9 75 = some (.iconst 5, 1, 0)) rfl rfl rfl
theorem w9_76 {x y : Int32} : W (pj lw) 9 76 L (.int y :: .int x :: S) k n H Q ↔ (if x = y then W (pj lw) 9 79 L S k n H Q else W (pj lw) 9 86 L S k n H Q) := W_icmp_ne (rfl : (pj lw).1 9 76 = some (.if_icmp .ne 10, 3, 0)) rfl
theorem w9_79 {x : Nat} : W (pj lw) 9 79 (.val (.ref x) :: L) S k n H Q ↔ W (pj lw) 9 80 (.val (.ref x) :: L) (.ref x :: S) k n H Q := W_s (rfl : (pj lw).1 9 79 = some (.aload_n 0, 1, 0)) rfl rfl rfl
theorem w9_80 {a : Nat} : W (pj lw) 9 80 L (.ref a :: S) k n H Q ↔ (isO H a = true ∧ W (pj lw) 9 83 L (fld H a 16 :: S) k n H Q) := W_getf (rfl : (pj lw).1 9 80 = some (.getfield 40, 3, 16))
theorem w9_83 {x : Int32} {l0 : Slot} : W (pj lw) 9 83 (l0 :: .val (.int x) :: L) S k n H Q ↔ W (pj lw) 9 84 (l0 :: .val (.int x) :: L) (.int x :: S) k n H Q := W_s (rfl : (pj lw).1 9 83 = some (.iload_n 1, 1, 0)) rfl rfl rfl
theorem w9_84 {i : Int32} {a : Nat} : W (pj lw) 9 84 L (.int i :: .ref a :: S) k n H Q ↔ (inA H a .int i = true ∧ W (pj lw) 9 85 L (elt H a i :: S) k n H Q) := W_iaload (rfl : (pj lw).1 9 84 = some (.iaload, 1, 0))
theorem w9_85 {x : Int32} : W (pj lw) 9 85 L (.int x :: S) k n H Q ↔ Q (some (.int x)) H := W_r (rfl : (pj lw).1 9 85 = some (.ireturn, 1, 0)) rfl
theorem w9_86 {x : Int32} {l0 l1 : Slot} : W (pj lw) 9 86 (l0 :: l1 :: .val (.int x) :: L) S k n H Q ↔ W (pj lw) 9 87 (l0 :: l1 :: .val (.int x) :: L) (.int x :: S) k n H Q := W_s (rfl : (pj lw).1 9 86 = some (.iload_n 2, 1, 0)) rfl rfl rfl
theorem w9_87 : W (pj lw) 9 87 L S k n H Q ↔ W (pj lw) 9 89 L (.int 6 :: S) k n H Q := W_s (rfl : (pj lw).1 9 87 = some (.bipush 6, 2, 0)) rfl rfl rfl
theorem w9_89 {x y : Int32} : W (pj lw) 9 89 L (.int y :: .int x :: S) k n H Q ↔ (if x = y then W (pj lw) 9 92 L S k n H Q else W (pj lw) 9 99 L S k n H Q) := W_icmp_ne (rfl : (pj lw).1 9 89 = some (.if_icmp .ne 10, 3, 0)) rfl
theorem w9_92 {x : Nat} : W (pj lw) 9 92 (.val (.ref x) :: L) S k n H Q ↔ W (pj lw) 9 93 (.val (.ref x) :: L) (.ref x :: S) k n H Q := W_s (rfl : (pj lw).1 9 92 = some (.aload_n 0, 1, 0)) rfl rfl rfl
theorem w9_93 {a : Nat} : W (pj lw) 9 93 L (.ref a :: S) k n H Q ↔ (isO H a = true ∧ W (pj lw) 9 96 L (fld H a 17 :: S) k n H Q) := W_getf (rfl : (pj lw).1 9 93 = some (.getfield 43, 3, 17))
theorem w9_96 {x : Int32} {l0 : Slot} : W (pj lw) 9 96 (l0 :: .val (.int x) :: L) S k n H Q ↔ W (pj lw) 9 97 (l0 :: .val (.int x) :: L) (.int x :: S) k n H Q := W_s (rfl : (pj lw).1 9 96 = some (.iload_n 1, 1, 0)) rfl rfl rfl
theorem w9_97 {i : Int32} {a : Nat} : W (pj lw) 9 97 L (.int i :: .ref a :: S) k n H Q ↔ (inA H a .int i = true ∧ W (pj lw) 9 98 L (elt H a i :: S) k n H Q) := W_iaload (rfl : (pj lw).1 9 97 = some (.iaload, 1, 0))
theorem w9_98 {x : Int32} : W (pj lw) 9 98 L (.int x :: S) k n H Q ↔ Q (some (.int x)) H := W_r (rfl : (pj lw).1 9 98 = some (.ireturn, 1, 0)) rfl
theorem w9_99 : W (pj lw) 9 99 L S k n H Q ↔ W (pj lw) 9 101 L (.int (-99) :: S) k n H Q := W_s (rfl : (pj lw).1 9 99 = some (.bipush (-99), 2, 0)) rfl rfl rfl
theorem w9_101 {x : Int32} : W (pj lw) 9 101 L (.int x :: S) k n H Q ↔ Q (some (.int x)) H := W_r (rfl : (pj lw).1 9 101 = some (.ireturn, 1, 0)) rfl
theorem c10 {x0 : Nat} {x1 : Int32} {x2 : Int32} : Cl (pj lw) 10 [.ref x0, .int x1, .int x2] H Q ↔ W (pj lw) 10 0 [.val (.ref x0), .val (.int x1), .val (.int x2)] [] 0 0 H Q := cl_unf rfl
theorem w10_0 {x : Int32} {l0 : Slot} : W (pj lw) 10 0 (l0 :: .val (.int x) :: L) S k n H Q ↔ W (pj lw) 10 1 (l0 :: .val (.int x) :: L) (.int x :: S) k n H Q := W_s (rfl : (pj lw).1 10 0 = some (.iload_n 1, 1, 0)) rfl rfl rfl
theorem w10_1 {x : Int32} : W (pj lw) 10 1 L (.int x :: S) k n H Q ↔ (if x < 0 then W (pj lw) 10 22 L S k n H Q else W (pj lw) 10 4 L S k n H Q) := W_if_lt (rfl : (pj lw).1 10 1 = some (.ifCond .lt 21, 3, 0)) rfl
theorem w10_4 {x : Int32} {l0 : Slot} : W (pj lw) 10 4 (l0 :: .val (.int x) :: L) S k n H Q ↔ W (pj lw) 10 5 (l0 :: .val (.int x) :: L) (.int x :: S) k n H Q := W_s (rfl : (pj lw).1 10 4 = some (.iload_n 1, 1, 0)) rfl rfl rfl
theorem w10_5 {x : Nat} : W (pj lw) 10 5 (.val (.ref x) :: L) S k n H Q ↔ W (pj lw) 10 6 (.val (.ref x) :: L) (.ref x :: S) k n H Q := W_s (rfl : (pj lw).1 10 5 = some (.aload_n 0, 1, 0)) rfl rfl rfl
theorem w10_6 {a : Nat} : W (pj lw) 10 6 L (.ref a :: S) k n H Q ↔ (isO H a = true ∧ W (pj lw) 10 9 L (fld H a 1 :: S) k n H Q) := W_getf (rfl : (pj lw).1 10 6 = some (.getfield 57, 3, 1))
theorem w10_9 {x y : Int32} : W (pj lw) 10 9 L (.int y :: .int x :: S) k n H Q ↔ (if x < y then W (pj lw) 10 12 L S k n H Q else W (pj lw) 10 22 L S k n H Q) := W_icmp_ge (rfl : (pj lw).1 10 9 = some (.if_icmp .ge 13, 3, 0)) rfl
theorem w10_12 {x : Int32} {l0 l1 : Slot} : W (pj lw) 10 12 (l0 :: l1 :: .val (.int x) :: L) S k n H Q ↔ W (pj lw) 10 13 (l0 :: l1 :: .val (.int x) :: L) (.int x :: S) k n H Q := W_s (rfl : (pj lw).1 10 12 = some (.iload_n 2, 1, 0)) rfl rfl rfl
theorem w10_13 : W (pj lw) 10 13 L S k n H Q ↔ W (pj lw) 10 14 L (.int 1 :: S) k n H Q := W_s (rfl : (pj lw).1 10 13 = some (.iconst 1, 1, 0)) rfl rfl rfl
theorem w10_14 {x y : Int32} : W (pj lw) 10 14 L (.int y :: .int x :: S) k n H Q ↔ (if x = y then W (pj lw) 10 25 L S k n H Q else W (pj lw) 10 17 L S k n H Q) := W_icmp_eq (rfl : (pj lw).1 10 14 = some (.if_icmp .eq 11, 3, 0)) rfl
theorem w10_17 {x : Int32} {l0 l1 : Slot} : W (pj lw) 10 17 (l0 :: l1 :: .val (.int x) :: L) S k n H Q ↔ W (pj lw) 10 18 (l0 :: l1 :: .val (.int x) :: L) (.int x :: S) k n H Q := W_s (rfl : (pj lw).1 10 17 = some (.iload_n 2, 1, 0)) rfl rfl rfl
theorem w10_18 : W (pj lw) 10 18 L S k n H Q ↔ W (pj lw) 10 19 L (.int (-1) :: S) k n H Q := W_s (rfl : (pj lw).1 10 18 = some (.iconst (-1), 1, 0)) rfl rfl rfl
theorem w10_19 {x y : Int32} : W (pj lw) 10 19 L (.int y :: .int x :: S) k n H Q ↔ (if x = y then W (pj lw) 10 25 L S k n H Q else W (pj lw) 10 22 L S k n H Q) := W_icmp_eq (rfl : (pj lw).1 10 19 = some (.if_icmp .eq 6, 3, 0)) rfl
theorem w10_22 : W (pj lw) 10 22 L S k n H Q ↔ W (pj lw) 10 24 L (.int (-99) :: S) k n H Q := W_s (rfl : (pj lw).1 10 22 = some (.bipush (-99), 2, 0)) rfl rfl rfl
theorem w10_24 {x : Int32} : W (pj lw) 10 24 L (.int x :: S) k n H Q ↔ Q (some (.int x)) H := W_r (rfl : (pj lw).1 10 24 = some (.ireturn, 1, 0)) rfl
theorem w10_25 {x : Nat} : W (pj lw) 10 25 (.val (.ref x) :: L) S k n H Q ↔ W (pj lw) 10 26 (.val (.ref x) :: L) (.ref x :: S) k n H Q := W_s (rfl : (pj lw).1 10 25 = some (.aload_n 0, 1, 0)) rfl rfl rfl
theorem w10_26 {x : Int32} {l0 : Slot} : W (pj lw) 10 26 (l0 :: .val (.int x) :: L) S k n H Q ↔ W (pj lw) 10 27 (l0 :: .val (.int x) :: L) (.int x :: S) k n H Q := W_s (rfl : (pj lw).1 10 26 = some (.iload_n 1, 1, 0)) rfl rfl rfl
theorem w10_27 {x : Int32} {l0 l1 : Slot} : W (pj lw) 10 27 (l0 :: l1 :: .val (.int x) :: L) S k n H Q ↔ W (pj lw) 10 28 (l0 :: l1 :: .val (.int x) :: L) (.int x :: S) k n H Q := W_s (rfl : (pj lw).1 10 27 = some (.iload_n 2, 1, 0)) rfl rfl rfl
theorem w10_28 {a : Nat} {x0 : Int32} {x1 : Int32} : W (pj lw) 10 28 L (.int x1 :: .int x0 :: .ref a :: S) k n H Q ↔ ((isO H a = true ∧ cs S + (4 + 11) + 13 ≤ 28) ∧ Cl (pj lw) 19 [.ref a, .int x0, .int x1] H (fun v H => W (pj lw) 10 31 L (v.toList ++ S) k n H Q)) := W_inst (as := [.int x0, .int x1]) (rfl : (pj lw).1 10 28 = some (.invokevirtual 79, 3, 19)) rfl rfl rfl (Nat.le_of_ble_eq_true rfl) (Nat.le_of_ble_eq_true rfl) ⟨rfl, rfl⟩
theorem w10_31 {x : Int32} : W (pj lw) 10 31 L (.int x :: S) k n H Q ↔ (if x = 0 then W (pj lw) 10 34 L S k n H Q else W (pj lw) 10 36 L S k n H Q) := W_if_ne (rfl : (pj lw).1 10 31 = some (.ifCond .ne 5, 3, 0)) rfl
theorem w10_34 : W (pj lw) 10 34 L S k n H Q ↔ W (pj lw) 10 35 L (.int (-1) :: S) k n H Q := W_s (rfl : (pj lw).1 10 34 = some (.iconst (-1), 1, 0)) rfl rfl rfl
theorem w10_35 {x : Int32} : W (pj lw) 10 35 L (.int x :: S) k n H Q ↔ Q (some (.int x)) H := W_r (rfl : (pj lw).1 10 35 = some (.ireturn, 1, 0)) rfl
theorem w10_36 {x : Nat} : W (pj lw) 10 36 (.val (.ref x) :: L) S k n H Q ↔ W (pj lw) 10 37 (.val (.ref x) :: L) (.ref x :: S) k n H Q := W_s (rfl : (pj lw).1 10 36 = some (.aload_n 0, 1, 0)) rfl rfl rfl
theorem w10_37 {a : Nat} : W (pj lw) 10 37 L (.ref a :: S) k n H Q ↔ (isO H a = true ∧ W (pj lw) 10 40 L (fld H a 18 :: S) k n H Q) := W_getf (rfl : (pj lw).1 10 37 = some (.getfield 46, 3, 18))
theorem w10_40 {x : Nat} : W (pj lw) 10 40 (.val (.ref x) :: L) S k n H Q ↔ W (pj lw) 10 41 (.val (.ref x) :: L) (.ref x :: S) k n H Q := W_s (rfl : (pj lw).1 10 40 = some (.aload_n 0, 1, 0)) rfl rfl rfl
theorem w10_41 {x : Int32} {l0 : Slot} : W (pj lw) 10 41 (l0 :: .val (.int x) :: L) S k n H Q ↔ W (pj lw) 10 42 (l0 :: .val (.int x) :: L) (.int x :: S) k n H Q := W_s (rfl : (pj lw).1 10 41 = some (.iload_n 1, 1, 0)) rfl rfl rfl
theorem w10_42 {x : Int32} {l0 l1 : Slot} : W (pj lw) 10 42 (l0 :: l1 :: .val (.int x) :: L) S k n H Q ↔ W (pj lw) 10 43 (l0 :: l1 :: .val (.int x) :: L) (.int x :: S) k n H Q := W_s (rfl : (pj lw).1 10 42 = some (.iload_n 2, 1, 0)) rfl rfl rfl
theorem w10_43 {a : Nat} {x0 : Int32} {x1 : Int32} : W (pj lw) 10 43 L (.int x1 :: .int x0 :: .ref a :: S) k n H Q ↔ ((isO H a = true ∧ cs S + (3 + 11) + 0 ≤ 28) ∧ Cl (pj lw) 18 [.ref a, .int x0, .int x1] H (fun v H => W (pj lw) 10 46 L (v.toList ++ S) k n H Q)) := W_inst (as := [.int x0, .int x1]) (rfl : (pj lw).1 10 43 = some (.invokevirtual 83, 3, 18)) rfl rfl rfl (Nat.le_of_ble_eq_true rfl) (Nat.le_of_ble_eq_true rfl) ⟨rfl, rfl⟩
theorem w10_46 {i : Int32} {a : Nat} : W (pj lw) 10 46 L (.int i :: .ref a :: S) k n H Q ↔ (inA H a .int i = true ∧ W (pj lw) 10 47 L (elt H a i :: S) k n H Q) := W_iaload (rfl : (pj lw).1 10 46 = some (.iaload, 1, 0))
theorem w10_47 {x : Int32} : W (pj lw) 10 47 L (.int x :: S) k n H Q ↔ Q (some (.int x)) H := W_r (rfl : (pj lw).1 10 47 = some (.ireturn, 1, 0)) rfl
theorem c11 {x0 : Nat} {x1 : Int32} : Cl (pj lw) 11 [.ref x0, .int x1] H Q ↔ W (pj lw) 11 0 [.val (.ref x0), .val (.int x1), .unset, .unset] [] 0 0 H Q := cl_unf rfl
theorem w11_0 {x : Int32} {l0 : Slot} : W (pj lw) 11 0 (l0 :: .val (.int x) :: L) S k n H Q ↔ W (pj lw) 11 1 (l0 :: .val (.int x) :: L) (.int x :: S) k n H Q := W_s (rfl : (pj lw).1 11 0 = some (.iload_n 1, 1, 0)) rfl rfl rfl
theorem w11_1 {x : Int32} : W (pj lw) 11 1 L (.int x :: S) k n H Q ↔ (if x < 0 then W (pj lw) 11 12 L S k n H Q else W (pj lw) 11 4 L S k n H Q) := W_if_lt (rfl : (pj lw).1 11 1 = some (.ifCond .lt 11, 3, 0)) rfl
theorem w11_4 {x : Int32} {l0 : Slot} : W (pj lw) 11 4 (l0 :: .val (.int x) :: L) S k n H Q ↔ W (pj lw) 11 5 (l0 :: .val (.int x) :: L) (.int x :: S) k n H Q := W_s (rfl : (pj lw).1 11 4 = some (.iload_n 1, 1, 0)) rfl rfl rfl
theorem w11_5 {x : Nat} : W (pj lw) 11 5 (.val (.ref x) :: L) S k n H Q ↔ W (pj lw) 11 6 (.val (.ref x) :: L) (.ref x :: S) k n H Q := W_s (rfl : (pj lw).1 11 5 = some (.aload_n 0, 1, 0)) rfl rfl rfl
theorem w11_6 {a : Nat} : W (pj lw) 11 6 L (.ref a :: S) k n H Q ↔ (isO H a = true ∧ W (pj lw) 11 9 L (fld H a 1 :: S) k n H Q) := W_getf (rfl : (pj lw).1 11 6 = some (.getfield 57, 3, 1))
theorem w11_9 {x y : Int32} : W (pj lw) 11 9 L (.int y :: .int x :: S) k n H Q ↔ (if x < y then W (pj lw) 11 15 L S k n H Q else W (pj lw) 11 12 L S k n H Q) := W_icmp_lt (rfl : (pj lw).1 11 9 = some (.if_icmp .lt 6, 3, 0)) rfl
theorem w11_12 : W (pj lw) 11 12 L S k n H Q ↔ W (pj lw) 11 14 L (.int (-99) :: S) k n H Q := W_s (rfl : (pj lw).1 11 12 = some (.bipush (-99), 2, 0)) rfl rfl rfl
theorem w11_14 {x : Int32} : W (pj lw) 11 14 L (.int x :: S) k n H Q ↔ Q (some (.int x)) H := W_r (rfl : (pj lw).1 11 14 = some (.ireturn, 1, 0)) rfl
theorem w11_15 : W (pj lw) 11 15 L S k n H Q ↔ W (pj lw) 11 16 L (.int 0 :: S) k n H Q := W_s (rfl : (pj lw).1 11 15 = some (.iconst 0, 1, 0)) rfl rfl rfl
theorem w11_16 {x : Int32} {l0 l1 : Slot} : W (pj lw) 11 16 (l0 :: l1 :: .unset :: L) (.int x :: S) k n H Q ↔ W (pj lw) 11 17 (l0 :: l1 :: .val (.int x) :: L) S k n H Q := W_istn (rfl : (pj lw).1 11 16 = some (.istore_n 2, 1, 0)) rfl rfl
theorem w11_17 : W (pj lw) 11 17 L S k n H Q ↔ W (pj lw) 11 18 L (.int 0 :: S) k n H Q := W_s (rfl : (pj lw).1 11 17 = some (.iconst 0, 1, 0)) rfl rfl rfl
theorem w11_18 {x : Int32} {l0 l1 l2 : Slot} : W (pj lw) 11 18 (l0 :: l1 :: l2 :: .unset :: L) (.int x :: S) k n H Q ↔ W (pj lw) 11 19 (l0 :: l1 :: l2 :: .val (.int x) :: L) S k n H Q := W_istn (rfl : (pj lw).1 11 18 = some (.istore_n 3, 1, 0)) rfl rfl
theorem w11_19 {x : Int32} {l0 l1 l2 : Slot} : W (pj lw) 11 19 (l0 :: l1 :: l2 :: .val (.int x) :: L) S k n H Q ↔ W (pj lw) 11 20 (l0 :: l1 :: l2 :: .val (.int x) :: L) (.int x :: S) k n H Q := W_s (rfl : (pj lw).1 11 19 = some (.iload_n 3, 1, 0)) rfl rfl rfl
theorem w11_20 {x : Nat} : W (pj lw) 11 20 (.val (.ref x) :: L) S k n H Q ↔ W (pj lw) 11 21 (.val (.ref x) :: L) (.ref x :: S) k n H Q := W_s (rfl : (pj lw).1 11 20 = some (.aload_n 0, 1, 0)) rfl rfl rfl
theorem w11_21 {a : Nat} : W (pj lw) 11 21 L (.ref a :: S) k n H Q ↔ (isO H a = true ∧ W (pj lw) 11 24 L (fld H a 4 :: S) k n H Q) := W_getf (rfl : (pj lw).1 11 21 = some (.getfield 63, 3, 4))
theorem w11_24 {x y : Int32} : W (pj lw) 11 24 L (.int y :: .int x :: S) k n H Q ↔ (if x < y then W (pj lw) 11 27 L S k n H Q else W (pj lw) 11 56 L S k n H Q) := W_icmp_ge (rfl : (pj lw).1 11 24 = some (.if_icmp .ge 32, 3, 0)) rfl
theorem w11_27 {x : Nat} : W (pj lw) 11 27 (.val (.ref x) :: L) S k n H Q ↔ W (pj lw) 11 28 (.val (.ref x) :: L) (.ref x :: S) k n H Q := W_s (rfl : (pj lw).1 11 27 = some (.aload_n 0, 1, 0)) rfl rfl rfl
theorem w11_28 {a : Nat} : W (pj lw) 11 28 L (.ref a :: S) k n H Q ↔ (isO H a = true ∧ W (pj lw) 11 31 L (fld H a 11 :: S) k n H Q) := W_getf (rfl : (pj lw).1 11 28 = some (.getfield 25, 3, 11))
theorem w11_31 {x : Int32} {l0 l1 l2 : Slot} : W (pj lw) 11 31 (l0 :: l1 :: l2 :: .val (.int x) :: L) S k n H Q ↔ W (pj lw) 11 32 (l0 :: l1 :: l2 :: .val (.int x) :: L) (.int x :: S) k n H Q := W_s (rfl : (pj lw).1 11 31 = some (.iload_n 3, 1, 0)) rfl rfl rfl
theorem w11_32 {i : Int32} {a : Nat} : W (pj lw) 11 32 L (.int i :: .ref a :: S) k n H Q ↔ (inA H a .int i = true ∧ W (pj lw) 11 33 L (elt H a i :: S) k n H Q) := W_iaload (rfl : (pj lw).1 11 32 = some (.iaload, 1, 0))
theorem w11_33 : W (pj lw) 11 33 L S k n H Q ↔ W (pj lw) 11 34 L (.int 1 :: S) k n H Q := W_s (rfl : (pj lw).1 11 33 = some (.iconst 1, 1, 0)) rfl rfl rfl
theorem w11_34 {x y : Int32} : W (pj lw) 11 34 L (.int y :: .int x :: S) k n H Q ↔ (if x = y then W (pj lw) 11 37 L S k n H Q else W (pj lw) 11 50 L S k n H Q) := W_icmp_ne (rfl : (pj lw).1 11 34 = some (.if_icmp .ne 16, 3, 0)) rfl
theorem w11_37 {x : Nat} : W (pj lw) 11 37 (.val (.ref x) :: L) S k n H Q ↔ W (pj lw) 11 38 (.val (.ref x) :: L) (.ref x :: S) k n H Q := W_s (rfl : (pj lw).1 11 37 = some (.aload_n 0, 1, 0)) rfl rfl rfl
theorem w11_38 {a : Nat} : W (pj lw) 11 38 L (.ref a :: S) k n H Q ↔ (isO H a = true ∧ W (pj lw) 11 41 L (fld H a 12 :: S) k n H Q) := W_getf (rfl : (pj lw).1 11 38 = some (.getfield 28, 3, 12))
theorem w11_41 {x : Int32} {l0 l1 l2 : Slot} : W (pj lw) 11 41 (l0 :: l1 :: l2 :: .val (.int x) :: L) S k n H Q ↔ W (pj lw) 11 42 (l0 :: l1 :: l2 :: .val (.int x) :: L) (.int x :: S) k n H Q := W_s (rfl : (pj lw).1 11 41 = some (.iload_n 3, 1, 0)) rfl rfl rfl
theorem w11_42 {i : Int32} {a : Nat} : W (pj lw) 11 42 L (.int i :: .ref a :: S) k n H Q ↔ (inA H a .int i = true ∧ W (pj lw) 11 43 L (elt H a i :: S) k n H Q) := W_iaload (rfl : (pj lw).1 11 42 = some (.iaload, 1, 0))
theorem w11_43 {x : Int32} {l0 : Slot} : W (pj lw) 11 43 (l0 :: .val (.int x) :: L) S k n H Q ↔ W (pj lw) 11 44 (l0 :: .val (.int x) :: L) (.int x :: S) k n H Q := W_s (rfl : (pj lw).1 11 43 = some (.iload_n 1, 1, 0)) rfl rfl rfl
theorem w11_44 {x y : Int32} : W (pj lw) 11 44 L (.int y :: .int x :: S) k n H Q ↔ (if x = y then W (pj lw) 11 47 L S k n H Q else W (pj lw) 11 50 L S k n H Q) := W_icmp_ne (rfl : (pj lw).1 11 44 = some (.if_icmp .ne 6, 3, 0)) rfl
theorem w11_47 {x : Int32} {l0 l1 : Slot} : W (pj lw) 11 47 (l0 :: l1 :: .val (.int x) :: L) S k n H Q ↔ W (pj lw) 11 50 (l0 :: l1 :: .val (.int (x + 1)) :: L) S k n H Q := W_s (rfl : (pj lw).1 11 47 = some (.iinc 2 1, 3, 0)) rfl rfl rfl
theorem w11_50 {x : Int32} {l0 l1 l2 : Slot} : W (pj lw) 11 50 (l0 :: l1 :: l2 :: .val (.int x) :: L) S k n H Q ↔ W (pj lw) 11 53 (l0 :: l1 :: l2 :: .val (.int (x + 1)) :: L) S k n H Q := W_s (rfl : (pj lw).1 11 50 = some (.iinc 3 1, 3, 0)) rfl rfl rfl
theorem w11_53 : W (pj lw) 11 53 L S k n H Q ↔ W (pj lw) 11 19 L S k n H Q := W_goto (rfl : (pj lw).1 11 53 = some (.goto (-34), 3, 0)) rfl
theorem w11_56 {x : Int32} {l0 l1 : Slot} : W (pj lw) 11 56 (l0 :: l1 :: .val (.int x) :: L) S k n H Q ↔ W (pj lw) 11 57 (l0 :: l1 :: .val (.int x) :: L) (.int x :: S) k n H Q := W_s (rfl : (pj lw).1 11 56 = some (.iload_n 2, 1, 0)) rfl rfl rfl
theorem w11_57 {x : Int32} : W (pj lw) 11 57 L (.int x :: S) k n H Q ↔ Q (some (.int x)) H := W_r (rfl : (pj lw).1 11 57 = some (.ireturn, 1, 0)) rfl
theorem c12 {x0 : Nat} : Cl (pj lw) 12 [.ref x0] H Q ↔ W (pj lw) 12 0 [.val (.ref x0), .unset, .unset] [] 0 0 H Q := cl_unf rfl
theorem w12_0 : W (pj lw) 12 0 L S k n H Q ↔ W (pj lw) 12 1 L (.int 0 :: S) k n H Q := W_s (rfl : (pj lw).1 12 0 = some (.iconst 0, 1, 0)) rfl rfl rfl
theorem w12_1 {x : Int32} {l0 : Slot} : W (pj lw) 12 1 (l0 :: .unset :: L) (.int x :: S) k n H Q ↔ W (pj lw) 12 2 (l0 :: .val (.int x) :: L) S k n H Q := W_istn (rfl : (pj lw).1 12 1 = some (.istore_n 1, 1, 0)) rfl rfl
theorem w12_2 : W (pj lw) 12 2 L S k n H Q ↔ W (pj lw) 12 3 L (.int 0 :: S) k n H Q := W_s (rfl : (pj lw).1 12 2 = some (.iconst 0, 1, 0)) rfl rfl rfl
theorem w12_3 {x : Int32} {l0 l1 : Slot} : W (pj lw) 12 3 (l0 :: l1 :: .unset :: L) (.int x :: S) k n H Q ↔ W (pj lw) 12 4 (l0 :: l1 :: .val (.int x) :: L) S k n H Q := W_istn (rfl : (pj lw).1 12 3 = some (.istore_n 2, 1, 0)) rfl rfl
theorem w12_4 {x : Int32} {l0 l1 : Slot} : W (pj lw) 12 4 (l0 :: l1 :: .val (.int x) :: L) S k n H Q ↔ W (pj lw) 12 5 (l0 :: l1 :: .val (.int x) :: L) (.int x :: S) k n H Q := W_s (rfl : (pj lw).1 12 4 = some (.iload_n 2, 1, 0)) rfl rfl rfl
theorem w12_5 {x : Nat} : W (pj lw) 12 5 (.val (.ref x) :: L) S k n H Q ↔ W (pj lw) 12 6 (.val (.ref x) :: L) (.ref x :: S) k n H Q := W_s (rfl : (pj lw).1 12 5 = some (.aload_n 0, 1, 0)) rfl rfl rfl
theorem w12_6 {a : Nat} : W (pj lw) 12 6 L (.ref a :: S) k n H Q ↔ (isO H a = true ∧ W (pj lw) 12 9 L (fld H a 4 :: S) k n H Q) := W_getf (rfl : (pj lw).1 12 6 = some (.getfield 63, 3, 4))
theorem w12_9 {x y : Int32} : W (pj lw) 12 9 L (.int y :: .int x :: S) k n H Q ↔ (if x < y then W (pj lw) 12 12 L S k n H Q else W (pj lw) 12 44 L S k n H Q) := W_icmp_ge (rfl : (pj lw).1 12 9 = some (.if_icmp .ge 35, 3, 0)) rfl
theorem w12_12 {x : Nat} : W (pj lw) 12 12 (.val (.ref x) :: L) S k n H Q ↔ W (pj lw) 12 13 (.val (.ref x) :: L) (.ref x :: S) k n H Q := W_s (rfl : (pj lw).1 12 12 = some (.aload_n 0, 1, 0)) rfl rfl rfl
theorem w12_13 {a : Nat} : W (pj lw) 12 13 L (.ref a :: S) k n H Q ↔ (isO H a = true ∧ W (pj lw) 12 16 L (fld H a 15 :: S) k n H Q) := W_getf (rfl : (pj lw).1 12 13 = some (.getfield 37, 3, 15))
theorem w12_16 {x : Int32} {l0 l1 : Slot} : W (pj lw) 12 16 (l0 :: l1 :: .val (.int x) :: L) S k n H Q ↔ W (pj lw) 12 17 (l0 :: l1 :: .val (.int x) :: L) (.int x :: S) k n H Q := W_s (rfl : (pj lw).1 12 16 = some (.iload_n 2, 1, 0)) rfl rfl rfl
theorem w12_17 {i : Int32} {a : Nat} : W (pj lw) 12 17 L (.int i :: .ref a :: S) k n H Q ↔ (inA H a .int i = true ∧ W (pj lw) 12 18 L (elt H a i :: S) k n H Q) := W_iaload (rfl : (pj lw).1 12 17 = some (.iaload, 1, 0))
theorem w12_18 : W (pj lw) 12 18 L S k n H Q ↔ W (pj lw) 12 19 L (.int (-1) :: S) k n H Q := W_s (rfl : (pj lw).1 12 18 = some (.iconst (-1), 1, 0)) rfl rfl rfl
theorem w12_19 {x y : Int32} : W (pj lw) 12 19 L (.int y :: .int x :: S) k n H Q ↔ (if x = y then W (pj lw) 12 38 L S k n H Q else W (pj lw) 12 22 L S k n H Q) := W_icmp_eq (rfl : (pj lw).1 12 19 = some (.if_icmp .eq 19, 3, 0)) rfl
theorem w12_22 {x : Int32} {l0 : Slot} : W (pj lw) 12 22 (l0 :: .val (.int x) :: L) S k n H Q ↔ W (pj lw) 12 23 (l0 :: .val (.int x) :: L) (.int x :: S) k n H Q := W_s (rfl : (pj lw).1 12 22 = some (.iload_n 1, 1, 0)) rfl rfl rfl
theorem w12_23 {x : Nat} : W (pj lw) 12 23 (.val (.ref x) :: L) S k n H Q ↔ W (pj lw) 12 24 (.val (.ref x) :: L) (.ref x :: S) k n H Q := W_s (rfl : (pj lw).1 12 23 = some (.aload_n 0, 1, 0)) rfl rfl rfl
theorem w12_24 {a : Nat} : W (pj lw) 12 24 L (.ref a :: S) k n H Q ↔ (isO H a = true ∧ W (pj lw) 12 27 L (fld H a 15 :: S) k n H Q) := W_getf (rfl : (pj lw).1 12 24 = some (.getfield 37, 3, 15))
theorem w12_27 {x : Int32} {l0 l1 : Slot} : W (pj lw) 12 27 (l0 :: l1 :: .val (.int x) :: L) S k n H Q ↔ W (pj lw) 12 28 (l0 :: l1 :: .val (.int x) :: L) (.int x :: S) k n H Q := W_s (rfl : (pj lw).1 12 27 = some (.iload_n 2, 1, 0)) rfl rfl rfl
theorem w12_28 {i : Int32} {a : Nat} : W (pj lw) 12 28 L (.int i :: .ref a :: S) k n H Q ↔ (inA H a .int i = true ∧ W (pj lw) 12 29 L (elt H a i :: S) k n H Q) := W_iaload (rfl : (pj lw).1 12 28 = some (.iaload, 1, 0))
theorem w12_29 {x : Nat} : W (pj lw) 12 29 (.val (.ref x) :: L) S k n H Q ↔ W (pj lw) 12 30 (.val (.ref x) :: L) (.ref x :: S) k n H Q := W_s (rfl : (pj lw).1 12 29 = some (.aload_n 0, 1, 0)) rfl rfl rfl
theorem w12_30 {a : Nat} : W (pj lw) 12 30 L (.ref a :: S) k n H Q ↔ (isO H a = true ∧ W (pj lw) 12 33 L (fld H a 14 :: S) k n H Q) := W_getf (rfl : (pj lw).1 12 30 = some (.getfield 34, 3, 14))
theorem w12_33 {x : Int32} {l0 l1 : Slot} : W (pj lw) 12 33 (l0 :: l1 :: .val (.int x) :: L) S k n H Q ↔ W (pj lw) 12 34 (l0 :: l1 :: .val (.int x) :: L) (.int x :: S) k n H Q := W_s (rfl : (pj lw).1 12 33 = some (.iload_n 2, 1, 0)) rfl rfl rfl
theorem w12_34 {i : Int32} {a : Nat} : W (pj lw) 12 34 L (.int i :: .ref a :: S) k n H Q ↔ (inA H a .int i = true ∧ W (pj lw) 12 35 L (elt H a i :: S) k n H Q) := W_iaload (rfl : (pj lw).1 12 34 = some (.iaload, 1, 0))
theorem w12_35 {x y : Int32} : W (pj lw) 12 35 L (.int y :: .int x :: S) k n H Q ↔ W (pj lw) 12 36 L (.int (x - y) :: S) k n H Q := W_s (rfl : (pj lw).1 12 35 = some (.isub, 1, 0)) rfl rfl rfl
theorem w12_36 {x y : Int32} : W (pj lw) 12 36 L (.int y :: .int x :: S) k n H Q ↔ W (pj lw) 12 37 L (.int (x + y) :: S) k n H Q := W_s (rfl : (pj lw).1 12 36 = some (.iadd, 1, 0)) rfl rfl rfl
theorem w12_37i {y : Int32} {x : Int32} {l0 : Slot} : W (pj lw) 12 37 (l0 :: .val (.int y) :: L) (.int x :: S) k n H Q ↔ W (pj lw) 12 38 (l0 :: .val (.int x) :: L) S k n H Q := W_istn (rfl : (pj lw).1 12 37 = some (.istore_n 1, 1, 0)) rfl rfl
theorem w12_38 {x : Int32} {l0 l1 : Slot} : W (pj lw) 12 38 (l0 :: l1 :: .val (.int x) :: L) S k n H Q ↔ W (pj lw) 12 41 (l0 :: l1 :: .val (.int (x + 1)) :: L) S k n H Q := W_s (rfl : (pj lw).1 12 38 = some (.iinc 2 1, 3, 0)) rfl rfl rfl
theorem w12_41 : W (pj lw) 12 41 L S k n H Q ↔ W (pj lw) 12 4 L S k n H Q := W_goto (rfl : (pj lw).1 12 41 = some (.goto (-37), 3, 0)) rfl
theorem w12_44 {x : Int32} {l0 : Slot} : W (pj lw) 12 44 (l0 :: .val (.int x) :: L) S k n H Q ↔ W (pj lw) 12 45 (l0 :: .val (.int x) :: L) (.int x :: S) k n H Q := W_s (rfl : (pj lw).1 12 44 = some (.iload_n 1, 1, 0)) rfl rfl rfl
theorem w12_45 {x : Int32} : W (pj lw) 12 45 L (.int x :: S) k n H Q ↔ Q (some (.int x)) H := W_r (rfl : (pj lw).1 12 45 = some (.ireturn, 1, 0)) rfl
theorem c13 {x0 : Nat} : Cl (pj lw) 13 [.ref x0] H Q ↔ W (pj lw) 13 0 [.val (.ref x0), .unset, .unset] [] 0 0 H Q := cl_unf rfl
theorem w13_0 : W (pj lw) 13 0 L S k n H Q ↔ W (pj lw) 13 1 L (.int 0 :: S) k n H Q := W_s (rfl : (pj lw).1 13 0 = some (.iconst 0, 1, 0)) rfl rfl rfl
theorem w13_1 {x : Int32} {l0 : Slot} : W (pj lw) 13 1 (l0 :: .unset :: L) (.int x :: S) k n H Q ↔ W (pj lw) 13 2 (l0 :: .val (.int x) :: L) S k n H Q := W_istn (rfl : (pj lw).1 13 1 = some (.istore_n 1, 1, 0)) rfl rfl
theorem w13_2 : W (pj lw) 13 2 L S k n H Q ↔ W (pj lw) 13 3 L (.int 0 :: S) k n H Q := W_s (rfl : (pj lw).1 13 2 = some (.iconst 0, 1, 0)) rfl rfl rfl
theorem w13_3 {x : Int32} {l0 l1 : Slot} : W (pj lw) 13 3 (l0 :: l1 :: .unset :: L) (.int x :: S) k n H Q ↔ W (pj lw) 13 4 (l0 :: l1 :: .val (.int x) :: L) S k n H Q := W_istn (rfl : (pj lw).1 13 3 = some (.istore_n 2, 1, 0)) rfl rfl
theorem w13_4 {x : Int32} {l0 l1 : Slot} : W (pj lw) 13 4 (l0 :: l1 :: .val (.int x) :: L) S k n H Q ↔ W (pj lw) 13 5 (l0 :: l1 :: .val (.int x) :: L) (.int x :: S) k n H Q := W_s (rfl : (pj lw).1 13 4 = some (.iload_n 2, 1, 0)) rfl rfl rfl
theorem w13_5 {x : Nat} : W (pj lw) 13 5 (.val (.ref x) :: L) S k n H Q ↔ W (pj lw) 13 6 (.val (.ref x) :: L) (.ref x :: S) k n H Q := W_s (rfl : (pj lw).1 13 5 = some (.aload_n 0, 1, 0)) rfl rfl rfl
theorem w13_6 {a : Nat} : W (pj lw) 13 6 L (.ref a :: S) k n H Q ↔ (isO H a = true ∧ W (pj lw) 13 9 L (fld H a 4 :: S) k n H Q) := W_getf (rfl : (pj lw).1 13 6 = some (.getfield 63, 3, 4))
theorem w13_9 {x y : Int32} : W (pj lw) 13 9 L (.int y :: .int x :: S) k n H Q ↔ (if x < y then W (pj lw) 13 12 L S k n H Q else W (pj lw) 13 44 L S k n H Q) := W_icmp_ge (rfl : (pj lw).1 13 9 = some (.if_icmp .ge 35, 3, 0)) rfl
theorem w13_12 {x : Nat} : W (pj lw) 13 12 (.val (.ref x) :: L) S k n H Q ↔ W (pj lw) 13 13 (.val (.ref x) :: L) (.ref x :: S) k n H Q := W_s (rfl : (pj lw).1 13 12 = some (.aload_n 0, 1, 0)) rfl rfl rfl
theorem w13_13 {a : Nat} : W (pj lw) 13 13 L (.ref a :: S) k n H Q ↔ (isO H a = true ∧ W (pj lw) 13 16 L (fld H a 11 :: S) k n H Q) := W_getf (rfl : (pj lw).1 13 13 = some (.getfield 25, 3, 11))
theorem w13_16 {x : Int32} {l0 l1 : Slot} : W (pj lw) 13 16 (l0 :: l1 :: .val (.int x) :: L) S k n H Q ↔ W (pj lw) 13 17 (l0 :: l1 :: .val (.int x) :: L) (.int x :: S) k n H Q := W_s (rfl : (pj lw).1 13 16 = some (.iload_n 2, 1, 0)) rfl rfl rfl
theorem w13_17 {i : Int32} {a : Nat} : W (pj lw) 13 17 L (.int i :: .ref a :: S) k n H Q ↔ (inA H a .int i = true ∧ W (pj lw) 13 18 L (elt H a i :: S) k n H Q) := W_iaload (rfl : (pj lw).1 13 17 = some (.iaload, 1, 0))
theorem w13_18 : W (pj lw) 13 18 L S k n H Q ↔ W (pj lw) 13 19 L (.int 3 :: S) k n H Q := W_s (rfl : (pj lw).1 13 18 = some (.iconst 3, 1, 0)) rfl rfl rfl
theorem w13_19 {x y : Int32} : W (pj lw) 13 19 L (.int y :: .int x :: S) k n H Q ↔ (if x = y then W (pj lw) 13 22 L S k n H Q else W (pj lw) 13 38 L S k n H Q) := W_icmp_ne (rfl : (pj lw).1 13 19 = some (.if_icmp .ne 19, 3, 0)) rfl
theorem w13_22 {x : Int32} {l0 : Slot} : W (pj lw) 13 22 (l0 :: .val (.int x) :: L) S k n H Q ↔ W (pj lw) 13 23 (l0 :: .val (.int x) :: L) (.int x :: S) k n H Q := W_s (rfl : (pj lw).1 13 22 = some (.iload_n 1, 1, 0)) rfl rfl rfl
theorem w13_23 {x : Nat} : W (pj lw) 13 23 (.val (.ref x) :: L) S k n H Q ↔ W (pj lw) 13 24 (.val (.ref x) :: L) (.ref x :: S) k n H Q := W_s (rfl : (pj lw).1 13 23 = some (.aload_n 0, 1, 0)) rfl rfl rfl
theorem w13_24 {a : Nat} : W (pj lw) 13 24 L (.ref a :: S) k n H Q ↔ (isO H a = true ∧ W (pj lw) 13 27 L (fld H a 16 :: S) k n H Q) := W_getf (rfl : (pj lw).1 13 24 = some (.getfield 40, 3, 16))
theorem w13_27 {x : Int32} {l0 l1 : Slot} : W (pj lw) 13 27 (l0 :: l1 :: .val (.int x) :: L) S k n H Q ↔ W (pj lw) 13 28 (l0 :: l1 :: .val (.int x) :: L) (.int x :: S) k n H Q := W_s (rfl : (pj lw).1 13 27 = some (.iload_n 2, 1, 0)) rfl rfl rfl
theorem w13_28 {i : Int32} {a : Nat} : W (pj lw) 13 28 L (.int i :: .ref a :: S) k n H Q ↔ (inA H a .int i = true ∧ W (pj lw) 13 29 L (elt H a i :: S) k n H Q) := W_iaload (rfl : (pj lw).1 13 28 = some (.iaload, 1, 0))
theorem w13_29 {x : Nat} : W (pj lw) 13 29 (.val (.ref x) :: L) S k n H Q ↔ W (pj lw) 13 30 (.val (.ref x) :: L) (.ref x :: S) k n H Q := W_s (rfl : (pj lw).1 13 29 = some (.aload_n 0, 1, 0)) rfl rfl rfl
theorem w13_30 {a : Nat} : W (pj lw) 13 30 L (.ref a :: S) k n H Q ↔ (isO H a = true ∧ W (pj lw) 13 33 L (fld H a 14 :: S) k n H Q) := W_getf (rfl : (pj lw).1 13 30 = some (.getfield 34, 3, 14))
theorem w13_33 {x : Int32} {l0 l1 : Slot} : W (pj lw) 13 33 (l0 :: l1 :: .val (.int x) :: L) S k n H Q ↔ W (pj lw) 13 34 (l0 :: l1 :: .val (.int x) :: L) (.int x :: S) k n H Q := W_s (rfl : (pj lw).1 13 33 = some (.iload_n 2, 1, 0)) rfl rfl rfl
theorem w13_34 {i : Int32} {a : Nat} : W (pj lw) 13 34 L (.int i :: .ref a :: S) k n H Q ↔ (inA H a .int i = true ∧ W (pj lw) 13 35 L (elt H a i :: S) k n H Q) := W_iaload (rfl : (pj lw).1 13 34 = some (.iaload, 1, 0))
theorem w13_35 {x y : Int32} : W (pj lw) 13 35 L (.int y :: .int x :: S) k n H Q ↔ W (pj lw) 13 36 L (.int (x - y) :: S) k n H Q := W_s (rfl : (pj lw).1 13 35 = some (.isub, 1, 0)) rfl rfl rfl
theorem w13_36 {x y : Int32} : W (pj lw) 13 36 L (.int y :: .int x :: S) k n H Q ↔ W (pj lw) 13 37 L (.int (x + y) :: S) k n H Q := W_s (rfl : (pj lw).1 13 36 = some (.iadd, 1, 0)) rfl rfl rfl
theorem w13_37i {y : Int32} {x : Int32} {l0 : Slot} : W (pj lw) 13 37 (l0 :: .val (.int y) :: L) (.int x :: S) k n H Q ↔ W (pj lw) 13 38 (l0 :: .val (.int x) :: L) S k n H Q := W_istn (rfl : (pj lw).1 13 37 = some (.istore_n 1, 1, 0)) rfl rfl
theorem w13_38 {x : Int32} {l0 l1 : Slot} : W (pj lw) 13 38 (l0 :: l1 :: .val (.int x) :: L) S k n H Q ↔ W (pj lw) 13 41 (l0 :: l1 :: .val (.int (x + 1)) :: L) S k n H Q := W_s (rfl : (pj lw).1 13 38 = some (.iinc 2 1, 3, 0)) rfl rfl rfl
theorem w13_41 : W (pj lw) 13 41 L S k n H Q ↔ W (pj lw) 13 4 L S k n H Q := W_goto (rfl : (pj lw).1 13 41 = some (.goto (-37), 3, 0)) rfl
theorem w13_44 {x : Int32} {l0 : Slot} : W (pj lw) 13 44 (l0 :: .val (.int x) :: L) S k n H Q ↔ W (pj lw) 13 45 (l0 :: .val (.int x) :: L) (.int x :: S) k n H Q := W_s (rfl : (pj lw).1 13 44 = some (.iload_n 1, 1, 0)) rfl rfl rfl
theorem w13_45 {x : Int32} : W (pj lw) 13 45 L (.int x :: S) k n H Q ↔ Q (some (.int x)) H := W_r (rfl : (pj lw).1 13 45 = some (.ireturn, 1, 0)) rfl
theorem c14 {x0 : Nat} {x1 : Int32} {x2 : Int32} : Cl (pj lw) 14 [.ref x0, .int x1, .int x2] H Q ↔ W (pj lw) 14 0 [.val (.ref x0), .val (.int x1), .val (.int x2), .unset, .unset, .unset, .unset] [] 0 0 H Q := cl_unf rfl
theorem w14_0 {x : Int32} {l0 : Slot} : W (pj lw) 14 0 (l0 :: .val (.int x) :: L) S k n H Q ↔ W (pj lw) 14 1 (l0 :: .val (.int x) :: L) (.int x :: S) k n H Q := W_s (rfl : (pj lw).1 14 0 = some (.iload_n 1, 1, 0)) rfl rfl rfl
theorem w14_1 {x : Int32} : W (pj lw) 14 1 L (.int x :: S) k n H Q ↔ (if x = 0 then W (pj lw) 14 9 L S k n H Q else W (pj lw) 14 4 L S k n H Q) := W_if_eq (rfl : (pj lw).1 14 1 = some (.ifCond .eq 8, 3, 0)) rfl
theorem w14_4 {x : Int32} {l0 : Slot} : W (pj lw) 14 4 (l0 :: .val (.int x) :: L) S k n H Q ↔ W (pj lw) 14 5 (l0 :: .val (.int x) :: L) (.int x :: S) k n H Q := W_s (rfl : (pj lw).1 14 4 = some (.iload_n 1, 1, 0)) rfl rfl rfl
theorem w14_5 : W (pj lw) 14 5 L S k n H Q ↔ W (pj lw) 14 6 L (.int 1 :: S) k n H Q := W_s (rfl : (pj lw).1 14 5 = some (.iconst 1, 1, 0)) rfl rfl rfl
theorem w14_6 {x y : Int32} : W (pj lw) 14 6 L (.int y :: .int x :: S) k n H Q ↔ (if x = y then W (pj lw) 14 9 L S k n H Q else W (pj lw) 14 19 L S k n H Q) := W_icmp_ne (rfl : (pj lw).1 14 6 = some (.if_icmp .ne 13, 3, 0)) rfl
theorem w14_9 {x : Int32} {l0 l1 : Slot} : W (pj lw) 14 9 (l0 :: l1 :: .val (.int x) :: L) S k n H Q ↔ W (pj lw) 14 10 (l0 :: l1 :: .val (.int x) :: L) (.int x :: S) k n H Q := W_s (rfl : (pj lw).1 14 9 = some (.iload_n 2, 1, 0)) rfl rfl rfl
theorem w14_10 {x : Int32} : W (pj lw) 14 10 L (.int x :: S) k n H Q ↔ (if x < 0 then W (pj lw) 14 19 L S k n H Q else W (pj lw) 14 13 L S k n H Q) := W_if_lt (rfl : (pj lw).1 14 10 = some (.ifCond .lt 9, 3, 0)) rfl
theorem w14_13 {x : Int32} {l0 l1 : Slot} : W (pj lw) 14 13 (l0 :: l1 :: .val (.int x) :: L) S k n H Q ↔ W (pj lw) 14 14 (l0 :: l1 :: .val (.int x) :: L) (.int x :: S) k n H Q := W_s (rfl : (pj lw).1 14 13 = some (.iload_n 2, 1, 0)) rfl rfl rfl
theorem w14_14 : W (pj lw) 14 14 L S k n H Q ↔ W (pj lw) 14 16 L (.int 7 :: S) k n H Q := W_s (rfl : (pj lw).1 14 14 = some (.bipush 7, 2, 0)) rfl rfl rfl
theorem w14_16 {x y : Int32} : W (pj lw) 14 16 L (.int y :: .int x :: S) k n H Q ↔ (if y < x then W (pj lw) 14 19 L S k n H Q else W (pj lw) 14 22 L S k n H Q) := W_icmp_le (rfl : (pj lw).1 14 16 = some (.if_icmp .le 6, 3, 0)) rfl
theorem w14_19 : W (pj lw) 14 19 L S k n H Q ↔ W (pj lw) 14 21 L (.int (-99) :: S) k n H Q := W_s (rfl : (pj lw).1 14 19 = some (.bipush (-99), 2, 0)) rfl rfl rfl
theorem w14_21 {x : Int32} : W (pj lw) 14 21 L (.int x :: S) k n H Q ↔ Q (some (.int x)) H := W_r (rfl : (pj lw).1 14 21 = some (.ireturn, 1, 0)) rfl
theorem w14_22 : W (pj lw) 14 22 L S k n H Q ↔ W (pj lw) 14 23 L (.int 0 :: S) k n H Q := W_s (rfl : (pj lw).1 14 22 = some (.iconst 0, 1, 0)) rfl rfl rfl
theorem w14_23 {x : Int32} {l0 l1 l2 : Slot} : W (pj lw) 14 23 (l0 :: l1 :: l2 :: .unset :: L) (.int x :: S) k n H Q ↔ W (pj lw) 14 24 (l0 :: l1 :: l2 :: .val (.int x) :: L) S k n H Q := W_istn (rfl : (pj lw).1 14 23 = some (.istore_n 3, 1, 0)) rfl rfl
theorem w14_24 : W (pj lw) 14 24 L S k n H Q ↔ W (pj lw) 14 25 L (.int 0 :: S) k n H Q := W_s (rfl : (pj lw).1 14 24 = some (.iconst 0, 1, 0)) rfl rfl rfl
theorem w14_25 {x : Int32} {l0 l1 l2 l3 : Slot} : W (pj lw) 14 25 (l0 :: l1 :: l2 :: l3 :: .unset :: L) (.int x :: S) k n H Q ↔ W (pj lw) 14 27 (l0 :: l1 :: l2 :: l3 :: .val (.int x) :: L) S k n H Q := W_ist (rfl : (pj lw).1 14 25 = some (.istore 4, 2, 0)) rfl rfl
theorem w14_27 {x : Int32} {l0 l1 l2 l3 : Slot} : W (pj lw) 14 27 (l0 :: l1 :: l2 :: l3 :: .val (.int x) :: L) S k n H Q ↔ W (pj lw) 14 29 (l0 :: l1 :: l2 :: l3 :: .val (.int x) :: L) (.int x :: S) k n H Q := W_s (rfl : (pj lw).1 14 27 = some (.iload 4, 2, 0)) rfl rfl rfl
theorem w14_29 {x : Nat} : W (pj lw) 14 29 (.val (.ref x) :: L) S k n H Q ↔ W (pj lw) 14 30 (.val (.ref x) :: L) (.ref x :: S) k n H Q := W_s (rfl : (pj lw).1 14 29 = some (.aload_n 0, 1, 0)) rfl rfl rfl
theorem w14_30 {a : Nat} : W (pj lw) 14 30 L (.ref a :: S) k n H Q ↔ (isO H a = true ∧ W (pj lw) 14 33 L (fld H a 4 :: S) k n H Q) := W_getf (rfl : (pj lw).1 14 30 = some (.getfield 63, 3, 4))
theorem w14_33 {x y : Int32} : W (pj lw) 14 33 L (.int y :: .int x :: S) k n H Q ↔ (if x < y then W (pj lw) 14 36 L S k n H Q else W (pj lw) 14 137 L S k n H Q) := W_icmp_ge (rfl : (pj lw).1 14 33 = some (.if_icmp .ge 104, 3, 0)) rfl
theorem w14_36 {x : Int32} {l0 : Slot} : W (pj lw) 14 36 (l0 :: .val (.int x) :: L) S k n H Q ↔ W (pj lw) 14 37 (l0 :: .val (.int x) :: L) (.int x :: S) k n H Q := W_s (rfl : (pj lw).1 14 36 = some (.iload_n 1, 1, 0)) rfl rfl rfl
theorem w14_37 {x : Int32} : W (pj lw) 14 37 L (.int x :: S) k n H Q ↔ (if x = 0 then W (pj lw) 14 40 L S k n H Q else W (pj lw) 14 78 L S k n H Q) := W_if_ne (rfl : (pj lw).1 14 37 = some (.ifCond .ne 41, 3, 0)) rfl
theorem w14_40 {x : Nat} : W (pj lw) 14 40 (.val (.ref x) :: L) S k n H Q ↔ W (pj lw) 14 41 (.val (.ref x) :: L) (.ref x :: S) k n H Q := W_s (rfl : (pj lw).1 14 40 = some (.aload_n 0, 1, 0)) rfl rfl rfl
theorem w14_41 {a : Nat} : W (pj lw) 14 41 L (.ref a :: S) k n H Q ↔ (isO H a = true ∧ W (pj lw) 14 44 L (fld H a 15 :: S) k n H Q) := W_getf (rfl : (pj lw).1 14 41 = some (.getfield 37, 3, 15))
theorem w14_44 {x : Int32} {l0 l1 l2 l3 : Slot} : W (pj lw) 14 44 (l0 :: l1 :: l2 :: l3 :: .val (.int x) :: L) S k n H Q ↔ W (pj lw) 14 46 (l0 :: l1 :: l2 :: l3 :: .val (.int x) :: L) (.int x :: S) k n H Q := W_s (rfl : (pj lw).1 14 44 = some (.iload 4, 2, 0)) rfl rfl rfl
theorem w14_46 {i : Int32} {a : Nat} : W (pj lw) 14 46 L (.int i :: .ref a :: S) k n H Q ↔ (inA H a .int i = true ∧ W (pj lw) 14 47 L (elt H a i :: S) k n H Q) := W_iaload (rfl : (pj lw).1 14 46 = some (.iaload, 1, 0))
theorem w14_47 : W (pj lw) 14 47 L S k n H Q ↔ W (pj lw) 14 48 L (.int (-1) :: S) k n H Q := W_s (rfl : (pj lw).1 14 47 = some (.iconst (-1), 1, 0)) rfl rfl rfl
theorem w14_48 {x y : Int32} : W (pj lw) 14 48 L (.int y :: .int x :: S) k n H Q ↔ (if x = y then W (pj lw) 14 55 L S k n H Q else W (pj lw) 14 51 L S k n H Q) := W_icmp_eq (rfl : (pj lw).1 14 48 = some (.if_icmp .eq 7, 3, 0)) rfl
theorem w14_51 : W (pj lw) 14 51 L S k n H Q ↔ W (pj lw) 14 52 L (.int 1 :: S) k n H Q := W_s (rfl : (pj lw).1 14 51 = some (.iconst 1, 1, 0)) rfl rfl rfl
theorem w14_52 : W (pj lw) 14 52 L S k n H Q ↔ W (pj lw) 14 56 L S k n H Q := W_goto (rfl : (pj lw).1 14 52 = some (.goto 4, 3, 0)) rfl
theorem w14_55 : W (pj lw) 14 55 L S k n H Q ↔ W (pj lw) 14 56 L (.int 0 :: S) k n H Q := W_s (rfl : (pj lw).1 14 55 = some (.iconst 0, 1, 0)) rfl rfl rfl
theorem w14_56i {y : Int32} {x : Int32} {l0 l1 l2 l3 l4 : Slot} : W (pj lw) 14 56 (l0 :: l1 :: l2 :: l3 :: l4 :: .val (.int y) :: L) (.int x :: S) k n H Q ↔ W (pj lw) 14 58 (l0 :: l1 :: l2 :: l3 :: l4 :: .val (.int x) :: L) S k n H Q := W_ist (rfl : (pj lw).1 14 56 = some (.istore 5, 2, 0)) rfl rfl
theorem w14_56 {x : Int32} {l0 l1 l2 l3 l4 : Slot} : W (pj lw) 14 56 (l0 :: l1 :: l2 :: l3 :: l4 :: .unset :: L) (.int x :: S) k n H Q ↔ W (pj lw) 14 58 (l0 :: l1 :: l2 :: l3 :: l4 :: .val (.int x) :: L) S k n H Q := W_ist (rfl : (pj lw).1 14 56 = some (.istore 5, 2, 0)) rfl rfl
theorem w14_58 {x : Nat} : W (pj lw) 14 58 (.val (.ref x) :: L) S k n H Q ↔ W (pj lw) 14 59 (.val (.ref x) :: L) (.ref x :: S) k n H Q := W_s (rfl : (pj lw).1 14 58 = some (.aload_n 0, 1, 0)) rfl rfl rfl
theorem w14_59 {a : Nat} : W (pj lw) 14 59 L (.ref a :: S) k n H Q ↔ (isO H a = true ∧ W (pj lw) 14 62 L (fld H a 15 :: S) k n H Q) := W_getf (rfl : (pj lw).1 14 59 = some (.getfield 37, 3, 15))
theorem w14_62 {x : Int32} {l0 l1 l2 l3 : Slot} : W (pj lw) 14 62 (l0 :: l1 :: l2 :: l3 :: .val (.int x) :: L) S k n H Q ↔ W (pj lw) 14 64 (l0 :: l1 :: l2 :: l3 :: .val (.int x) :: L) (.int x :: S) k n H Q := W_s (rfl : (pj lw).1 14 62 = some (.iload 4, 2, 0)) rfl rfl rfl
theorem w14_64 {i : Int32} {a : Nat} : W (pj lw) 14 64 L (.int i :: .ref a :: S) k n H Q ↔ (inA H a .int i = true ∧ W (pj lw) 14 65 L (elt H a i :: S) k n H Q) := W_iaload (rfl : (pj lw).1 14 64 = some (.iaload, 1, 0))
theorem w14_65 {x : Nat} : W (pj lw) 14 65 (.val (.ref x) :: L) S k n H Q ↔ W (pj lw) 14 66 (.val (.ref x) :: L) (.ref x :: S) k n H Q := W_s (rfl : (pj lw).1 14 65 = some (.aload_n 0, 1, 0)) rfl rfl rfl
theorem w14_66 {a : Nat} : W (pj lw) 14 66 L (.ref a :: S) k n H Q ↔ (isO H a = true ∧ W (pj lw) 14 69 L (fld H a 14 :: S) k n H Q) := W_getf (rfl : (pj lw).1 14 66 = some (.getfield 34, 3, 14))
theorem w14_69 {x : Int32} {l0 l1 l2 l3 : Slot} : W (pj lw) 14 69 (l0 :: l1 :: l2 :: l3 :: .val (.int x) :: L) S k n H Q ↔ W (pj lw) 14 71 (l0 :: l1 :: l2 :: l3 :: .val (.int x) :: L) (.int x :: S) k n H Q := W_s (rfl : (pj lw).1 14 69 = some (.iload 4, 2, 0)) rfl rfl rfl
theorem w14_71 {i : Int32} {a : Nat} : W (pj lw) 14 71 L (.int i :: .ref a :: S) k n H Q ↔ (inA H a .int i = true ∧ W (pj lw) 14 72 L (elt H a i :: S) k n H Q) := W_iaload (rfl : (pj lw).1 14 71 = some (.iaload, 1, 0))
theorem w14_72 {x y : Int32} : W (pj lw) 14 72 L (.int y :: .int x :: S) k n H Q ↔ W (pj lw) 14 73 L (.int (x - y) :: S) k n H Q := W_s (rfl : (pj lw).1 14 72 = some (.isub, 1, 0)) rfl rfl rfl
theorem w14_73i {y : Int32} {x : Int32} {l0 l1 l2 l3 l4 l5 : Slot} : W (pj lw) 14 73 (l0 :: l1 :: l2 :: l3 :: l4 :: l5 :: .val (.int y) :: L) (.int x :: S) k n H Q ↔ W (pj lw) 14 75 (l0 :: l1 :: l2 :: l3 :: l4 :: l5 :: .val (.int x) :: L) S k n H Q := W_ist (rfl : (pj lw).1 14 73 = some (.istore 6, 2, 0)) rfl rfl
theorem w14_73 {x : Int32} {l0 l1 l2 l3 l4 l5 : Slot} : W (pj lw) 14 73 (l0 :: l1 :: l2 :: l3 :: l4 :: l5 :: .unset :: L) (.int x :: S) k n H Q ↔ W (pj lw) 14 75 (l0 :: l1 :: l2 :: l3 :: l4 :: l5 :: .val (.int x) :: L) S k n H Q := W_ist (rfl : (pj lw).1 14 73 = some (.istore 6, 2, 0)) rfl rfl
theorem w14_75 : W (pj lw) 14 75 L S k n H Q ↔ W (pj lw) 14 113 L S k n H Q := W_goto (rfl : (pj lw).1 14 75 = some (.goto 38, 3, 0)) rfl
theorem w14_78 {x : Nat} : W (pj lw) 14 78 (.val (.ref x) :: L) S k n H Q ↔ W (pj lw) 14 79 (.val (.ref x) :: L) (.ref x :: S) k n H Q := W_s (rfl : (pj lw).1 14 78 = some (.aload_n 0, 1, 0)) rfl rfl rfl
theorem w14_79 {a : Nat} : W (pj lw) 14 79 L (.ref a :: S) k n H Q ↔ (isO H a = true ∧ W (pj lw) 14 82 L (fld H a 11 :: S) k n H Q) := W_getf (rfl : (pj lw).1 14 79 = some (.getfield 25, 3, 11))
theorem w14_82 {x : Int32} {l0 l1 l2 l3 : Slot} : W (pj lw) 14 82 (l0 :: l1 :: l2 :: l3 :: .val (.int x) :: L) S k n H Q ↔ W (pj lw) 14 84 (l0 :: l1 :: l2 :: l3 :: .val (.int x) :: L) (.int x :: S) k n H Q := W_s (rfl : (pj lw).1 14 82 = some (.iload 4, 2, 0)) rfl rfl rfl
theorem w14_84 {i : Int32} {a : Nat} : W (pj lw) 14 84 L (.int i :: .ref a :: S) k n H Q ↔ (inA H a .int i = true ∧ W (pj lw) 14 85 L (elt H a i :: S) k n H Q) := W_iaload (rfl : (pj lw).1 14 84 = some (.iaload, 1, 0))
theorem w14_85 : W (pj lw) 14 85 L S k n H Q ↔ W (pj lw) 14 86 L (.int 3 :: S) k n H Q := W_s (rfl : (pj lw).1 14 85 = some (.iconst 3, 1, 0)) rfl rfl rfl
theorem w14_86 {x y : Int32} : W (pj lw) 14 86 L (.int y :: .int x :: S) k n H Q ↔ (if x = y then W (pj lw) 14 89 L S k n H Q else W (pj lw) 14 93 L S k n H Q) := W_icmp_ne (rfl : (pj lw).1 14 86 = some (.if_icmp .ne 7, 3, 0)) rfl
theorem w14_89 : W (pj lw) 14 89 L S k n H Q ↔ W (pj lw) 14 90 L (.int 1 :: S) k n H Q := W_s (rfl : (pj lw).1 14 89 = some (.iconst 1, 1, 0)) rfl rfl rfl
theorem w14_90 : W (pj lw) 14 90 L S k n H Q ↔ W (pj lw) 14 94 L S k n H Q := W_goto (rfl : (pj lw).1 14 90 = some (.goto 4, 3, 0)) rfl
theorem w14_93 : W (pj lw) 14 93 L S k n H Q ↔ W (pj lw) 14 94 L (.int 0 :: S) k n H Q := W_s (rfl : (pj lw).1 14 93 = some (.iconst 0, 1, 0)) rfl rfl rfl
theorem w14_94i {y : Int32} {x : Int32} {l0 l1 l2 l3 l4 : Slot} : W (pj lw) 14 94 (l0 :: l1 :: l2 :: l3 :: l4 :: .val (.int y) :: L) (.int x :: S) k n H Q ↔ W (pj lw) 14 96 (l0 :: l1 :: l2 :: l3 :: l4 :: .val (.int x) :: L) S k n H Q := W_ist (rfl : (pj lw).1 14 94 = some (.istore 5, 2, 0)) rfl rfl
theorem w14_94 {x : Int32} {l0 l1 l2 l3 l4 : Slot} : W (pj lw) 14 94 (l0 :: l1 :: l2 :: l3 :: l4 :: .unset :: L) (.int x :: S) k n H Q ↔ W (pj lw) 14 96 (l0 :: l1 :: l2 :: l3 :: l4 :: .val (.int x) :: L) S k n H Q := W_ist (rfl : (pj lw).1 14 94 = some (.istore 5, 2, 0)) rfl rfl
theorem w14_96 {x : Nat} : W (pj lw) 14 96 (.val (.ref x) :: L) S k n H Q ↔ W (pj lw) 14 97 (.val (.ref x) :: L) (.ref x :: S) k n H Q := W_s (rfl : (pj lw).1 14 96 = some (.aload_n 0, 1, 0)) rfl rfl rfl
theorem w14_97 {a : Nat} : W (pj lw) 14 97 L (.ref a :: S) k n H Q ↔ (isO H a = true ∧ W (pj lw) 14 100 L (fld H a 16 :: S) k n H Q) := W_getf (rfl : (pj lw).1 14 97 = some (.getfield 40, 3, 16))
theorem w14_100 {x : Int32} {l0 l1 l2 l3 : Slot} : W (pj lw) 14 100 (l0 :: l1 :: l2 :: l3 :: .val (.int x) :: L) S k n H Q ↔ W (pj lw) 14 102 (l0 :: l1 :: l2 :: l3 :: .val (.int x) :: L) (.int x :: S) k n H Q := W_s (rfl : (pj lw).1 14 100 = some (.iload 4, 2, 0)) rfl rfl rfl
theorem w14_102 {i : Int32} {a : Nat} : W (pj lw) 14 102 L (.int i :: .ref a :: S) k n H Q ↔ (inA H a .int i = true ∧ W (pj lw) 14 103 L (elt H a i :: S) k n H Q) := W_iaload (rfl : (pj lw).1 14 102 = some (.iaload, 1, 0))
theorem w14_103 {x : Nat} : W (pj lw) 14 103 (.val (.ref x) :: L) S k n H Q ↔ W (pj lw) 14 104 (.val (.ref x) :: L) (.ref x :: S) k n H Q := W_s (rfl : (pj lw).1 14 103 = some (.aload_n 0, 1, 0)) rfl rfl rfl
theorem w14_104 {a : Nat} : W (pj lw) 14 104 L (.ref a :: S) k n H Q ↔ (isO H a = true ∧ W (pj lw) 14 107 L (fld H a 14 :: S) k n H Q) := W_getf (rfl : (pj lw).1 14 104 = some (.getfield 34, 3, 14))
theorem w14_107 {x : Int32} {l0 l1 l2 l3 : Slot} : W (pj lw) 14 107 (l0 :: l1 :: l2 :: l3 :: .val (.int x) :: L) S k n H Q ↔ W (pj lw) 14 109 (l0 :: l1 :: l2 :: l3 :: .val (.int x) :: L) (.int x :: S) k n H Q := W_s (rfl : (pj lw).1 14 107 = some (.iload 4, 2, 0)) rfl rfl rfl
theorem w14_109 {i : Int32} {a : Nat} : W (pj lw) 14 109 L (.int i :: .ref a :: S) k n H Q ↔ (inA H a .int i = true ∧ W (pj lw) 14 110 L (elt H a i :: S) k n H Q) := W_iaload (rfl : (pj lw).1 14 109 = some (.iaload, 1, 0))
theorem w14_110 {x y : Int32} : W (pj lw) 14 110 L (.int y :: .int x :: S) k n H Q ↔ W (pj lw) 14 111 L (.int (x - y) :: S) k n H Q := W_s (rfl : (pj lw).1 14 110 = some (.isub, 1, 0)) rfl rfl rfl
theorem w14_111i {y : Int32} {x : Int32} {l0 l1 l2 l3 l4 l5 : Slot} : W (pj lw) 14 111 (l0 :: l1 :: l2 :: l3 :: l4 :: l5 :: .val (.int y) :: L) (.int x :: S) k n H Q ↔ W (pj lw) 14 113 (l0 :: l1 :: l2 :: l3 :: l4 :: l5 :: .val (.int x) :: L) S k n H Q := W_ist (rfl : (pj lw).1 14 111 = some (.istore 6, 2, 0)) rfl rfl
theorem w14_111 {x : Int32} {l0 l1 l2 l3 l4 l5 : Slot} : W (pj lw) 14 111 (l0 :: l1 :: l2 :: l3 :: l4 :: l5 :: .unset :: L) (.int x :: S) k n H Q ↔ W (pj lw) 14 113 (l0 :: l1 :: l2 :: l3 :: l4 :: l5 :: .val (.int x) :: L) S k n H Q := W_ist (rfl : (pj lw).1 14 111 = some (.istore 6, 2, 0)) rfl rfl
theorem w14_113 {x : Int32} {l0 l1 l2 l3 l4 : Slot} : W (pj lw) 14 113 (l0 :: l1 :: l2 :: l3 :: l4 :: .val (.int x) :: L) S k n H Q ↔ W (pj lw) 14 115 (l0 :: l1 :: l2 :: l3 :: l4 :: .val (.int x) :: L) (.int x :: S) k n H Q := W_s (rfl : (pj lw).1 14 113 = some (.iload 5, 2, 0)) rfl rfl rfl
theorem w14_115 {x : Int32} : W (pj lw) 14 115 L (.int x :: S) k n H Q ↔ (if x = 0 then W (pj lw) 14 131 L S k n H Q else W (pj lw) 14 118 L S k n H Q) := W_if_eq (rfl : (pj lw).1 14 115 = some (.ifCond .eq 16, 3, 0)) rfl
theorem w14_118 {x : Nat} : W (pj lw) 14 118 (.val (.ref x) :: L) S k n H Q ↔ W (pj lw) 14 119 (.val (.ref x) :: L) (.ref x :: S) k n H Q := W_s (rfl : (pj lw).1 14 118 = some (.aload_n 0, 1, 0)) rfl rfl rfl
theorem w14_119 {x : Int32} {l0 l1 l2 l3 l4 l5 : Slot} : W (pj lw) 14 119 (l0 :: l1 :: l2 :: l3 :: l4 :: l5 :: .val (.int x) :: L) S k n H Q ↔ W (pj lw) 14 121 (l0 :: l1 :: l2 :: l3 :: l4 :: l5 :: .val (.int x) :: L) (.int x :: S) k n H Q := W_s (rfl : (pj lw).1 14 119 = some (.iload 6, 2, 0)) rfl rfl rfl
theorem w14_121 {a : Nat} {x0 : Int32} : W (pj lw) 14 121 L (.int x0 :: .ref a :: S) k n H Q ↔ ((isO H a = true ∧ cs S + (2 + 11) + 0 ≤ 13) ∧ Cl (pj lw) 16 [.ref a, .int x0] H (fun v H => W (pj lw) 14 124 L (v.toList ++ S) k n H Q)) := W_inst (as := [.int x0]) (rfl : (pj lw).1 14 121 = some (.invokevirtual 87, 3, 16)) rfl rfl rfl (Nat.le_of_ble_eq_true rfl) (Nat.le_of_ble_eq_true rfl) ⟨rfl, rfl⟩
theorem w14_124 {x : Int32} {l0 l1 : Slot} : W (pj lw) 14 124 (l0 :: l1 :: .val (.int x) :: L) S k n H Q ↔ W (pj lw) 14 125 (l0 :: l1 :: .val (.int x) :: L) (.int x :: S) k n H Q := W_s (rfl : (pj lw).1 14 124 = some (.iload_n 2, 1, 0)) rfl rfl rfl
theorem w14_125 {x y : Int32} : W (pj lw) 14 125 L (.int y :: .int x :: S) k n H Q ↔ (if x = y then W (pj lw) 14 128 L S k n H Q else W (pj lw) 14 131 L S k n H Q) := W_icmp_ne (rfl : (pj lw).1 14 125 = some (.if_icmp .ne 6, 3, 0)) rfl
theorem w14_128 {x : Int32} {l0 l1 l2 : Slot} : W (pj lw) 14 128 (l0 :: l1 :: l2 :: .val (.int x) :: L) S k n H Q ↔ W (pj lw) 14 131 (l0 :: l1 :: l2 :: .val (.int (x + 1)) :: L) S k n H Q := W_s (rfl : (pj lw).1 14 128 = some (.iinc 3 1, 3, 0)) rfl rfl rfl
theorem w14_131 {x : Int32} {l0 l1 l2 l3 : Slot} : W (pj lw) 14 131 (l0 :: l1 :: l2 :: l3 :: .val (.int x) :: L) S k n H Q ↔ W (pj lw) 14 134 (l0 :: l1 :: l2 :: l3 :: .val (.int (x + 1)) :: L) S k n H Q := W_s (rfl : (pj lw).1 14 131 = some (.iinc 4 1, 3, 0)) rfl rfl rfl
theorem w14_134 : W (pj lw) 14 134 L S k n H Q ↔ W (pj lw) 14 27 L S k n H Q := W_goto (rfl : (pj lw).1 14 134 = some (.goto (-107), 3, 0)) rfl
theorem w14_137 {x : Int32} {l0 l1 l2 : Slot} : W (pj lw) 14 137 (l0 :: l1 :: l2 :: .val (.int x) :: L) S k n H Q ↔ W (pj lw) 14 138 (l0 :: l1 :: l2 :: .val (.int x) :: L) (.int x :: S) k n H Q := W_s (rfl : (pj lw).1 14 137 = some (.iload_n 3, 1, 0)) rfl rfl rfl
theorem w14_138 {x : Int32} : W (pj lw) 14 138 L (.int x :: S) k n H Q ↔ Q (some (.int x)) H := W_r (rfl : (pj lw).1 14 138 = some (.ireturn, 1, 0)) rfl
theorem c15 {x0 : Nat} {x1 : Int32} {x2 : Int32} {x3 : Int32} : Cl (pj lw) 15 [.ref x0, .int x1, .int x2, .int x3] H Q ↔ W (pj lw) 15 0 [.val (.ref x0), .val (.int x1), .val (.int x2), .val (.int x3)] [] 0 0 H Q := cl_unf rfl
theorem w15_0 {x : Int32} {l0 : Slot} : W (pj lw) 15 0 (l0 :: .val (.int x) :: L) S k n H Q ↔ W (pj lw) 15 1 (l0 :: .val (.int x) :: L) (.int x :: S) k n H Q := W_s (rfl : (pj lw).1 15 0 = some (.iload_n 1, 1, 0)) rfl rfl rfl
theorem w15_1 {x : Int32} {l0 l1 : Slot} : W (pj lw) 15 1 (l0 :: l1 :: .val (.int x) :: L) S k n H Q ↔ W (pj lw) 15 2 (l0 :: l1 :: .val (.int x) :: L) (.int x :: S) k n H Q := W_s (rfl : (pj lw).1 15 1 = some (.iload_n 2, 1, 0)) rfl rfl rfl
theorem w15_2 {x y : Int32} : W (pj lw) 15 2 L (.int y :: .int x :: S) k n H Q ↔ (if x < y then W (pj lw) 15 5 L S k n H Q else W (pj lw) 15 7 L S k n H Q) := W_icmp_ge (rfl : (pj lw).1 15 2 = some (.if_icmp .ge 5, 3, 0)) rfl
theorem w15_5 {x : Int32} {l0 l1 : Slot} : W (pj lw) 15 5 (l0 :: l1 :: .val (.int x) :: L) S k n H Q ↔ W (pj lw) 15 6 (l0 :: l1 :: .val (.int x) :: L) (.int x :: S) k n H Q := W_s (rfl : (pj lw).1 15 5 = some (.iload_n 2, 1, 0)) rfl rfl rfl
theorem w15_6 {x : Int32} : W (pj lw) 15 6 L (.int x :: S) k n H Q ↔ Q (some (.int x)) H := W_r (rfl : (pj lw).1 15 6 = some (.ireturn, 1, 0)) rfl
theorem w15_7 {x : Int32} {l0 : Slot} : W (pj lw) 15 7 (l0 :: .val (.int x) :: L) S k n H Q ↔ W (pj lw) 15 8 (l0 :: .val (.int x) :: L) (.int x :: S) k n H Q := W_s (rfl : (pj lw).1 15 7 = some (.iload_n 1, 1, 0)) rfl rfl rfl
theorem w15_8 {x : Int32} {l0 l1 l2 : Slot} : W (pj lw) 15 8 (l0 :: l1 :: l2 :: .val (.int x) :: L) S k n H Q ↔ W (pj lw) 15 9 (l0 :: l1 :: l2 :: .val (.int x) :: L) (.int x :: S) k n H Q := W_s (rfl : (pj lw).1 15 8 = some (.iload_n 3, 1, 0)) rfl rfl rfl
theorem w15_9 {x y : Int32} : W (pj lw) 15 9 L (.int y :: .int x :: S) k n H Q ↔ (if y < x then W (pj lw) 15 12 L S k n H Q else W (pj lw) 15 14 L S k n H Q) := W_icmp_le (rfl : (pj lw).1 15 9 = some (.if_icmp .le 5, 3, 0)) rfl
theorem w15_12 {x : Int32} {l0 l1 l2 : Slot} : W (pj lw) 15 12 (l0 :: l1 :: l2 :: .val (.int x) :: L) S k n H Q ↔ W (pj lw) 15 13 (l0 :: l1 :: l2 :: .val (.int x) :: L) (.int x :: S) k n H Q := W_s (rfl : (pj lw).1 15 12 = some (.iload_n 3, 1, 0)) rfl rfl rfl
theorem w15_13 {x : Int32} : W (pj lw) 15 13 L (.int x :: S) k n H Q ↔ Q (some (.int x)) H := W_r (rfl : (pj lw).1 15 13 = some (.ireturn, 1, 0)) rfl
theorem w15_14 {x : Int32} {l0 : Slot} : W (pj lw) 15 14 (l0 :: .val (.int x) :: L) S k n H Q ↔ W (pj lw) 15 15 (l0 :: .val (.int x) :: L) (.int x :: S) k n H Q := W_s (rfl : (pj lw).1 15 14 = some (.iload_n 1, 1, 0)) rfl rfl rfl
theorem w15_15 {x : Int32} : W (pj lw) 15 15 L (.int x :: S) k n H Q ↔ Q (some (.int x)) H := W_r (rfl : (pj lw).1 15 15 = some (.ireturn, 1, 0)) rfl
theorem c16 {x0 : Nat} {x1 : Int32} : Cl (pj lw) 16 [.ref x0, .int x1] H Q ↔ W (pj lw) 16 0 [.val (.ref x0), .val (.int x1)] [] 0 0 H Q := cl_unf rfl
theorem w16_0 {x : Int32} {l0 : Slot} : W (pj lw) 16 0 (l0 :: .val (.int x) :: L) S k n H Q ↔ W (pj lw) 16 1 (l0 :: .val (.int x) :: L) (.int x :: S) k n H Q := W_s (rfl : (pj lw).1 16 0 = some (.iload_n 1, 1, 0)) rfl rfl rfl
theorem w16_1 : W (pj lw) 16 1 L S k n H Q ↔ W (pj lw) 16 3 L (.int 28 :: S) k n H Q := W_s (rfl : (pj lw).1 16 1 = some (.bipush 28, 2, 0)) rfl rfl rfl
theorem w16_3 {x y : Int32} : W (pj lw) 16 3 L (.int y :: .int x :: S) k n H Q ↔ (if x < y then W (pj lw) 16 6 L S k n H Q else W (pj lw) 16 10 L S k n H Q) := W_icmp_ge (rfl : (pj lw).1 16 3 = some (.if_icmp .ge 7, 3, 0)) rfl
theorem w16_6 {x : Int32} {l0 : Slot} : W (pj lw) 16 6 (l0 :: .val (.int x) :: L) S k n H Q ↔ W (pj lw) 16 7 (l0 :: .val (.int x) :: L) (.int x :: S) k n H Q := W_s (rfl : (pj lw).1 16 6 = some (.iload_n 1, 1, 0)) rfl rfl rfl
theorem w16_7 : W (pj lw) 16 7 L S k n H Q ↔ W (pj lw) 16 8 L (.int 4 :: S) k n H Q := W_s (rfl : (pj lw).1 16 7 = some (.iconst 4, 1, 0)) rfl rfl rfl
theorem w16_8 {x y : Int32} : W (pj lw) 16 8 L (.int y :: .int x :: S) k n H Q ↔ (¬ y = 0 ∧ W (pj lw) 16 9 L (.int (x / y) :: S) k n H Q) := W_idiv (rfl : (pj lw).1 16 8 = some (.idiv, 1, 0))
theorem w16_9 {x : Int32} : W (pj lw) 16 9 L (.int x :: S) k n H Q ↔ Q (some (.int x)) H := W_r (rfl : (pj lw).1 16 9 = some (.ireturn, 1, 0)) rfl
theorem w16_10 : W (pj lw) 16 10 L S k n H Q ↔ W (pj lw) 16 12 L (.int 7 :: S) k n H Q := W_s (rfl : (pj lw).1 16 10 = some (.bipush 7, 2, 0)) rfl rfl rfl
theorem w16_12 {x : Int32} : W (pj lw) 16 12 L (.int x :: S) k n H Q ↔ Q (some (.int x)) H := W_r (rfl : (pj lw).1 16 12 = some (.ireturn, 1, 0)) rfl
theorem c17 {x0 : Nat} {x1 : Int32} : Cl (pj lw) 17 [.ref x0, .int x1] H Q ↔ W (pj lw) 17 0 [.val (.ref x0), .val (.int x1)] [] 0 0 H Q := cl_unf rfl
theorem w17_0 {x : Nat} : W (pj lw) 17 0 (.val (.ref x) :: L) S k n H Q ↔ W (pj lw) 17 1 (.val (.ref x) :: L) (.ref x :: S) k n H Q := W_s (rfl : (pj lw).1 17 0 = some (.aload_n 0, 1, 0)) rfl rfl rfl
theorem w17_1 {a : Nat} : W (pj lw) 17 1 L (.ref a :: S) k n H Q ↔ (isO H a = true ∧ W (pj lw) 17 4 L (fld H a 13 :: S) k n H Q) := W_getf (rfl : (pj lw).1 17 1 = some (.getfield 31, 3, 13))
theorem w17_4 {x : Int32} {l0 : Slot} : W (pj lw) 17 4 (l0 :: .val (.int x) :: L) S k n H Q ↔ W (pj lw) 17 5 (l0 :: .val (.int x) :: L) (.int x :: S) k n H Q := W_s (rfl : (pj lw).1 17 4 = some (.iload_n 1, 1, 0)) rfl rfl rfl
theorem w17_5 {i : Int32} {a : Nat} : W (pj lw) 17 5 L (.int i :: .ref a :: S) k n H Q ↔ (inA H a .int i = true ∧ W (pj lw) 17 6 L (elt H a i :: S) k n H Q) := W_iaload (rfl : (pj lw).1 17 5 = some (.iaload, 1, 0))
theorem w17_6 {x : Nat} : W (pj lw) 17 6 (.val (.ref x) :: L) S k n H Q ↔ W (pj lw) 17 7 (.val (.ref x) :: L) (.ref x :: S) k n H Q := W_s (rfl : (pj lw).1 17 6 = some (.aload_n 0, 1, 0)) rfl rfl rfl
theorem w17_7 {a : Nat} : W (pj lw) 17 7 L (.ref a :: S) k n H Q ↔ (isO H a = true ∧ W (pj lw) 17 10 L (fld H a 12 :: S) k n H Q) := W_getf (rfl : (pj lw).1 17 7 = some (.getfield 28, 3, 12))
theorem w17_10 {x : Int32} {l0 : Slot} : W (pj lw) 17 10 (l0 :: .val (.int x) :: L) S k n H Q ↔ W (pj lw) 17 11 (l0 :: .val (.int x) :: L) (.int x :: S) k n H Q := W_s (rfl : (pj lw).1 17 10 = some (.iload_n 1, 1, 0)) rfl rfl rfl
theorem w17_11 {i : Int32} {a : Nat} : W (pj lw) 17 11 L (.int i :: .ref a :: S) k n H Q ↔ (inA H a .int i = true ∧ W (pj lw) 17 12 L (elt H a i :: S) k n H Q) := W_iaload (rfl : (pj lw).1 17 11 = some (.iaload, 1, 0))
theorem w17_12 {x y : Int32} : W (pj lw) 17 12 L (.int y :: .int x :: S) k n H Q ↔ (if y < x then W (pj lw) 17 15 L S k n H Q else W (pj lw) 17 19 L S k n H Q) := W_icmp_le (rfl : (pj lw).1 17 12 = some (.if_icmp .le 7, 3, 0)) rfl
theorem w17_15 : W (pj lw) 17 15 L S k n H Q ↔ W (pj lw) 17 16 L (.int 1 :: S) k n H Q := W_s (rfl : (pj lw).1 17 15 = some (.iconst 1, 1, 0)) rfl rfl rfl
theorem w17_16 : W (pj lw) 17 16 L S k n H Q ↔ W (pj lw) 17 20 L S k n H Q := W_goto (rfl : (pj lw).1 17 16 = some (.goto 4, 3, 0)) rfl
theorem w17_19 : W (pj lw) 17 19 L S k n H Q ↔ W (pj lw) 17 20 L (.int (-1) :: S) k n H Q := W_s (rfl : (pj lw).1 17 19 = some (.iconst (-1), 1, 0)) rfl rfl rfl
theorem w17_20 {x : Int32} : W (pj lw) 17 20 L (.int x :: S) k n H Q ↔ Q (some (.int x)) H := W_r (rfl : (pj lw).1 17 20 = some (.ireturn, 1, 0)) rfl
theorem c18 {x0 : Nat} {x1 : Int32} {x2 : Int32} : Cl (pj lw) 18 [.ref x0, .int x1, .int x2] H Q ↔ W (pj lw) 18 0 [.val (.ref x0), .val (.int x1), .val (.int x2)] [] 0 0 H Q := cl_unf rfl
theorem w18_0 {x : Int32} {l0 : Slot} : W (pj lw) 18 0 (l0 :: .val (.int x) :: L) S k n H Q ↔ W (pj lw) 18 1 (l0 :: .val (.int x) :: L) (.int x :: S) k n H Q := W_s (rfl : (pj lw).1 18 0 = some (.iload_n 1, 1, 0)) rfl rfl rfl
theorem w18_1 : W (pj lw) 18 1 L S k n H Q ↔ W (pj lw) 18 2 L (.int 2 :: S) k n H Q := W_s (rfl : (pj lw).1 18 1 = some (.iconst 2, 1, 0)) rfl rfl rfl
theorem w18_2 {x y : Int32} : W (pj lw) 18 2 L (.int y :: .int x :: S) k n H Q ↔ W (pj lw) 18 3 L (.int (x * y) :: S) k n H Q := W_s (rfl : (pj lw).1 18 2 = some (.imul, 1, 0)) rfl rfl rfl
theorem w18_3 {x : Int32} {l0 l1 : Slot} : W (pj lw) 18 3 (l0 :: l1 :: .val (.int x) :: L) S k n H Q ↔ W (pj lw) 18 4 (l0 :: l1 :: .val (.int x) :: L) (.int x :: S) k n H Q := W_s (rfl : (pj lw).1 18 3 = some (.iload_n 2, 1, 0)) rfl rfl rfl
theorem w18_4 : W (pj lw) 18 4 L S k n H Q ↔ W (pj lw) 18 5 L (.int 1 :: S) k n H Q := W_s (rfl : (pj lw).1 18 4 = some (.iconst 1, 1, 0)) rfl rfl rfl
theorem w18_5 {x y : Int32} : W (pj lw) 18 5 L (.int y :: .int x :: S) k n H Q ↔ (if x = y then W (pj lw) 18 8 L S k n H Q else W (pj lw) 18 12 L S k n H Q) := W_icmp_ne (rfl : (pj lw).1 18 5 = some (.if_icmp .ne 7, 3, 0)) rfl
theorem w18_8 : W (pj lw) 18 8 L S k n H Q ↔ W (pj lw) 18 9 L (.int 0 :: S) k n H Q := W_s (rfl : (pj lw).1 18 8 = some (.iconst 0, 1, 0)) rfl rfl rfl
theorem w18_9 : W (pj lw) 18 9 L S k n H Q ↔ W (pj lw) 18 13 L S k n H Q := W_goto (rfl : (pj lw).1 18 9 = some (.goto 4, 3, 0)) rfl
theorem w18_12 : W (pj lw) 18 12 L S k n H Q ↔ W (pj lw) 18 13 L (.int 1 :: S) k n H Q := W_s (rfl : (pj lw).1 18 12 = some (.iconst 1, 1, 0)) rfl rfl rfl
theorem w18_13 {x y : Int32} : W (pj lw) 18 13 L (.int y :: .int x :: S) k n H Q ↔ W (pj lw) 18 14 L (.int (x + y) :: S) k n H Q := W_s (rfl : (pj lw).1 18 13 = some (.iadd, 1, 0)) rfl rfl rfl
theorem w18_14 {x : Int32} : W (pj lw) 18 14 L (.int x :: S) k n H Q ↔ Q (some (.int x)) H := W_r (rfl : (pj lw).1 18 14 = some (.ireturn, 1, 0)) rfl
theorem c19 {x0 : Nat} {x1 : Int32} {x2 : Int32} : Cl (pj lw) 19 [.ref x0, .int x1, .int x2] H Q ↔ W (pj lw) 19 0 [.val (.ref x0), .val (.int x1), .val (.int x2), .unset] [] 0 0 H Q := cl_unf rfl
theorem w19_0 : W (pj lw) 19 0 L S k n H Q ↔ W (pj lw) 19 1 L (.int 0 :: S) k n H Q := W_s (rfl : (pj lw).1 19 0 = some (.iconst 0, 1, 0)) rfl rfl rfl
theorem w19_1 {x : Int32} {l0 l1 l2 : Slot} : W (pj lw) 19 1 (l0 :: l1 :: l2 :: .unset :: L) (.int x :: S) k n H Q ↔ W (pj lw) 19 2 (l0 :: l1 :: l2 :: .val (.int x) :: L) S k n H Q := W_istn (rfl : (pj lw).1 19 1 = some (.istore_n 3, 1, 0)) rfl rfl
theorem w19_2 {x : Int32} {l0 l1 l2 : Slot} : W (pj lw) 19 2 (l0 :: l1 :: l2 :: .val (.int x) :: L) S k n H Q ↔ W (pj lw) 19 3 (l0 :: l1 :: l2 :: .val (.int x) :: L) (.int x :: S) k n H Q := W_s (rfl : (pj lw).1 19 2 = some (.iload_n 3, 1, 0)) rfl rfl rfl
theorem w19_3 {x : Nat} : W (pj lw) 19 3 (.val (.ref x) :: L) S k n H Q ↔ W (pj lw) 19 4 (.val (.ref x) :: L) (.ref x :: S) k n H Q := W_s (rfl : (pj lw).1 19 3 = some (.aload_n 0, 1, 0)) rfl rfl rfl
theorem w19_4 {a : Nat} : W (pj lw) 19 4 L (.ref a :: S) k n H Q ↔ (isO H a = true ∧ W (pj lw) 19 7 L (fld H a 4 :: S) k n H Q) := W_getf (rfl : (pj lw).1 19 4 = some (.getfield 63, 3, 4))
theorem w19_7 {x y : Int32} : W (pj lw) 19 7 L (.int y :: .int x :: S) k n H Q ↔ (if x < y then W (pj lw) 19 10 L S k n H Q else W (pj lw) 19 47 L S k n H Q) := W_icmp_ge (rfl : (pj lw).1 19 7 = some (.if_icmp .ge 40, 3, 0)) rfl
theorem w19_10 {x : Nat} : W (pj lw) 19 10 (.val (.ref x) :: L) S k n H Q ↔ W (pj lw) 19 11 (.val (.ref x) :: L) (.ref x :: S) k n H Q := W_s (rfl : (pj lw).1 19 10 = some (.aload_n 0, 1, 0)) rfl rfl rfl
theorem w19_11 {a : Nat} : W (pj lw) 19 11 L (.ref a :: S) k n H Q ↔ (isO H a = true ∧ W (pj lw) 19 14 L (fld H a 11 :: S) k n H Q) := W_getf (rfl : (pj lw).1 19 11 = some (.getfield 25, 3, 11))
theorem w19_14 {x : Int32} {l0 l1 l2 : Slot} : W (pj lw) 19 14 (l0 :: l1 :: l2 :: .val (.int x) :: L) S k n H Q ↔ W (pj lw) 19 15 (l0 :: l1 :: l2 :: .val (.int x) :: L) (.int x :: S) k n H Q := W_s (rfl : (pj lw).1 19 14 = some (.iload_n 3, 1, 0)) rfl rfl rfl
theorem w19_15 {i : Int32} {a : Nat} : W (pj lw) 19 15 L (.int i :: .ref a :: S) k n H Q ↔ (inA H a .int i = true ∧ W (pj lw) 19 16 L (elt H a i :: S) k n H Q) := W_iaload (rfl : (pj lw).1 19 15 = some (.iaload, 1, 0))
theorem w19_16 : W (pj lw) 19 16 L S k n H Q ↔ W (pj lw) 19 17 L (.int 1 :: S) k n H Q := W_s (rfl : (pj lw).1 19 16 = some (.iconst 1, 1, 0)) rfl rfl rfl
theorem w19_17 {x y : Int32} : W (pj lw) 19 17 L (.int y :: .int x :: S) k n H Q ↔ (if x = y then W (pj lw) 19 20 L S k n H Q else W (pj lw) 19 41 L S k n H Q) := W_icmp_ne (rfl : (pj lw).1 19 17 = some (.if_icmp .ne 24, 3, 0)) rfl
theorem w19_20 {x : Nat} : W (pj lw) 19 20 (.val (.ref x) :: L) S k n H Q ↔ W (pj lw) 19 21 (.val (.ref x) :: L) (.ref x :: S) k n H Q := W_s (rfl : (pj lw).1 19 20 = some (.aload_n 0, 1, 0)) rfl rfl rfl
theorem w19_21 {a : Nat} : W (pj lw) 19 21 L (.ref a :: S) k n H Q ↔ (isO H a = true ∧ W (pj lw) 19 24 L (fld H a 12 :: S) k n H Q) := W_getf (rfl : (pj lw).1 19 21 = some (.getfield 28, 3, 12))
theorem w19_24 {x : Int32} {l0 l1 l2 : Slot} : W (pj lw) 19 24 (l0 :: l1 :: l2 :: .val (.int x) :: L) S k n H Q ↔ W (pj lw) 19 25 (l0 :: l1 :: l2 :: .val (.int x) :: L) (.int x :: S) k n H Q := W_s (rfl : (pj lw).1 19 24 = some (.iload_n 3, 1, 0)) rfl rfl rfl
theorem w19_25 {i : Int32} {a : Nat} : W (pj lw) 19 25 L (.int i :: .ref a :: S) k n H Q ↔ (inA H a .int i = true ∧ W (pj lw) 19 26 L (elt H a i :: S) k n H Q) := W_iaload (rfl : (pj lw).1 19 25 = some (.iaload, 1, 0))
theorem w19_26 {x : Int32} {l0 : Slot} : W (pj lw) 19 26 (l0 :: .val (.int x) :: L) S k n H Q ↔ W (pj lw) 19 27 (l0 :: .val (.int x) :: L) (.int x :: S) k n H Q := W_s (rfl : (pj lw).1 19 26 = some (.iload_n 1, 1, 0)) rfl rfl rfl
theorem w19_27 {x y : Int32} : W (pj lw) 19 27 L (.int y :: .int x :: S) k n H Q ↔ (if x = y then W (pj lw) 19 30 L S k n H Q else W (pj lw) 19 41 L S k n H Q) := W_icmp_ne (rfl : (pj lw).1 19 27 = some (.if_icmp .ne 14, 3, 0)) rfl
theorem w19_30 {x : Nat} : W (pj lw) 19 30 (.val (.ref x) :: L) S k n H Q ↔ W (pj lw) 19 31 (.val (.ref x) :: L) (.ref x :: S) k n H Q := W_s (rfl : (pj lw).1 19 30 = some (.aload_n 0, 1, 0)) rfl rfl rfl
theorem w19_31 {x : Int32} {l0 l1 l2 : Slot} : W (pj lw) 19 31 (l0 :: l1 :: l2 :: .val (.int x) :: L) S k n H Q ↔ W (pj lw) 19 32 (l0 :: l1 :: l2 :: .val (.int x) :: L) (.int x :: S) k n H Q := W_s (rfl : (pj lw).1 19 31 = some (.iload_n 3, 1, 0)) rfl rfl rfl
theorem w19_32 {a : Nat} {x0 : Int32} : W (pj lw) 19 32 L (.int x0 :: .ref a :: S) k n H Q ↔ ((isO H a = true ∧ cs S + (2 + 11) + 0 ≤ 13) ∧ Cl (pj lw) 17 [.ref a, .int x0] H (fun v H => W (pj lw) 19 35 L (v.toList ++ S) k n H Q)) := W_inst (as := [.int x0]) (rfl : (pj lw).1 19 32 = some (.invokevirtual 91, 3, 17)) rfl rfl rfl (Nat.le_of_ble_eq_true rfl) (Nat.le_of_ble_eq_true rfl) ⟨rfl, rfl⟩
theorem w19_35 {x : Int32} {l0 l1 : Slot} : W (pj lw) 19 35 (l0 :: l1 :: .val (.int x) :: L) S k n H Q ↔ W (pj lw) 19 36 (l0 :: l1 :: .val (.int x) :: L) (.int x :: S) k n H Q := W_s (rfl : (pj lw).1 19 35 = some (.iload_n 2, 1, 0)) rfl rfl rfl
theorem w19_36 {x y : Int32} : W (pj lw) 19 36 L (.int y :: .int x :: S) k n H Q ↔ (if x = y then W (pj lw) 19 39 L S k n H Q else W (pj lw) 19 41 L S k n H Q) := W_icmp_ne (rfl : (pj lw).1 19 36 = some (.if_icmp .ne 5, 3, 0)) rfl
theorem w19_39 : W (pj lw) 19 39 L S k n H Q ↔ W (pj lw) 19 40 L (.int 1 :: S) k n H Q := W_s (rfl : (pj lw).1 19 39 = some (.iconst 1, 1, 0)) rfl rfl rfl
theorem w19_40 {x : Int32} : W (pj lw) 19 40 L (.int x :: S) k n H Q ↔ ((x = 0 ∨ x = 1) ∧ Q (some (.int x)) H) := W_rz (rfl : (pj lw).1 19 40 = some (.ireturn, 1, 0)) rfl
theorem w19_41 {x : Int32} {l0 l1 l2 : Slot} : W (pj lw) 19 41 (l0 :: l1 :: l2 :: .val (.int x) :: L) S k n H Q ↔ W (pj lw) 19 44 (l0 :: l1 :: l2 :: .val (.int (x + 1)) :: L) S k n H Q := W_s (rfl : (pj lw).1 19 41 = some (.iinc 3 1, 3, 0)) rfl rfl rfl
theorem w19_44 : W (pj lw) 19 44 L S k n H Q ↔ W (pj lw) 19 2 L S k n H Q := W_goto (rfl : (pj lw).1 19 44 = some (.goto (-42), 3, 0)) rfl
theorem w19_47 : W (pj lw) 19 47 L S k n H Q ↔ W (pj lw) 19 48 L (.int 0 :: S) k n H Q := W_s (rfl : (pj lw).1 19 47 = some (.iconst 0, 1, 0)) rfl rfl rfl
theorem w19_48 {x : Int32} : W (pj lw) 19 48 L (.int x :: S) k n H Q ↔ ((x = 0 ∨ x = 1) ∧ Q (some (.int x)) H) := W_rz (rfl : (pj lw).1 19 48 = some (.ireturn, 1, 0)) rfl
theorem c20 {x0 : Nat} {x1 : Int32} {x2 : Int32} {x3 : Int32} : Cl (pj lw) 20 [.ref x0, .int x1, .int x2, .int x3] H Q ↔ W (pj lw) 20 0 [.val (.ref x0), .val (.int x1), .val (.int x2), .val (.int x3)] [] 0 0 H Q := cl_unf rfl
theorem w20_0 {x : Int32} {l0 : Slot} : W (pj lw) 20 0 (l0 :: .val (.int x) :: L) S k n H Q ↔ W (pj lw) 20 1 (l0 :: .val (.int x) :: L) (.int x :: S) k n H Q := W_s (rfl : (pj lw).1 20 0 = some (.iload_n 1, 1, 0)) rfl rfl rfl
theorem w20_1 {x : Int32} : W (pj lw) 20 1 L (.int x :: S) k n H Q ↔ (if x < 0 then W (pj lw) 20 12 L S k n H Q else W (pj lw) 20 4 L S k n H Q) := W_if_lt (rfl : (pj lw).1 20 1 = some (.ifCond .lt 11, 3, 0)) rfl
theorem w20_4 {x : Int32} {l0 : Slot} : W (pj lw) 20 4 (l0 :: .val (.int x) :: L) S k n H Q ↔ W (pj lw) 20 5 (l0 :: .val (.int x) :: L) (.int x :: S) k n H Q := W_s (rfl : (pj lw).1 20 4 = some (.iload_n 1, 1, 0)) rfl rfl rfl
theorem w20_5 {x : Nat} : W (pj lw) 20 5 (.val (.ref x) :: L) S k n H Q ↔ W (pj lw) 20 6 (.val (.ref x) :: L) (.ref x :: S) k n H Q := W_s (rfl : (pj lw).1 20 5 = some (.aload_n 0, 1, 0)) rfl rfl rfl
theorem w20_6 {a : Nat} : W (pj lw) 20 6 L (.ref a :: S) k n H Q ↔ (isO H a = true ∧ W (pj lw) 20 9 L (fld H a 1 :: S) k n H Q) := W_getf (rfl : (pj lw).1 20 6 = some (.getfield 57, 3, 1))
theorem w20_9 {x y : Int32} : W (pj lw) 20 9 L (.int y :: .int x :: S) k n H Q ↔ (if x < y then W (pj lw) 20 14 L S k n H Q else W (pj lw) 20 12 L S k n H Q) := W_icmp_lt (rfl : (pj lw).1 20 9 = some (.if_icmp .lt 5, 3, 0)) rfl
theorem w20_12 : W (pj lw) 20 12 L S k n H Q ↔ W (pj lw) 20 13 L (.int 0 :: S) k n H Q := W_s (rfl : (pj lw).1 20 12 = some (.iconst 0, 1, 0)) rfl rfl rfl
theorem w20_13 {x : Int32} : W (pj lw) 20 13 L (.int x :: S) k n H Q ↔ ((x = 0 ∨ x = 1) ∧ Q (some (.int x)) H) := W_rz (rfl : (pj lw).1 20 13 = some (.ireturn, 1, 0)) rfl
theorem w20_14 {x : Nat} : W (pj lw) 20 14 (.val (.ref x) :: L) S k n H Q ↔ W (pj lw) 20 15 (.val (.ref x) :: L) (.ref x :: S) k n H Q := W_s (rfl : (pj lw).1 20 14 = some (.aload_n 0, 1, 0)) rfl rfl rfl
theorem w20_15 {x : Int32} {l0 : Slot} : W (pj lw) 20 15 (l0 :: .val (.int x) :: L) S k n H Q ↔ W (pj lw) 20 16 (l0 :: .val (.int x) :: L) (.int x :: S) k n H Q := W_s (rfl : (pj lw).1 20 15 = some (.iload_n 1, 1, 0)) rfl rfl rfl
theorem w20_16 {x : Int32} {l0 l1 : Slot} : W (pj lw) 20 16 (l0 :: l1 :: .val (.int x) :: L) S k n H Q ↔ W (pj lw) 20 17 (l0 :: l1 :: .val (.int x) :: L) (.int x :: S) k n H Q := W_s (rfl : (pj lw).1 20 16 = some (.iload_n 2, 1, 0)) rfl rfl rfl
theorem w20_17 {a : Nat} {x0 : Int32} {x1 : Int32} : W (pj lw) 20 17 L (.int x1 :: .int x0 :: .ref a :: S) k n H Q ↔ ((isO H a = true ∧ cs S + (4 + 11) + 13 ≤ 28) ∧ Cl (pj lw) 19 [.ref a, .int x0, .int x1] H (fun v H => W (pj lw) 20 20 L (v.toList ++ S) k n H Q)) := W_inst (as := [.int x0, .int x1]) (rfl : (pj lw).1 20 17 = some (.invokevirtual 79, 3, 19)) rfl rfl rfl (Nat.le_of_ble_eq_true rfl) (Nat.le_of_ble_eq_true rfl) ⟨rfl, rfl⟩
theorem w20_20 {x : Int32} : W (pj lw) 20 20 L (.int x :: S) k n H Q ↔ (if x = 0 then W (pj lw) 20 23 L S k n H Q else W (pj lw) 20 25 L S k n H Q) := W_if_ne (rfl : (pj lw).1 20 20 = some (.ifCond .ne 5, 3, 0)) rfl
theorem w20_23 : W (pj lw) 20 23 L S k n H Q ↔ W (pj lw) 20 24 L (.int 0 :: S) k n H Q := W_s (rfl : (pj lw).1 20 23 = some (.iconst 0, 1, 0)) rfl rfl rfl
theorem w20_24 {x : Int32} : W (pj lw) 20 24 L (.int x :: S) k n H Q ↔ ((x = 0 ∨ x = 1) ∧ Q (some (.int x)) H) := W_rz (rfl : (pj lw).1 20 24 = some (.ireturn, 1, 0)) rfl
theorem w20_25 {x : Nat} : W (pj lw) 20 25 (.val (.ref x) :: L) S k n H Q ↔ W (pj lw) 20 26 (.val (.ref x) :: L) (.ref x :: S) k n H Q := W_s (rfl : (pj lw).1 20 25 = some (.aload_n 0, 1, 0)) rfl rfl rfl
theorem w20_26 {a : Nat} : W (pj lw) 20 26 L (.ref a :: S) k n H Q ↔ (isO H a = true ∧ W (pj lw) 20 29 L (fld H a 18 :: S) k n H Q) := W_getf (rfl : (pj lw).1 20 26 = some (.getfield 46, 3, 18))
theorem w20_29 {x : Nat} : W (pj lw) 20 29 (.val (.ref x) :: L) S k n H Q ↔ W (pj lw) 20 30 (.val (.ref x) :: L) (.ref x :: S) k n H Q := W_s (rfl : (pj lw).1 20 29 = some (.aload_n 0, 1, 0)) rfl rfl rfl
theorem w20_30 {x : Int32} {l0 : Slot} : W (pj lw) 20 30 (l0 :: .val (.int x) :: L) S k n H Q ↔ W (pj lw) 20 31 (l0 :: .val (.int x) :: L) (.int x :: S) k n H Q := W_s (rfl : (pj lw).1 20 30 = some (.iload_n 1, 1, 0)) rfl rfl rfl
theorem w20_31 {x : Int32} {l0 l1 : Slot} : W (pj lw) 20 31 (l0 :: l1 :: .val (.int x) :: L) S k n H Q ↔ W (pj lw) 20 32 (l0 :: l1 :: .val (.int x) :: L) (.int x :: S) k n H Q := W_s (rfl : (pj lw).1 20 31 = some (.iload_n 2, 1, 0)) rfl rfl rfl
theorem w20_32 {a : Nat} {x0 : Int32} {x1 : Int32} : W (pj lw) 20 32 L (.int x1 :: .int x0 :: .ref a :: S) k n H Q ↔ ((isO H a = true ∧ cs S + (3 + 11) + 0 ≤ 28) ∧ Cl (pj lw) 18 [.ref a, .int x0, .int x1] H (fun v H => W (pj lw) 20 35 L (v.toList ++ S) k n H Q)) := W_inst (as := [.int x0, .int x1]) (rfl : (pj lw).1 20 32 = some (.invokevirtual 83, 3, 18)) rfl rfl rfl (Nat.le_of_ble_eq_true rfl) (Nat.le_of_ble_eq_true rfl) ⟨rfl, rfl⟩
theorem w20_35 {i : Int32} {a : Nat} : W (pj lw) 20 35 L (.int i :: .ref a :: S) k n H Q ↔ (inA H a .int i = true ∧ W (pj lw) 20 36 L (elt H a i :: S) k n H Q) := W_iaload (rfl : (pj lw).1 20 35 = some (.iaload, 1, 0))
theorem w20_36 {x : Int32} {l0 l1 l2 : Slot} : W (pj lw) 20 36 (l0 :: l1 :: l2 :: .val (.int x) :: L) S k n H Q ↔ W (pj lw) 20 37 (l0 :: l1 :: l2 :: .val (.int x) :: L) (.int x :: S) k n H Q := W_s (rfl : (pj lw).1 20 36 = some (.iload_n 3, 1, 0)) rfl rfl rfl
theorem w20_37 {x y : Int32} : W (pj lw) 20 37 L (.int y :: .int x :: S) k n H Q ↔ (if x = y then W (pj lw) 20 40 L S k n H Q else W (pj lw) 20 44 L S k n H Q) := W_icmp_ne (rfl : (pj lw).1 20 37 = some (.if_icmp .ne 7, 3, 0)) rfl
theorem w20_40 : W (pj lw) 20 40 L S k n H Q ↔ W (pj lw) 20 41 L (.int 1 :: S) k n H Q := W_s (rfl : (pj lw).1 20 40 = some (.iconst 1, 1, 0)) rfl rfl rfl
theorem w20_41 : W (pj lw) 20 41 L S k n H Q ↔ W (pj lw) 20 45 L S k n H Q := W_goto (rfl : (pj lw).1 20 41 = some (.goto 4, 3, 0)) rfl
theorem w20_44 : W (pj lw) 20 44 L S k n H Q ↔ W (pj lw) 20 45 L (.int 0 :: S) k n H Q := W_s (rfl : (pj lw).1 20 44 = some (.iconst 0, 1, 0)) rfl rfl rfl
theorem w20_45 {x : Int32} : W (pj lw) 20 45 L (.int x :: S) k n H Q ↔ ((x = 0 ∨ x = 1) ∧ Q (some (.int x)) H) := W_rz (rfl : (pj lw).1 20 45 = some (.ireturn, 1, 0)) rfl
theorem c21 {x0 : Nat} {x1 : Int32} {x2 : Int32} : Cl (pj lw) 21 [.ref x0, .int x1, .int x2] H Q ↔ W (pj lw) 21 0 [.val (.ref x0), .val (.int x1), .val (.int x2), .unset] [] 0 0 H Q := cl_unf rfl
theorem w21_0 : W (pj lw) 21 0 L S k n H Q ↔ W (pj lw) 21 1 L (.int 0 :: S) k n H Q := W_s (rfl : (pj lw).1 21 0 = some (.iconst 0, 1, 0)) rfl rfl rfl
theorem w21_1 {x : Int32} {l0 l1 l2 : Slot} : W (pj lw) 21 1 (l0 :: l1 :: l2 :: .unset :: L) (.int x :: S) k n H Q ↔ W (pj lw) 21 2 (l0 :: l1 :: l2 :: .val (.int x) :: L) S k n H Q := W_istn (rfl : (pj lw).1 21 1 = some (.istore_n 3, 1, 0)) rfl rfl
theorem w21_2 {x : Int32} {l0 l1 l2 : Slot} : W (pj lw) 21 2 (l0 :: l1 :: l2 :: .val (.int x) :: L) S k n H Q ↔ W (pj lw) 21 3 (l0 :: l1 :: l2 :: .val (.int x) :: L) (.int x :: S) k n H Q := W_s (rfl : (pj lw).1 21 2 = some (.iload_n 3, 1, 0)) rfl rfl rfl
theorem w21_3 {x : Nat} : W (pj lw) 21 3 (.val (.ref x) :: L) S k n H Q ↔ W (pj lw) 21 4 (.val (.ref x) :: L) (.ref x :: S) k n H Q := W_s (rfl : (pj lw).1 21 3 = some (.aload_n 0, 1, 0)) rfl rfl rfl
theorem w21_4 {a : Nat} : W (pj lw) 21 4 L (.ref a :: S) k n H Q ↔ (isO H a = true ∧ W (pj lw) 21 7 L (fld H a 4 :: S) k n H Q) := W_getf (rfl : (pj lw).1 21 4 = some (.getfield 63, 3, 4))
theorem w21_7 {x y : Int32} : W (pj lw) 21 7 L (.int y :: .int x :: S) k n H Q ↔ (if x < y then W (pj lw) 21 10 L S k n H Q else W (pj lw) 21 48 L S k n H Q) := W_icmp_ge (rfl : (pj lw).1 21 7 = some (.if_icmp .ge 41, 3, 0)) rfl
theorem w21_10 {x : Nat} : W (pj lw) 21 10 (.val (.ref x) :: L) S k n H Q ↔ W (pj lw) 21 11 (.val (.ref x) :: L) (.ref x :: S) k n H Q := W_s (rfl : (pj lw).1 21 10 = some (.aload_n 0, 1, 0)) rfl rfl rfl
theorem w21_11 {a : Nat} : W (pj lw) 21 11 L (.ref a :: S) k n H Q ↔ (isO H a = true ∧ W (pj lw) 21 14 L (fld H a 11 :: S) k n H Q) := W_getf (rfl : (pj lw).1 21 11 = some (.getfield 25, 3, 11))
theorem w21_14 {x : Int32} {l0 l1 l2 : Slot} : W (pj lw) 21 14 (l0 :: l1 :: l2 :: .val (.int x) :: L) S k n H Q ↔ W (pj lw) 21 15 (l0 :: l1 :: l2 :: .val (.int x) :: L) (.int x :: S) k n H Q := W_s (rfl : (pj lw).1 21 14 = some (.iload_n 3, 1, 0)) rfl rfl rfl
theorem w21_15 {i : Int32} {a : Nat} : W (pj lw) 21 15 L (.int i :: .ref a :: S) k n H Q ↔ (inA H a .int i = true ∧ W (pj lw) 21 16 L (elt H a i :: S) k n H Q) := W_iaload (rfl : (pj lw).1 21 15 = some (.iaload, 1, 0))
theorem w21_16 : W (pj lw) 21 16 L S k n H Q ↔ W (pj lw) 21 17 L (.int 2 :: S) k n H Q := W_s (rfl : (pj lw).1 21 16 = some (.iconst 2, 1, 0)) rfl rfl rfl
theorem w21_17 {x y : Int32} : W (pj lw) 21 17 L (.int y :: .int x :: S) k n H Q ↔ (if x = y then W (pj lw) 21 20 L S k n H Q else W (pj lw) 21 42 L S k n H Q) := W_icmp_ne (rfl : (pj lw).1 21 17 = some (.if_icmp .ne 25, 3, 0)) rfl
theorem w21_20 {x : Nat} : W (pj lw) 21 20 (.val (.ref x) :: L) S k n H Q ↔ W (pj lw) 21 21 (.val (.ref x) :: L) (.ref x :: S) k n H Q := W_s (rfl : (pj lw).1 21 20 = some (.aload_n 0, 1, 0)) rfl rfl rfl
theorem w21_21 {a : Nat} : W (pj lw) 21 21 L (.ref a :: S) k n H Q ↔ (isO H a = true ∧ W (pj lw) 21 24 L (fld H a 17 :: S) k n H Q) := W_getf (rfl : (pj lw).1 21 21 = some (.getfield 43, 3, 17))
theorem w21_24 {x : Int32} {l0 l1 l2 : Slot} : W (pj lw) 21 24 (l0 :: l1 :: l2 :: .val (.int x) :: L) S k n H Q ↔ W (pj lw) 21 25 (l0 :: l1 :: l2 :: .val (.int x) :: L) (.int x :: S) k n H Q := W_s (rfl : (pj lw).1 21 24 = some (.iload_n 3, 1, 0)) rfl rfl rfl
theorem w21_25 {i : Int32} {a : Nat} : W (pj lw) 21 25 L (.int i :: .ref a :: S) k n H Q ↔ (inA H a .int i = true ∧ W (pj lw) 21 26 L (elt H a i :: S) k n H Q) := W_iaload (rfl : (pj lw).1 21 25 = some (.iaload, 1, 0))
theorem w21_26 {x : Int32} {l0 : Slot} : W (pj lw) 21 26 (l0 :: .val (.int x) :: L) S k n H Q ↔ W (pj lw) 21 27 (l0 :: .val (.int x) :: L) (.int x :: S) k n H Q := W_s (rfl : (pj lw).1 21 26 = some (.iload_n 1, 1, 0)) rfl rfl rfl
theorem w21_27 {x y : Int32} : W (pj lw) 21 27 L (.int y :: .int x :: S) k n H Q ↔ (if x = y then W (pj lw) 21 30 L S k n H Q else W (pj lw) 21 42 L S k n H Q) := W_icmp_ne (rfl : (pj lw).1 21 27 = some (.if_icmp .ne 15, 3, 0)) rfl
theorem w21_30 {x : Nat} : W (pj lw) 21 30 (.val (.ref x) :: L) S k n H Q ↔ W (pj lw) 21 31 (.val (.ref x) :: L) (.ref x :: S) k n H Q := W_s (rfl : (pj lw).1 21 30 = some (.aload_n 0, 1, 0)) rfl rfl rfl
theorem w21_31 {a : Nat} : W (pj lw) 21 31 L (.ref a :: S) k n H Q ↔ (isO H a = true ∧ W (pj lw) 21 34 L (fld H a 13 :: S) k n H Q) := W_getf (rfl : (pj lw).1 21 31 = some (.getfield 31, 3, 13))
theorem w21_34 {x : Int32} {l0 l1 l2 : Slot} : W (pj lw) 21 34 (l0 :: l1 :: l2 :: .val (.int x) :: L) S k n H Q ↔ W (pj lw) 21 35 (l0 :: l1 :: l2 :: .val (.int x) :: L) (.int x :: S) k n H Q := W_s (rfl : (pj lw).1 21 34 = some (.iload_n 3, 1, 0)) rfl rfl rfl
theorem w21_35 {i : Int32} {a : Nat} : W (pj lw) 21 35 L (.int i :: .ref a :: S) k n H Q ↔ (inA H a .int i = true ∧ W (pj lw) 21 36 L (elt H a i :: S) k n H Q) := W_iaload (rfl : (pj lw).1 21 35 = some (.iaload, 1, 0))
theorem w21_36 {x : Int32} {l0 l1 : Slot} : W (pj lw) 21 36 (l0 :: l1 :: .val (.int x) :: L) S k n H Q ↔ W (pj lw) 21 37 (l0 :: l1 :: .val (.int x) :: L) (.int x :: S) k n H Q := W_s (rfl : (pj lw).1 21 36 = some (.iload_n 2, 1, 0)) rfl rfl rfl
theorem w21_37 {x y : Int32} : W (pj lw) 21 37 L (.int y :: .int x :: S) k n H Q ↔ (if x = y then W (pj lw) 21 40 L S k n H Q else W (pj lw) 21 42 L S k n H Q) := W_icmp_ne (rfl : (pj lw).1 21 37 = some (.if_icmp .ne 5, 3, 0)) rfl
theorem w21_40 : W (pj lw) 21 40 L S k n H Q ↔ W (pj lw) 21 41 L (.int 1 :: S) k n H Q := W_s (rfl : (pj lw).1 21 40 = some (.iconst 1, 1, 0)) rfl rfl rfl
theorem w21_41 {x : Int32} : W (pj lw) 21 41 L (.int x :: S) k n H Q ↔ ((x = 0 ∨ x = 1) ∧ Q (some (.int x)) H) := W_rz (rfl : (pj lw).1 21 41 = some (.ireturn, 1, 0)) rfl
theorem w21_42 {x : Int32} {l0 l1 l2 : Slot} : W (pj lw) 21 42 (l0 :: l1 :: l2 :: .val (.int x) :: L) S k n H Q ↔ W (pj lw) 21 45 (l0 :: l1 :: l2 :: .val (.int (x + 1)) :: L) S k n H Q := W_s (rfl : (pj lw).1 21 42 = some (.iinc 3 1, 3, 0)) rfl rfl rfl
theorem w21_45 : W (pj lw) 21 45 L S k n H Q ↔ W (pj lw) 21 2 L S k n H Q := W_goto (rfl : (pj lw).1 21 45 = some (.goto (-43), 3, 0)) rfl
theorem w21_48 : W (pj lw) 21 48 L S k n H Q ↔ W (pj lw) 21 49 L (.int 0 :: S) k n H Q := W_s (rfl : (pj lw).1 21 48 = some (.iconst 0, 1, 0)) rfl rfl rfl
theorem w21_49 {x : Int32} : W (pj lw) 21 49 L (.int x :: S) k n H Q ↔ ((x = 0 ∨ x = 1) ∧ Q (some (.int x)) H) := W_rz (rfl : (pj lw).1 21 49 = some (.ireturn, 1, 0)) rfl
theorem c22 {x0 : Nat} {x1 : Int32} {x2 : Int32} : Cl (pj lw) 22 [.ref x0, .int x1, .int x2] H Q ↔ W (pj lw) 22 0 [.val (.ref x0), .val (.int x1), .val (.int x2)] [] 0 0 H Q := cl_unf rfl
theorem w22_0 {x : Nat} : W (pj lw) 22 0 (.val (.ref x) :: L) S k n H Q ↔ W (pj lw) 22 1 (.val (.ref x) :: L) (.ref x :: S) k n H Q := W_s (rfl : (pj lw).1 22 0 = some (.aload_n 0, 1, 0)) rfl rfl rfl
theorem w22_1 {x : Int32} {l0 : Slot} : W (pj lw) 22 1 (l0 :: .val (.int x) :: L) S k n H Q ↔ W (pj lw) 22 2 (l0 :: .val (.int x) :: L) (.int x :: S) k n H Q := W_s (rfl : (pj lw).1 22 1 = some (.iload_n 1, 1, 0)) rfl rfl rfl
theorem w22_2 {x : Int32} {l0 l1 : Slot} : W (pj lw) 22 2 (l0 :: l1 :: .val (.int x) :: L) S k n H Q ↔ W (pj lw) 22 3 (l0 :: l1 :: .val (.int x) :: L) (.int x :: S) k n H Q := W_s (rfl : (pj lw).1 22 2 = some (.iload_n 2, 1, 0)) rfl rfl rfl
theorem w22_3 {a : Nat} {x0 : Int32} {x1 : Int32} : W (pj lw) 22 3 L (.int x1 :: .int x0 :: .ref a :: S) k n H Q ↔ ((isO H a = true ∧ cs S + (4 + 11) + 0 ≤ 43) ∧ Cl (pj lw) 21 [.ref a, .int x0, .int x1] H (fun v H => W (pj lw) 22 6 L (v.toList ++ S) k n H Q)) := W_inst (as := [.int x0, .int x1]) (rfl : (pj lw).1 22 3 = some (.invokevirtual 94, 3, 21)) rfl rfl rfl (Nat.le_of_ble_eq_true rfl) (Nat.le_of_ble_eq_true rfl) ⟨rfl, rfl⟩
theorem w22_6 {x : Int32} : W (pj lw) 22 6 L (.int x :: S) k n H Q ↔ (if x = 0 then W (pj lw) 22 9 L S k n H Q else W (pj lw) 22 29 L S k n H Q) := W_if_ne (rfl : (pj lw).1 22 6 = some (.ifCond .ne 23, 3, 0)) rfl
theorem w22_9 {x : Nat} : W (pj lw) 22 9 (.val (.ref x) :: L) S k n H Q ↔ W (pj lw) 22 10 (.val (.ref x) :: L) (.ref x :: S) k n H Q := W_s (rfl : (pj lw).1 22 9 = some (.aload_n 0, 1, 0)) rfl rfl rfl
theorem w22_10 {x : Int32} {l0 l1 : Slot} : W (pj lw) 22 10 (l0 :: l1 :: .val (.int x) :: L) S k n H Q ↔ W (pj lw) 22 11 (l0 :: l1 :: .val (.int x) :: L) (.int x :: S) k n H Q := W_s (rfl : (pj lw).1 22 10 = some (.iload_n 2, 1, 0)) rfl rfl rfl
theorem w22_11 : W (pj lw) 22 11 L S k n H Q ↔ W (pj lw) 22 12 L (.int 1 :: S) k n H Q := W_s (rfl : (pj lw).1 22 11 = some (.iconst 1, 1, 0)) rfl rfl rfl
theorem w22_12 {x : Int32} {l0 : Slot} : W (pj lw) 22 12 (l0 :: .val (.int x) :: L) S k n H Q ↔ W (pj lw) 22 13 (l0 :: .val (.int x) :: L) (.int x :: S) k n H Q := W_s (rfl : (pj lw).1 22 12 = some (.iload_n 1, 1, 0)) rfl rfl rfl
theorem w22_13 {a : Nat} {x0 : Int32} {x1 : Int32} {x2 : Int32} : W (pj lw) 22 13 L (.int x2 :: .int x1 :: .int x0 :: .ref a :: S) k n H Q ↔ ((isO H a = true ∧ cs S + (4 + 11) + 28 ≤ 43) ∧ Cl (pj lw) 20 [.ref a, .int x0, .int x1, .int x2] H (fun v H => W (pj lw) 22 16 L (v.toList ++ S) k n H Q)) := W_inst (as := [.int x0, .int x1, .int x2]) (rfl : (pj lw).1 22 13 = some (.invokevirtual 97, 3, 20)) rfl rfl rfl (Nat.le_of_ble_eq_true rfl) (Nat.le_of_ble_eq_true rfl) ⟨rfl, rfl⟩
theorem w22_16 {x : Int32} : W (pj lw) 22 16 L (.int x :: S) k n H Q ↔ (if x = 0 then W (pj lw) 22 19 L S k n H Q else W (pj lw) 22 29 L S k n H Q) := W_if_ne (rfl : (pj lw).1 22 16 = some (.ifCond .ne 13, 3, 0)) rfl
theorem w22_19 {x : Nat} : W (pj lw) 22 19 (.val (.ref x) :: L) S k n H Q ↔ W (pj lw) 22 20 (.val (.ref x) :: L) (.ref x :: S) k n H Q := W_s (rfl : (pj lw).1 22 19 = some (.aload_n 0, 1, 0)) rfl rfl rfl
theorem w22_20 {x : Int32} {l0 l1 : Slot} : W (pj lw) 22 20 (l0 :: l1 :: .val (.int x) :: L) S k n H Q ↔ W (pj lw) 22 21 (l0 :: l1 :: .val (.int x) :: L) (.int x :: S) k n H Q := W_s (rfl : (pj lw).1 22 20 = some (.iload_n 2, 1, 0)) rfl rfl rfl
theorem w22_21 : W (pj lw) 22 21 L S k n H Q ↔ W (pj lw) 22 22 L (.int (-1) :: S) k n H Q := W_s (rfl : (pj lw).1 22 21 = some (.iconst (-1), 1, 0)) rfl rfl rfl
theorem w22_22 {x : Int32} {l0 : Slot} : W (pj lw) 22 22 (l0 :: .val (.int x) :: L) S k n H Q ↔ W (pj lw) 22 23 (l0 :: .val (.int x) :: L) (.int x :: S) k n H Q := W_s (rfl : (pj lw).1 22 22 = some (.iload_n 1, 1, 0)) rfl rfl rfl
theorem w22_23 {a : Nat} {x0 : Int32} {x1 : Int32} {x2 : Int32} : W (pj lw) 22 23 L (.int x2 :: .int x1 :: .int x0 :: .ref a :: S) k n H Q ↔ ((isO H a = true ∧ cs S + (4 + 11) + 28 ≤ 43) ∧ Cl (pj lw) 20 [.ref a, .int x0, .int x1, .int x2] H (fun v H => W (pj lw) 22 26 L (v.toList ++ S) k n H Q)) := W_inst (as := [.int x0, .int x1, .int x2]) (rfl : (pj lw).1 22 23 = some (.invokevirtual 97, 3, 20)) rfl rfl rfl (Nat.le_of_ble_eq_true rfl) (Nat.le_of_ble_eq_true rfl) ⟨rfl, rfl⟩
theorem w22_26 {x : Int32} : W (pj lw) 22 26 L (.int x :: S) k n H Q ↔ (if x = 0 then W (pj lw) 22 33 L S k n H Q else W (pj lw) 22 29 L S k n H Q) := W_if_eq (rfl : (pj lw).1 22 26 = some (.ifCond .eq 7, 3, 0)) rfl
theorem w22_29 : W (pj lw) 22 29 L S k n H Q ↔ W (pj lw) 22 30 L (.int 1 :: S) k n H Q := W_s (rfl : (pj lw).1 22 29 = some (.iconst 1, 1, 0)) rfl rfl rfl
theorem w22_30 : W (pj lw) 22 30 L S k n H Q ↔ W (pj lw) 22 34 L S k n H Q := W_goto (rfl : (pj lw).1 22 30 = some (.goto 4, 3, 0)) rfl
theorem w22_33 : W (pj lw) 22 33 L S k n H Q ↔ W (pj lw) 22 34 L (.int 0 :: S) k n H Q := W_s (rfl : (pj lw).1 22 33 = some (.iconst 0, 1, 0)) rfl rfl rfl
theorem w22_34 {x : Int32} : W (pj lw) 22 34 L (.int x :: S) k n H Q ↔ ((x = 0 ∨ x = 1) ∧ Q (some (.int x)) H) := W_rz (rfl : (pj lw).1 22 34 = some (.ireturn, 1, 0)) rfl
theorem c23 {x0 : Nat} {x1 : Int32} {x2 : Int32} : Cl (pj lw) 23 [.ref x0, .int x1, .int x2] H Q ↔ W (pj lw) 23 0 [.val (.ref x0), .val (.int x1), .val (.int x2), .unset, .unset, .unset] [] 0 0 H Q := cl_unf rfl
theorem w23_0 {x : Nat} : W (pj lw) 23 0 (.val (.ref x) :: L) S k n H Q ↔ W (pj lw) 23 1 (.val (.ref x) :: L) (.ref x :: S) k n H Q := W_s (rfl : (pj lw).1 23 0 = some (.aload_n 0, 1, 0)) rfl rfl rfl
theorem w23_1 {a : Nat} : W (pj lw) 23 1 L (.ref a :: S) k n H Q ↔ (isO H a = true ∧ W (pj lw) 23 4 L (fld H a 6 :: S) k n H Q) := W_getf (rfl : (pj lw).1 23 1 = some (.getfield 7, 3, 6))
theorem w23_4 {x : Int32} {l0 : Slot} : W (pj lw) 23 4 (l0 :: .val (.int x) :: L) S k n H Q ↔ W (pj lw) 23 5 (l0 :: .val (.int x) :: L) (.int x :: S) k n H Q := W_s (rfl : (pj lw).1 23 4 = some (.iload_n 1, 1, 0)) rfl rfl rfl
theorem w23_5 {i : Int32} {a : Nat} : W (pj lw) 23 5 L (.int i :: .ref a :: S) k n H Q ↔ (inA H a .int i = true ∧ W (pj lw) 23 6 L (elt H a i :: S) k n H Q) := W_iaload (rfl : (pj lw).1 23 5 = some (.iaload, 1, 0))
theorem w23_6 {x : Int32} {l0 l1 l2 : Slot} : W (pj lw) 23 6 (l0 :: l1 :: l2 :: .unset :: L) (.int x :: S) k n H Q ↔ W (pj lw) 23 7 (l0 :: l1 :: l2 :: .val (.int x) :: L) S k n H Q := W_istn (rfl : (pj lw).1 23 6 = some (.istore_n 3, 1, 0)) rfl rfl
theorem w23_7 : W (pj lw) 23 7 L S k n H Q ↔ W (pj lw) 23 8 L (.int 0 :: S) k n H Q := W_s (rfl : (pj lw).1 23 7 = some (.iconst 0, 1, 0)) rfl rfl rfl
theorem w23_8 {x : Int32} {l0 l1 l2 l3 : Slot} : W (pj lw) 23 8 (l0 :: l1 :: l2 :: l3 :: .unset :: L) (.int x :: S) k n H Q ↔ W (pj lw) 23 10 (l0 :: l1 :: l2 :: l3 :: .val (.int x) :: L) S k n H Q := W_ist (rfl : (pj lw).1 23 8 = some (.istore 4, 2, 0)) rfl rfl
theorem w23_10 {x : Int32} {l0 l1 l2 l3 : Slot} : W (pj lw) 23 10 (l0 :: l1 :: l2 :: l3 :: .val (.int x) :: L) S k n H Q ↔ W (pj lw) 23 12 (l0 :: l1 :: l2 :: l3 :: .val (.int x) :: L) (.int x :: S) k n H Q := W_s (rfl : (pj lw).1 23 10 = some (.iload 4, 2, 0)) rfl rfl rfl
theorem w23_12 {x : Nat} : W (pj lw) 23 12 (.val (.ref x) :: L) S k n H Q ↔ W (pj lw) 23 13 (.val (.ref x) :: L) (.ref x :: S) k n H Q := W_s (rfl : (pj lw).1 23 12 = some (.aload_n 0, 1, 0)) rfl rfl rfl
theorem w23_13 {a : Nat} : W (pj lw) 23 13 L (.ref a :: S) k n H Q ↔ (isO H a = true ∧ W (pj lw) 23 16 L (fld H a 1 :: S) k n H Q) := W_getf (rfl : (pj lw).1 23 13 = some (.getfield 57, 3, 1))
theorem w23_16 {x y : Int32} : W (pj lw) 23 16 L (.int y :: .int x :: S) k n H Q ↔ (if x < y then W (pj lw) 23 19 L S k n H Q else W (pj lw) 23 71 L S k n H Q) := W_icmp_ge (rfl : (pj lw).1 23 16 = some (.if_icmp .ge 55, 3, 0)) rfl
theorem w23_19 {x : Int32} {l0 l1 : Slot} : W (pj lw) 23 19 (l0 :: l1 :: .val (.int x) :: L) S k n H Q ↔ W (pj lw) 23 20 (l0 :: l1 :: .val (.int x) :: L) (.int x :: S) k n H Q := W_s (rfl : (pj lw).1 23 19 = some (.iload_n 2, 1, 0)) rfl rfl rfl
theorem w23_20 : W (pj lw) 23 20 L S k n H Q ↔ W (pj lw) 23 21 L (.int 1 :: S) k n H Q := W_s (rfl : (pj lw).1 23 20 = some (.iconst 1, 1, 0)) rfl rfl rfl
theorem w23_21 {x y : Int32} : W (pj lw) 23 21 L (.int y :: .int x :: S) k n H Q ↔ (if x = y then W (pj lw) 23 24 L S k n H Q else W (pj lw) 23 30 L S k n H Q) := W_icmp_ne (rfl : (pj lw).1 23 21 = some (.if_icmp .ne 9, 3, 0)) rfl
theorem w23_24 {x : Int32} {l0 l1 l2 l3 : Slot} : W (pj lw) 23 24 (l0 :: l1 :: l2 :: l3 :: .val (.int x) :: L) S k n H Q ↔ W (pj lw) 23 26 (l0 :: l1 :: l2 :: l3 :: .val (.int x) :: L) (.int x :: S) k n H Q := W_s (rfl : (pj lw).1 23 24 = some (.iload 4, 2, 0)) rfl rfl rfl
theorem w23_26 {x : Int32} {l0 l1 l2 : Slot} : W (pj lw) 23 26 (l0 :: l1 :: l2 :: .val (.int x) :: L) S k n H Q ↔ W (pj lw) 23 27 (l0 :: l1 :: l2 :: .val (.int x) :: L) (.int x :: S) k n H Q := W_s (rfl : (pj lw).1 23 26 = some (.iload_n 3, 1, 0)) rfl rfl rfl
theorem w23_27 {x y : Int32} : W (pj lw) 23 27 L (.int y :: .int x :: S) k n H Q ↔ (if y < x then W (pj lw) 23 41 L S k n H Q else W (pj lw) 23 30 L S k n H Q) := W_icmp_gt (rfl : (pj lw).1 23 27 = some (.if_icmp .gt 14, 3, 0)) rfl
theorem w23_30 {x : Int32} {l0 l1 : Slot} : W (pj lw) 23 30 (l0 :: l1 :: .val (.int x) :: L) S k n H Q ↔ W (pj lw) 23 31 (l0 :: l1 :: .val (.int x) :: L) (.int x :: S) k n H Q := W_s (rfl : (pj lw).1 23 30 = some (.iload_n 2, 1, 0)) rfl rfl rfl
theorem w23_31 : W (pj lw) 23 31 L S k n H Q ↔ W (pj lw) 23 32 L (.int (-1) :: S) k n H Q := W_s (rfl : (pj lw).1 23 31 = some (.iconst (-1), 1, 0)) rfl rfl rfl
theorem w23_32 {x y : Int32} : W (pj lw) 23 32 L (.int y :: .int x :: S) k n H Q ↔ (if x = y then W (pj lw) 23 35 L S k n H Q else W (pj lw) 23 45 L S k n H Q) := W_icmp_ne (rfl : (pj lw).1 23 32 = some (.if_icmp .ne 13, 3, 0)) rfl
theorem w23_35 {x : Int32} {l0 l1 l2 l3 : Slot} : W (pj lw) 23 35 (l0 :: l1 :: l2 :: l3 :: .val (.int x) :: L) S k n H Q ↔ W (pj lw) 23 37 (l0 :: l1 :: l2 :: l3 :: .val (.int x) :: L) (.int x :: S) k n H Q := W_s (rfl : (pj lw).1 23 35 = some (.iload 4, 2, 0)) rfl rfl rfl
theorem w23_37 {x : Int32} {l0 l1 l2 : Slot} : W (pj lw) 23 37 (l0 :: l1 :: l2 :: .val (.int x) :: L) S k n H Q ↔ W (pj lw) 23 38 (l0 :: l1 :: l2 :: .val (.int x) :: L) (.int x :: S) k n H Q := W_s (rfl : (pj lw).1 23 37 = some (.iload_n 3, 1, 0)) rfl rfl rfl
theorem w23_38 {x y : Int32} : W (pj lw) 23 38 L (.int y :: .int x :: S) k n H Q ↔ (if x < y then W (pj lw) 23 41 L S k n H Q else W (pj lw) 23 45 L S k n H Q) := W_icmp_ge (rfl : (pj lw).1 23 38 = some (.if_icmp .ge 7, 3, 0)) rfl
theorem w23_41 : W (pj lw) 23 41 L S k n H Q ↔ W (pj lw) 23 42 L (.int 1 :: S) k n H Q := W_s (rfl : (pj lw).1 23 41 = some (.iconst 1, 1, 0)) rfl rfl rfl
theorem w23_42 : W (pj lw) 23 42 L S k n H Q ↔ W (pj lw) 23 46 L S k n H Q := W_goto (rfl : (pj lw).1 23 42 = some (.goto 4, 3, 0)) rfl
theorem w23_45 : W (pj lw) 23 45 L S k n H Q ↔ W (pj lw) 23 46 L (.int 0 :: S) k n H Q := W_s (rfl : (pj lw).1 23 45 = some (.iconst 0, 1, 0)) rfl rfl rfl
theorem w23_46i {y : Int32} {x : Int32} {l0 l1 l2 l3 l4 : Slot} : W (pj lw) 23 46 (l0 :: l1 :: l2 :: l3 :: l4 :: .val (.int y) :: L) (.int x :: S) k n H Q ↔ W (pj lw) 23 48 (l0 :: l1 :: l2 :: l3 :: l4 :: .val (.int x) :: L) S k n H Q := W_ist (rfl : (pj lw).1 23 46 = some (.istore 5, 2, 0)) rfl rfl
theorem w23_46 {x : Int32} {l0 l1 l2 l3 l4 : Slot} : W (pj lw) 23 46 (l0 :: l1 :: l2 :: l3 :: l4 :: .unset :: L) (.int x :: S) k n H Q ↔ W (pj lw) 23 48 (l0 :: l1 :: l2 :: l3 :: l4 :: .val (.int x) :: L) S k n H Q := W_ist (rfl : (pj lw).1 23 46 = some (.istore 5, 2, 0)) rfl rfl
theorem w23_48 {x : Int32} {l0 l1 l2 l3 l4 : Slot} : W (pj lw) 23 48 (l0 :: l1 :: l2 :: l3 :: l4 :: .val (.int x) :: L) S k n H Q ↔ W (pj lw) 23 50 (l0 :: l1 :: l2 :: l3 :: l4 :: .val (.int x) :: L) (.int x :: S) k n H Q := W_s (rfl : (pj lw).1 23 48 = some (.iload 5, 2, 0)) rfl rfl rfl
theorem w23_50 {x : Int32} : W (pj lw) 23 50 L (.int x :: S) k n H Q ↔ (if x = 0 then W (pj lw) 23 65 L S k n H Q else W (pj lw) 23 53 L S k n H Q) := W_if_eq (rfl : (pj lw).1 23 50 = some (.ifCond .eq 15, 3, 0)) rfl
theorem w23_53 {x : Nat} : W (pj lw) 23 53 (.val (.ref x) :: L) S k n H Q ↔ W (pj lw) 23 54 (.val (.ref x) :: L) (.ref x :: S) k n H Q := W_s (rfl : (pj lw).1 23 53 = some (.aload_n 0, 1, 0)) rfl rfl rfl
theorem w23_54 {x : Int32} {l0 : Slot} : W (pj lw) 23 54 (l0 :: .val (.int x) :: L) S k n H Q ↔ W (pj lw) 23 55 (l0 :: .val (.int x) :: L) (.int x :: S) k n H Q := W_s (rfl : (pj lw).1 23 54 = some (.iload_n 1, 1, 0)) rfl rfl rfl
theorem w23_55 {x : Int32} {l0 l1 l2 l3 : Slot} : W (pj lw) 23 55 (l0 :: l1 :: l2 :: l3 :: .val (.int x) :: L) S k n H Q ↔ W (pj lw) 23 57 (l0 :: l1 :: l2 :: l3 :: .val (.int x) :: L) (.int x :: S) k n H Q := W_s (rfl : (pj lw).1 23 55 = some (.iload 4, 2, 0)) rfl rfl rfl
theorem w23_57 {a : Nat} {x0 : Int32} {x1 : Int32} : W (pj lw) 23 57 L (.int x1 :: .int x0 :: .ref a :: S) k n H Q ↔ ((isO H a = true ∧ cs S + (3 + 11) + 43 ≤ 57) ∧ Cl (pj lw) 22 [.ref a, .int x0, .int x1] H (fun v H => W (pj lw) 23 60 L (v.toList ++ S) k n H Q)) := W_inst (as := [.int x0, .int x1]) (rfl : (pj lw).1 23 57 = some (.invokevirtual 101, 3, 22)) rfl rfl rfl (Nat.le_of_ble_eq_true rfl) (Nat.le_of_ble_eq_true rfl) ⟨rfl, rfl⟩
theorem w23_60 {x : Int32} : W (pj lw) 23 60 L (.int x :: S) k n H Q ↔ (if x = 0 then W (pj lw) 23 65 L S k n H Q else W (pj lw) 23 63 L S k n H Q) := W_if_eq (rfl : (pj lw).1 23 60 = some (.ifCond .eq 5, 3, 0)) rfl
theorem w23_63 : W (pj lw) 23 63 L S k n H Q ↔ W (pj lw) 23 64 L (.int 1 :: S) k n H Q := W_s (rfl : (pj lw).1 23 63 = some (.iconst 1, 1, 0)) rfl rfl rfl
theorem w23_64 {x : Int32} : W (pj lw) 23 64 L (.int x :: S) k n H Q ↔ ((x = 0 ∨ x = 1) ∧ Q (some (.int x)) H) := W_rz (rfl : (pj lw).1 23 64 = some (.ireturn, 1, 0)) rfl
theorem w23_65 {x : Int32} {l0 l1 l2 l3 : Slot} : W (pj lw) 23 65 (l0 :: l1 :: l2 :: l3 :: .val (.int x) :: L) S k n H Q ↔ W (pj lw) 23 68 (l0 :: l1 :: l2 :: l3 :: .val (.int (x + 1)) :: L) S k n H Q := W_s (rfl : (pj lw).1 23 65 = some (.iinc 4 1, 3, 0)) rfl rfl rfl
theorem w23_68 : W (pj lw) 23 68 L S k n H Q ↔ W (pj lw) 23 10 L S k n H Q := W_goto (rfl : (pj lw).1 23 68 = some (.goto (-58), 3, 0)) rfl
theorem w23_71 : W (pj lw) 23 71 L S k n H Q ↔ W (pj lw) 23 72 L (.int 0 :: S) k n H Q := W_s (rfl : (pj lw).1 23 71 = some (.iconst 0, 1, 0)) rfl rfl rfl
theorem w23_72 {x : Int32} : W (pj lw) 23 72 L (.int x :: S) k n H Q ↔ ((x = 0 ∨ x = 1) ∧ Q (some (.int x)) H) := W_rz (rfl : (pj lw).1 23 72 = some (.ireturn, 1, 0)) rfl
theorem c24 {x0 : Nat} {x1 : Int32} : Cl (pj lw) 24 [.ref x0, .int x1] H Q ↔ W (pj lw) 24 0 [.val (.ref x0), .val (.int x1)] [] 0 0 H Q := cl_unf rfl
theorem w24_0 {x : Nat} : W (pj lw) 24 0 (.val (.ref x) :: L) S k n H Q ↔ W (pj lw) 24 1 (.val (.ref x) :: L) (.ref x :: S) k n H Q := W_s (rfl : (pj lw).1 24 0 = some (.aload_n 0, 1, 0)) rfl rfl rfl
theorem w24_1 {a : Nat} : W (pj lw) 24 1 L (.ref a :: S) k n H Q ↔ (isO H a = true ∧ W (pj lw) 24 4 L (fld H a 9 :: S) k n H Q) := W_getf (rfl : (pj lw).1 24 1 = some (.getfield 19, 3, 9))
theorem w24_4 {x : Int32} {l0 : Slot} : W (pj lw) 24 4 (l0 :: .val (.int x) :: L) S k n H Q ↔ W (pj lw) 24 5 (l0 :: .val (.int x) :: L) (.int x :: S) k n H Q := W_s (rfl : (pj lw).1 24 4 = some (.iload_n 1, 1, 0)) rfl rfl rfl
theorem w24_5 {i : Int32} {a : Nat} : W (pj lw) 24 5 L (.int i :: .ref a :: S) k n H Q ↔ (inA H a .int i = true ∧ W (pj lw) 24 6 L (elt H a i :: S) k n H Q) := W_iaload (rfl : (pj lw).1 24 5 = some (.iaload, 1, 0))
theorem w24_6 {x : Nat} : W (pj lw) 24 6 (.val (.ref x) :: L) S k n H Q ↔ W (pj lw) 24 7 (.val (.ref x) :: L) (.ref x :: S) k n H Q := W_s (rfl : (pj lw).1 24 6 = some (.aload_n 0, 1, 0)) rfl rfl rfl
theorem w24_7 {a : Nat} : W (pj lw) 24 7 L (.ref a :: S) k n H Q ↔ (isO H a = true ∧ W (pj lw) 24 10 L (fld H a 2 :: S) k n H Q) := W_getf (rfl : (pj lw).1 24 7 = some (.getfield 60, 3, 2))
theorem w24_10 {x y : Int32} : W (pj lw) 24 10 L (.int y :: .int x :: S) k n H Q ↔ (if x < y then W (pj lw) 24 13 L S k n H Q else W (pj lw) 24 17 L S k n H Q) := W_icmp_ge (rfl : (pj lw).1 24 10 = some (.if_icmp .ge 7, 3, 0)) rfl
theorem w24_13 : W (pj lw) 24 13 L S k n H Q ↔ W (pj lw) 24 14 L (.int 1 :: S) k n H Q := W_s (rfl : (pj lw).1 24 13 = some (.iconst 1, 1, 0)) rfl rfl rfl
theorem w24_14 : W (pj lw) 24 14 L S k n H Q ↔ W (pj lw) 24 18 L S k n H Q := W_goto (rfl : (pj lw).1 24 14 = some (.goto 4, 3, 0)) rfl
theorem w24_17 : W (pj lw) 24 17 L S k n H Q ↔ W (pj lw) 24 18 L (.int 0 :: S) k n H Q := W_s (rfl : (pj lw).1 24 17 = some (.iconst 0, 1, 0)) rfl rfl rfl
theorem w24_18 {x : Int32} : W (pj lw) 24 18 L (.int x :: S) k n H Q ↔ ((x = 0 ∨ x = 1) ∧ Q (some (.int x)) H) := W_rz (rfl : (pj lw).1 24 18 = some (.ireturn, 1, 0)) rfl
theorem c25 {x0 : Nat} {x1 : Int32} : Cl (pj lw) 25 [.ref x0, .int x1] H Q ↔ W (pj lw) 25 0 [.val (.ref x0), .val (.int x1), .unset, .unset] [] 0 0 H Q := cl_unf rfl
theorem w25_0 {x : Nat} : W (pj lw) 25 0 (.val (.ref x) :: L) S k n H Q ↔ W (pj lw) 25 1 (.val (.ref x) :: L) (.ref x :: S) k n H Q := W_s (rfl : (pj lw).1 25 0 = some (.aload_n 0, 1, 0)) rfl rfl rfl
theorem w25_1 {a : Nat} : W (pj lw) 25 1 L (.ref a :: S) k n H Q ↔ (isO H a = true ∧ W (pj lw) 25 4 L (fld H a 8 :: S) k n H Q) := W_getf (rfl : (pj lw).1 25 1 = some (.getfield 16, 3, 8))
theorem w25_4 {x : Int32} {l0 : Slot} : W (pj lw) 25 4 (l0 :: .val (.int x) :: L) S k n H Q ↔ W (pj lw) 25 5 (l0 :: .val (.int x) :: L) (.int x :: S) k n H Q := W_s (rfl : (pj lw).1 25 4 = some (.iload_n 1, 1, 0)) rfl rfl rfl
theorem w25_5 {i : Int32} {a : Nat} : W (pj lw) 25 5 L (.int i :: .ref a :: S) k n H Q ↔ (inA H a .int i = true ∧ W (pj lw) 25 6 L (elt H a i :: S) k n H Q) := W_iaload (rfl : (pj lw).1 25 5 = some (.iaload, 1, 0))
theorem w25_6 {x : Int32} : W (pj lw) 25 6 L (.int x :: S) k n H Q ↔ (if x = 0 then W (pj lw) 25 18 L S k n H Q else W (pj lw) 25 9 L S k n H Q) := W_if_eq (rfl : (pj lw).1 25 6 = some (.ifCond .eq 12, 3, 0)) rfl
theorem w25_9 {x : Nat} : W (pj lw) 25 9 (.val (.ref x) :: L) S k n H Q ↔ W (pj lw) 25 10 (.val (.ref x) :: L) (.ref x :: S) k n H Q := W_s (rfl : (pj lw).1 25 9 = some (.aload_n 0, 1, 0)) rfl rfl rfl
theorem w25_10 {a : Nat} : W (pj lw) 25 10 L (.ref a :: S) k n H Q ↔ (isO H a = true ∧ W (pj lw) 25 13 L (fld H a 8 :: S) k n H Q) := W_getf (rfl : (pj lw).1 25 10 = some (.getfield 16, 3, 8))
theorem w25_13 {x : Int32} {l0 : Slot} : W (pj lw) 25 13 (l0 :: .val (.int x) :: L) S k n H Q ↔ W (pj lw) 25 14 (l0 :: .val (.int x) :: L) (.int x :: S) k n H Q := W_s (rfl : (pj lw).1 25 13 = some (.iload_n 1, 1, 0)) rfl rfl rfl
theorem w25_14 {i : Int32} {a : Nat} : W (pj lw) 25 14 L (.int i :: .ref a :: S) k n H Q ↔ (inA H a .int i = true ∧ W (pj lw) 25 15 L (elt H a i :: S) k n H Q) := W_iaload (rfl : (pj lw).1 25 14 = some (.iaload, 1, 0))
theorem w25_15 : W (pj lw) 25 15 L S k n H Q ↔ W (pj lw) 25 19 L S k n H Q := W_goto (rfl : (pj lw).1 25 15 = some (.goto 4, 3, 0)) rfl
theorem w25_18 : W (pj lw) 25 18 L S k n H Q ↔ W (pj lw) 25 19 L (.int 1 :: S) k n H Q := W_s (rfl : (pj lw).1 25 18 = some (.iconst 1, 1, 0)) rfl rfl rfl
theorem w25_19 {x : Int32} {l0 l1 : Slot} : W (pj lw) 25 19 (l0 :: l1 :: .unset :: L) (.int x :: S) k n H Q ↔ W (pj lw) 25 20 (l0 :: l1 :: .val (.int x) :: L) S k n H Q := W_istn (rfl : (pj lw).1 25 19 = some (.istore_n 2, 1, 0)) rfl rfl
theorem w25_20 {x : Nat} : W (pj lw) 25 20 (.val (.ref x) :: L) S k n H Q ↔ W (pj lw) 25 21 (.val (.ref x) :: L) (.ref x :: S) k n H Q := W_s (rfl : (pj lw).1 25 20 = some (.aload_n 0, 1, 0)) rfl rfl rfl
theorem w25_21 {a : Nat} : W (pj lw) 25 21 L (.ref a :: S) k n H Q ↔ (isO H a = true ∧ W (pj lw) 25 24 L (fld H a 6 :: S) k n H Q) := W_getf (rfl : (pj lw).1 25 21 = some (.getfield 7, 3, 6))
theorem w25_24 {x : Int32} {l0 : Slot} : W (pj lw) 25 24 (l0 :: .val (.int x) :: L) S k n H Q ↔ W (pj lw) 25 25 (l0 :: .val (.int x) :: L) (.int x :: S) k n H Q := W_s (rfl : (pj lw).1 25 24 = some (.iload_n 1, 1, 0)) rfl rfl rfl
theorem w25_25 {i : Int32} {a : Nat} : W (pj lw) 25 25 L (.int i :: .ref a :: S) k n H Q ↔ (inA H a .int i = true ∧ W (pj lw) 25 26 L (elt H a i :: S) k n H Q) := W_iaload (rfl : (pj lw).1 25 25 = some (.iaload, 1, 0))
theorem w25_26 {x : Int32} {l0 l1 l2 : Slot} : W (pj lw) 25 26 (l0 :: l1 :: l2 :: .unset :: L) (.int x :: S) k n H Q ↔ W (pj lw) 25 27 (l0 :: l1 :: l2 :: .val (.int x) :: L) S k n H Q := W_istn (rfl : (pj lw).1 25 26 = some (.istore_n 3, 1, 0)) rfl rfl
theorem w25_27 {x : Nat} : W (pj lw) 25 27 (.val (.ref x) :: L) S k n H Q ↔ W (pj lw) 25 28 (.val (.ref x) :: L) (.ref x :: S) k n H Q := W_s (rfl : (pj lw).1 25 27 = some (.aload_n 0, 1, 0)) rfl rfl rfl
theorem w25_28 {x : Int32} {l0 : Slot} : W (pj lw) 25 28 (l0 :: .val (.int x) :: L) S k n H Q ↔ W (pj lw) 25 29 (l0 :: .val (.int x) :: L) (.int x :: S) k n H Q := W_s (rfl : (pj lw).1 25 28 = some (.iload_n 1, 1, 0)) rfl rfl rfl
theorem w25_29 {x : Int32} {l0 l1 : Slot} : W (pj lw) 25 29 (l0 :: l1 :: .val (.int x) :: L) S k n H Q ↔ W (pj lw) 25 30 (l0 :: l1 :: .val (.int x) :: L) (.int x :: S) k n H Q := W_s (rfl : (pj lw).1 25 29 = some (.iload_n 2, 1, 0)) rfl rfl rfl
theorem w25_30 {a : Nat} {x0 : Int32} {x1 : Int32} : W (pj lw) 25 30 L (.int x1 :: .int x0 :: .ref a :: S) k n H Q ↔ ((isO H a = true ∧ cs S + (6 + 11) + 57 ≤ 74) ∧ Cl (pj lw) 23 [.ref a, .int x0, .int x1] H (fun v H => W (pj lw) 25 33 L (v.toList ++ S) k n H Q)) := W_inst (as := [.int x0, .int x1]) (rfl : (pj lw).1 25 30 = some (.invokevirtual 104, 3, 23)) rfl rfl rfl (Nat.le_of_ble_eq_true rfl) (Nat.le_of_ble_eq_true rfl) ⟨rfl, rfl⟩
theorem w25_33 {x : Int32} : W (pj lw) 25 33 L (.int x :: S) k n H Q ↔ (if x = 0 then W (pj lw) 25 36 L S k n H Q else W (pj lw) 25 45 L S k n H Q) := W_if_ne (rfl : (pj lw).1 25 33 = some (.ifCond .ne 12, 3, 0)) rfl
theorem w25_36 {x : Nat} : W (pj lw) 25 36 (.val (.ref x) :: L) S k n H Q ↔ W (pj lw) 25 37 (.val (.ref x) :: L) (.ref x :: S) k n H Q := W_s (rfl : (pj lw).1 25 36 = some (.aload_n 0, 1, 0)) rfl rfl rfl
theorem w25_37 {x : Int32} {l0 l1 l2 : Slot} : W (pj lw) 25 37 (l0 :: l1 :: l2 :: .val (.int x) :: L) S k n H Q ↔ W (pj lw) 25 38 (l0 :: l1 :: l2 :: .val (.int x) :: L) (.int x :: S) k n H Q := W_s (rfl : (pj lw).1 25 37 = some (.iload_n 3, 1, 0)) rfl rfl rfl
theorem w25_38 {x : Int32} {l0 l1 : Slot} : W (pj lw) 25 38 (l0 :: l1 :: .val (.int x) :: L) S k n H Q ↔ W (pj lw) 25 39 (l0 :: l1 :: .val (.int x) :: L) (.int x :: S) k n H Q := W_s (rfl : (pj lw).1 25 38 = some (.iload_n 2, 1, 0)) rfl rfl rfl
theorem w25_39 {a : Nat} {x0 : Int32} {x1 : Int32} : W (pj lw) 25 39 L (.int x1 :: .int x0 :: .ref a :: S) k n H Q ↔ ((isO H a = true ∧ cs S + (4 + 11) + 13 ≤ 74) ∧ Cl (pj lw) 19 [.ref a, .int x0, .int x1] H (fun v H => W (pj lw) 25 42 L (v.toList ++ S) k n H Q)) := W_inst (as := [.int x0, .int x1]) (rfl : (pj lw).1 25 39 = some (.invokevirtual 79, 3, 19)) rfl rfl rfl (Nat.le_of_ble_eq_true rfl) (Nat.le_of_ble_eq_true rfl) ⟨rfl, rfl⟩
theorem w25_42 {x : Int32} : W (pj lw) 25 42 L (.int x :: S) k n H Q ↔ (if x = 0 then W (pj lw) 25 47 L S k n H Q else W (pj lw) 25 45 L S k n H Q) := W_if_eq (rfl : (pj lw).1 25 42 = some (.ifCond .eq 5, 3, 0)) rfl
theorem w25_45 {x : Int32} {l0 l1 : Slot} : W (pj lw) 25 45 (l0 :: l1 :: .val (.int x) :: L) S k n H Q ↔ W (pj lw) 25 46 (l0 :: l1 :: .val (.int x) :: L) (.int x :: S) k n H Q := W_s (rfl : (pj lw).1 25 45 = some (.iload_n 2, 1, 0)) rfl rfl rfl
theorem w25_46 {x : Int32} : W (pj lw) 25 46 L (.int x :: S) k n H Q ↔ Q (some (.int x)) H := W_r (rfl : (pj lw).1 25 46 = some (.ireturn, 1, 0)) rfl
theorem w25_47 {x : Nat} : W (pj lw) 25 47 (.val (.ref x) :: L) S k n H Q ↔ W (pj lw) 25 48 (.val (.ref x) :: L) (.ref x :: S) k n H Q := W_s (rfl : (pj lw).1 25 47 = some (.aload_n 0, 1, 0)) rfl rfl rfl
theorem w25_48 {x : Int32} {l0 : Slot} : W (pj lw) 25 48 (l0 :: .val (.int x) :: L) S k n H Q ↔ W (pj lw) 25 49 (l0 :: .val (.int x) :: L) (.int x :: S) k n H Q := W_s (rfl : (pj lw).1 25 48 = some (.iload_n 1, 1, 0)) rfl rfl rfl
theorem w25_49 {x : Int32} {l0 l1 : Slot} : W (pj lw) 25 49 (l0 :: l1 :: .val (.int x) :: L) S k n H Q ↔ W (pj lw) 25 50 (l0 :: l1 :: .val (.int x) :: L) (.int x :: S) k n H Q := W_s (rfl : (pj lw).1 25 49 = some (.iload_n 2, 1, 0)) rfl rfl rfl
theorem w25_50 {x : Int32} : W (pj lw) 25 50 L (.int x :: S) k n H Q ↔ W (pj lw) 25 51 L (.int (-x) :: S) k n H Q := W_s (rfl : (pj lw).1 25 50 = some (.ineg, 1, 0)) rfl rfl rfl
theorem w25_51 {a : Nat} {x0 : Int32} {x1 : Int32} : W (pj lw) 25 51 L (.int x1 :: .int x0 :: .ref a :: S) k n H Q ↔ ((isO H a = true ∧ cs S + (6 + 11) + 57 ≤ 74) ∧ Cl (pj lw) 23 [.ref a, .int x0, .int x1] H (fun v H => W (pj lw) 25 54 L (v.toList ++ S) k n H Q)) := W_inst (as := [.int x0, .int x1]) (rfl : (pj lw).1 25 51 = some (.invokevirtual 104, 3, 23)) rfl rfl rfl (Nat.le_of_ble_eq_true rfl) (Nat.le_of_ble_eq_true rfl) ⟨rfl, rfl⟩
theorem w25_54 {x : Int32} : W (pj lw) 25 54 L (.int x :: S) k n H Q ↔ (if x = 0 then W (pj lw) 25 57 L S k n H Q else W (pj lw) 25 67 L S k n H Q) := W_if_ne (rfl : (pj lw).1 25 54 = some (.ifCond .ne 13, 3, 0)) rfl
theorem w25_57 {x : Nat} : W (pj lw) 25 57 (.val (.ref x) :: L) S k n H Q ↔ W (pj lw) 25 58 (.val (.ref x) :: L) (.ref x :: S) k n H Q := W_s (rfl : (pj lw).1 25 57 = some (.aload_n 0, 1, 0)) rfl rfl rfl
theorem w25_58 {x : Int32} {l0 l1 l2 : Slot} : W (pj lw) 25 58 (l0 :: l1 :: l2 :: .val (.int x) :: L) S k n H Q ↔ W (pj lw) 25 59 (l0 :: l1 :: l2 :: .val (.int x) :: L) (.int x :: S) k n H Q := W_s (rfl : (pj lw).1 25 58 = some (.iload_n 3, 1, 0)) rfl rfl rfl
theorem w25_59 {x : Int32} {l0 l1 : Slot} : W (pj lw) 25 59 (l0 :: l1 :: .val (.int x) :: L) S k n H Q ↔ W (pj lw) 25 60 (l0 :: l1 :: .val (.int x) :: L) (.int x :: S) k n H Q := W_s (rfl : (pj lw).1 25 59 = some (.iload_n 2, 1, 0)) rfl rfl rfl
theorem w25_60 {x : Int32} : W (pj lw) 25 60 L (.int x :: S) k n H Q ↔ W (pj lw) 25 61 L (.int (-x) :: S) k n H Q := W_s (rfl : (pj lw).1 25 60 = some (.ineg, 1, 0)) rfl rfl rfl
theorem w25_61 {a : Nat} {x0 : Int32} {x1 : Int32} : W (pj lw) 25 61 L (.int x1 :: .int x0 :: .ref a :: S) k n H Q ↔ ((isO H a = true ∧ cs S + (4 + 11) + 13 ≤ 74) ∧ Cl (pj lw) 19 [.ref a, .int x0, .int x1] H (fun v H => W (pj lw) 25 64 L (v.toList ++ S) k n H Q)) := W_inst (as := [.int x0, .int x1]) (rfl : (pj lw).1 25 61 = some (.invokevirtual 79, 3, 19)) rfl rfl rfl (Nat.le_of_ble_eq_true rfl) (Nat.le_of_ble_eq_true rfl) ⟨rfl, rfl⟩
theorem w25_64 {x : Int32} : W (pj lw) 25 64 L (.int x :: S) k n H Q ↔ (if x = 0 then W (pj lw) 25 70 L S k n H Q else W (pj lw) 25 67 L S k n H Q) := W_if_eq (rfl : (pj lw).1 25 64 = some (.ifCond .eq 6, 3, 0)) rfl
theorem w25_67 {x : Int32} {l0 l1 : Slot} : W (pj lw) 25 67 (l0 :: l1 :: .val (.int x) :: L) S k n H Q ↔ W (pj lw) 25 68 (l0 :: l1 :: .val (.int x) :: L) (.int x :: S) k n H Q := W_s (rfl : (pj lw).1 25 67 = some (.iload_n 2, 1, 0)) rfl rfl rfl
theorem w25_68 {x : Int32} : W (pj lw) 25 68 L (.int x :: S) k n H Q ↔ W (pj lw) 25 69 L (.int (-x) :: S) k n H Q := W_s (rfl : (pj lw).1 25 68 = some (.ineg, 1, 0)) rfl rfl rfl
theorem w25_69 {x : Int32} : W (pj lw) 25 69 L (.int x :: S) k n H Q ↔ Q (some (.int x)) H := W_r (rfl : (pj lw).1 25 69 = some (.ireturn, 1, 0)) rfl
theorem w25_70 : W (pj lw) 25 70 L S k n H Q ↔ W (pj lw) 25 71 L (.int 0 :: S) k n H Q := W_s (rfl : (pj lw).1 25 70 = some (.iconst 0, 1, 0)) rfl rfl rfl
theorem w25_71 {x : Int32} : W (pj lw) 25 71 L (.int x :: S) k n H Q ↔ Q (some (.int x)) H := W_r (rfl : (pj lw).1 25 71 = some (.ireturn, 1, 0)) rfl
theorem c26 {x0 : Nat} : Cl (pj lw) 26 [.ref x0] H Q ↔ W (pj lw) 26 0 [.val (.ref x0), .unset] [] 0 0 H Q := cl_unf rfl
theorem w26_0 {x : Nat} : W (pj lw) 26 0 (.val (.ref x) :: L) S k n H Q ↔ W (pj lw) 26 1 (.val (.ref x) :: L) (.ref x :: S) k n H Q := W_s (rfl : (pj lw).1 26 0 = some (.aload_n 0, 1, 0)) rfl rfl rfl
theorem w26_1 {a : Nat} : W (pj lw) 26 1 L (.ref a :: S) k n H Q ↔ ((isO H a = true ∧ cs S + (2 + 11) + 0 ≤ 119) ∧ Cl (pj lw) 27 [.ref a] H (fun v H => W (pj lw) 26 4 L (v.toList ++ S) k n H Q)) := W_inst (as := []) (rfl : (pj lw).1 26 1 = some (.invokevirtual 107, 3, 27)) rfl rfl rfl (Nat.le_of_ble_eq_true rfl) (Nat.le_of_ble_eq_true rfl) ⟨rfl, rfl⟩
theorem w26_4 {x : Nat} : W (pj lw) 26 4 (.val (.ref x) :: L) S k n H Q ↔ W (pj lw) 26 5 (.val (.ref x) :: L) (.ref x :: S) k n H Q := W_s (rfl : (pj lw).1 26 4 = some (.aload_n 0, 1, 0)) rfl rfl rfl
theorem w26_5 {a : Nat} : W (pj lw) 26 5 L (.ref a :: S) k n H Q ↔ ((isO H a = true ∧ cs S + (4 + 11) + 47 ≤ 119) ∧ Cl (pj lw) 28 [.ref a] H (fun v H => W (pj lw) 26 8 L (v.toList ++ S) k n H Q)) := W_inst (as := []) (rfl : (pj lw).1 26 5 = some (.invokevirtual 110, 3, 28)) rfl rfl rfl (Nat.le_of_ble_eq_true rfl) (Nat.le_of_ble_eq_true rfl) ⟨rfl, rfl⟩
theorem w26_8 : W (pj lw) 26 8 L S k n H Q ↔ W (pj lw) 26 9 L (.int 0 :: S) k n H Q := W_s (rfl : (pj lw).1 26 8 = some (.iconst 0, 1, 0)) rfl rfl rfl
theorem w26_9 {x : Int32} {l0 : Slot} : W (pj lw) 26 9 (l0 :: .unset :: L) (.int x :: S) k n H Q ↔ W (pj lw) 26 10 (l0 :: .val (.int x) :: L) S k n H Q := W_istn (rfl : (pj lw).1 26 9 = some (.istore_n 1, 1, 0)) rfl rfl
theorem w26_10 {x : Int32} {l0 : Slot} : W (pj lw) 26 10 (l0 :: .val (.int x) :: L) S k n H Q ↔ W (pj lw) 26 11 (l0 :: .val (.int x) :: L) (.int x :: S) k n H Q := W_s (rfl : (pj lw).1 26 10 = some (.iload_n 1, 1, 0)) rfl rfl rfl
theorem w26_11 {x : Nat} : W (pj lw) 26 11 (.val (.ref x) :: L) S k n H Q ↔ W (pj lw) 26 12 (.val (.ref x) :: L) (.ref x :: S) k n H Q := W_s (rfl : (pj lw).1 26 11 = some (.aload_n 0, 1, 0)) rfl rfl rfl
theorem w26_12 {a : Nat} : W (pj lw) 26 12 L (.ref a :: S) k n H Q ↔ (isO H a = true ∧ W (pj lw) 26 15 L (fld H a 0 :: S) k n H Q) := W_getf (rfl : (pj lw).1 26 12 = some (.getfield 53, 3, 0))
theorem w26_15 {x y : Int32} : W (pj lw) 26 15 L (.int y :: .int x :: S) k n H Q ↔ (if x < y then W (pj lw) 26 18 L S k n H Q else W (pj lw) 26 29 L S k n H Q) := W_icmp_ge (rfl : (pj lw).1 26 15 = some (.if_icmp .ge 14, 3, 0)) rfl
theorem w26_18 {x : Nat} : W (pj lw) 26 18 (.val (.ref x) :: L) S k n H Q ↔ W (pj lw) 26 19 (.val (.ref x) :: L) (.ref x :: S) k n H Q := W_s (rfl : (pj lw).1 26 18 = some (.aload_n 0, 1, 0)) rfl rfl rfl
theorem w26_19 {x : Int32} {l0 : Slot} : W (pj lw) 26 19 (l0 :: .val (.int x) :: L) S k n H Q ↔ W (pj lw) 26 20 (l0 :: .val (.int x) :: L) (.int x :: S) k n H Q := W_s (rfl : (pj lw).1 26 19 = some (.iload_n 1, 1, 0)) rfl rfl rfl
theorem w26_20 {a : Nat} {x0 : Int32} : W (pj lw) 26 20 L (.int x0 :: .ref a :: S) k n H Q ↔ ((isO H a = true ∧ cs S + (3 + 11) + 105 ≤ 119) ∧ Cl (pj lw) 31 [.ref a, .int x0] H (fun v H => W (pj lw) 26 23 L (v.toList ++ S) k n H Q)) := W_inst (as := [.int x0]) (rfl : (pj lw).1 26 20 = some (.invokevirtual 113, 3, 31)) rfl rfl rfl (Nat.le_of_ble_eq_true rfl) (Nat.le_of_ble_eq_true rfl) ⟨rfl, rfl⟩
theorem w26_23 {x : Int32} {l0 : Slot} : W (pj lw) 26 23 (l0 :: .val (.int x) :: L) S k n H Q ↔ W (pj lw) 26 26 (l0 :: .val (.int (x + 1)) :: L) S k n H Q := W_s (rfl : (pj lw).1 26 23 = some (.iinc 1 1, 3, 0)) rfl rfl rfl
theorem w26_26 : W (pj lw) 26 26 L S k n H Q ↔ W (pj lw) 26 10 L S k n H Q := W_goto (rfl : (pj lw).1 26 26 = some (.goto (-16), 3, 0)) rfl
theorem w26_29 {x : Nat} : W (pj lw) 26 29 (.val (.ref x) :: L) S k n H Q ↔ W (pj lw) 26 30 (.val (.ref x) :: L) (.ref x :: S) k n H Q := W_s (rfl : (pj lw).1 26 29 = some (.aload_n 0, 1, 0)) rfl rfl rfl
theorem w26_30 {x : Nat} : W (pj lw) 26 30 (.val (.ref x) :: L) S k n H Q ↔ W (pj lw) 26 31 (.val (.ref x) :: L) (.ref x :: S) k n H Q := W_s (rfl : (pj lw).1 26 30 = some (.aload_n 0, 1, 0)) rfl rfl rfl
theorem w26_31 {a : Nat} : W (pj lw) 26 31 L (.ref a :: S) k n H Q ↔ (isO H a = true ∧ W (pj lw) 26 34 L (fld H a 3 :: S) k n H Q) := W_getf (rfl : (pj lw).1 26 31 = some (.getfield 66, 3, 3))
theorem w26_34 : W (pj lw) 26 34 L S k n H Q ↔ W (pj lw) 26 35 L (.int 1 :: S) k n H Q := W_s (rfl : (pj lw).1 26 34 = some (.iconst 1, 1, 0)) rfl rfl rfl
theorem w26_35 {x y : Int32} : W (pj lw) 26 35 L (.int y :: .int x :: S) k n H Q ↔ W (pj lw) 26 36 L (.int (x + y) :: S) k n H Q := W_s (rfl : (pj lw).1 26 35 = some (.iadd, 1, 0)) rfl rfl rfl
theorem w26_36 {a : Nat} {v : Value} : W (pj lw) 26 36 L (v :: .ref a :: S) k n H Q ↔ ((isOw H a = true ∧ okv (.int) v = true) ∧ W (pj lw) 26 39 L S k n (wr H a 3 v) Q) := W_putf (rfl : (pj lw).1 26 36 = some (.putfield 66, 3, 3))
theorem w26_39 : W (pj lw) 26 39 L [] k n H Q ↔ Q none H := W_r (rfl : (pj lw).1 26 39 = some (.return_, 1, 0)) rfl
theorem c27 {x0 : Nat} : Cl (pj lw) 27 [.ref x0] H Q ↔ W (pj lw) 27 0 [.val (.ref x0), .unset] [] 0 0 H Q := cl_unf rfl
theorem w27_0 : W (pj lw) 27 0 L S k n H Q ↔ W (pj lw) 27 1 L (.int 0 :: S) k n H Q := W_s (rfl : (pj lw).1 27 0 = some (.iconst 0, 1, 0)) rfl rfl rfl
theorem w27_1 {x : Int32} {l0 : Slot} : W (pj lw) 27 1 (l0 :: .unset :: L) (.int x :: S) k n H Q ↔ W (pj lw) 27 2 (l0 :: .val (.int x) :: L) S k n H Q := W_istn (rfl : (pj lw).1 27 1 = some (.istore_n 1, 1, 0)) rfl rfl
theorem w27_2 {x : Int32} {l0 : Slot} : W (pj lw) 27 2 (l0 :: .val (.int x) :: L) S k n H Q ↔ W (pj lw) 27 3 (l0 :: .val (.int x) :: L) (.int x :: S) k n H Q := W_s (rfl : (pj lw).1 27 2 = some (.iload_n 1, 1, 0)) rfl rfl rfl
theorem w27_3 {x : Nat} : W (pj lw) 27 3 (.val (.ref x) :: L) S k n H Q ↔ W (pj lw) 27 4 (.val (.ref x) :: L) (.ref x :: S) k n H Q := W_s (rfl : (pj lw).1 27 3 = some (.aload_n 0, 1, 0)) rfl rfl rfl
theorem w27_4 {a : Nat} : W (pj lw) 27 4 L (.ref a :: S) k n H Q ↔ (isO H a = true ∧ W (pj lw) 27 7 L (fld H a 4 :: S) k n H Q) := W_getf (rfl : (pj lw).1 27 4 = some (.getfield 63, 3, 4))
theorem w27_7 {x y : Int32} : W (pj lw) 27 7 L (.int y :: .int x :: S) k n H Q ↔ (if x < y then W (pj lw) 27 10 L S k n H Q else W (pj lw) 27 45 L S k n H Q) := W_icmp_ge (rfl : (pj lw).1 27 7 = some (.if_icmp .ge 38, 3, 0)) rfl
theorem w27_10 {x : Nat} : W (pj lw) 27 10 (.val (.ref x) :: L) S k n H Q ↔ W (pj lw) 27 11 (.val (.ref x) :: L) (.ref x :: S) k n H Q := W_s (rfl : (pj lw).1 27 10 = some (.aload_n 0, 1, 0)) rfl rfl rfl
theorem w27_11 {a : Nat} : W (pj lw) 27 11 L (.ref a :: S) k n H Q ↔ (isO H a = true ∧ W (pj lw) 27 14 L (fld H a 11 :: S) k n H Q) := W_getf (rfl : (pj lw).1 27 11 = some (.getfield 25, 3, 11))
theorem w27_14 {x : Int32} {l0 : Slot} : W (pj lw) 27 14 (l0 :: .val (.int x) :: L) S k n H Q ↔ W (pj lw) 27 15 (l0 :: .val (.int x) :: L) (.int x :: S) k n H Q := W_s (rfl : (pj lw).1 27 14 = some (.iload_n 1, 1, 0)) rfl rfl rfl
theorem w27_15 {i : Int32} {a : Nat} : W (pj lw) 27 15 L (.int i :: .ref a :: S) k n H Q ↔ (inA H a .int i = true ∧ W (pj lw) 27 16 L (elt H a i :: S) k n H Q) := W_iaload (rfl : (pj lw).1 27 15 = some (.iaload, 1, 0))
theorem w27_16 {x : Int32} : W (pj lw) 27 16 L (.int x :: S) k n H Q ↔ (if x = 0 then W (pj lw) 27 19 L S k n H Q else W (pj lw) 27 39 L S k n H Q) := W_if_ne (rfl : (pj lw).1 27 16 = some (.ifCond .ne 23, 3, 0)) rfl
theorem w27_19 {x : Nat} : W (pj lw) 27 19 (.val (.ref x) :: L) S k n H Q ↔ W (pj lw) 27 20 (.val (.ref x) :: L) (.ref x :: S) k n H Q := W_s (rfl : (pj lw).1 27 19 = some (.aload_n 0, 1, 0)) rfl rfl rfl
theorem w27_20 {a : Nat} : W (pj lw) 27 20 L (.ref a :: S) k n H Q ↔ (isO H a = true ∧ W (pj lw) 27 23 L (fld H a 14 :: S) k n H Q) := W_getf (rfl : (pj lw).1 27 20 = some (.getfield 34, 3, 14))
theorem w27_23 {x : Int32} {l0 : Slot} : W (pj lw) 27 23 (l0 :: .val (.int x) :: L) S k n H Q ↔ W (pj lw) 27 24 (l0 :: .val (.int x) :: L) (.int x :: S) k n H Q := W_s (rfl : (pj lw).1 27 23 = some (.iload_n 1, 1, 0)) rfl rfl rfl
theorem w27_24 {i : Int32} {a : Nat} : W (pj lw) 27 24 L (.int i :: .ref a :: S) k n H Q ↔ (inA H a .int i = true ∧ W (pj lw) 27 25 L (elt H a i :: S) k n H Q) := W_iaload (rfl : (pj lw).1 27 24 = some (.iaload, 1, 0))
theorem w27_25 {x : Nat} : W (pj lw) 27 25 (.val (.ref x) :: L) S k n H Q ↔ W (pj lw) 27 26 (.val (.ref x) :: L) (.ref x :: S) k n H Q := W_s (rfl : (pj lw).1 27 25 = some (.aload_n 0, 1, 0)) rfl rfl rfl
theorem w27_26 {a : Nat} : W (pj lw) 27 26 L (.ref a :: S) k n H Q ↔ (isO H a = true ∧ W (pj lw) 27 29 L (fld H a 3 :: S) k n H Q) := W_getf (rfl : (pj lw).1 27 26 = some (.getfield 66, 3, 3))
theorem w27_29 {x y : Int32} : W (pj lw) 27 29 L (.int y :: .int x :: S) k n H Q ↔ (if x = y then W (pj lw) 27 32 L S k n H Q else W (pj lw) 27 39 L S k n H Q) := W_icmp_ne (rfl : (pj lw).1 27 29 = some (.if_icmp .ne 10, 3, 0)) rfl
theorem w27_32 {x : Nat} : W (pj lw) 27 32 (.val (.ref x) :: L) S k n H Q ↔ W (pj lw) 27 33 (.val (.ref x) :: L) (.ref x :: S) k n H Q := W_s (rfl : (pj lw).1 27 32 = some (.aload_n 0, 1, 0)) rfl rfl rfl
theorem w27_33 {a : Nat} : W (pj lw) 27 33 L (.ref a :: S) k n H Q ↔ (isO H a = true ∧ W (pj lw) 27 36 L (fld H a 11 :: S) k n H Q) := W_getf (rfl : (pj lw).1 27 33 = some (.getfield 25, 3, 11))
theorem w27_36 {x : Int32} {l0 : Slot} : W (pj lw) 27 36 (l0 :: .val (.int x) :: L) S k n H Q ↔ W (pj lw) 27 37 (l0 :: .val (.int x) :: L) (.int x :: S) k n H Q := W_s (rfl : (pj lw).1 27 36 = some (.iload_n 1, 1, 0)) rfl rfl rfl
theorem w27_37 : W (pj lw) 27 37 L S k n H Q ↔ W (pj lw) 27 38 L (.int 1 :: S) k n H Q := W_s (rfl : (pj lw).1 27 37 = some (.iconst 1, 1, 0)) rfl rfl rfl
theorem w27_38 {x i : Int32} {a : Nat} : W (pj lw) 27 38 L (.int x :: .int i :: .ref a :: S) k n H Q ↔ (inAw H a .int i = true ∧ W (pj lw) 27 39 L S k n (wr H a i.toNatClampNeg (.int x)) Q) := W_iastore (rfl : (pj lw).1 27 38 = some (.iastore, 1, 0))
theorem w27_39 {x : Int32} {l0 : Slot} : W (pj lw) 27 39 (l0 :: .val (.int x) :: L) S k n H Q ↔ W (pj lw) 27 42 (l0 :: .val (.int (x + 1)) :: L) S k n H Q := W_s (rfl : (pj lw).1 27 39 = some (.iinc 1 1, 3, 0)) rfl rfl rfl
theorem w27_42 : W (pj lw) 27 42 L S k n H Q ↔ W (pj lw) 27 2 L S k n H Q := W_goto (rfl : (pj lw).1 27 42 = some (.goto (-40), 3, 0)) rfl
theorem w27_45 : W (pj lw) 27 45 L [] k n H Q ↔ Q none H := W_r (rfl : (pj lw).1 27 45 = some (.return_, 1, 0)) rfl
theorem c28 {x0 : Nat} : Cl (pj lw) 28 [.ref x0] H Q ↔ W (pj lw) 28 0 [.val (.ref x0), .unset, .unset, .unset] [] 0 0 H Q := cl_unf rfl
theorem w28_0 : W (pj lw) 28 0 L S k n H Q ↔ W (pj lw) 28 1 L (.int 0 :: S) k n H Q := W_s (rfl : (pj lw).1 28 0 = some (.iconst 0, 1, 0)) rfl rfl rfl
theorem w28_1 {x : Int32} {l0 : Slot} : W (pj lw) 28 1 (l0 :: .unset :: L) (.int x :: S) k n H Q ↔ W (pj lw) 28 2 (l0 :: .val (.int x) :: L) S k n H Q := W_istn (rfl : (pj lw).1 28 1 = some (.istore_n 1, 1, 0)) rfl rfl
theorem w28_2 {x : Int32} {l0 : Slot} : W (pj lw) 28 2 (l0 :: .val (.int x) :: L) S k n H Q ↔ W (pj lw) 28 3 (l0 :: .val (.int x) :: L) (.int x :: S) k n H Q := W_s (rfl : (pj lw).1 28 2 = some (.iload_n 1, 1, 0)) rfl rfl rfl
theorem w28_3 {x : Nat} : W (pj lw) 28 3 (.val (.ref x) :: L) S k n H Q ↔ W (pj lw) 28 4 (.val (.ref x) :: L) (.ref x :: S) k n H Q := W_s (rfl : (pj lw).1 28 3 = some (.aload_n 0, 1, 0)) rfl rfl rfl
theorem w28_4 {a : Nat} : W (pj lw) 28 4 L (.ref a :: S) k n H Q ↔ (isO H a = true ∧ W (pj lw) 28 7 L (fld H a 1 :: S) k n H Q) := W_getf (rfl : (pj lw).1 28 4 = some (.getfield 57, 3, 1))
theorem w28_7 {x y : Int32} : W (pj lw) 28 7 L (.int y :: .int x :: S) k n H Q ↔ (if x < y then W (pj lw) 28 10 L S k n H Q else W (pj lw) 28 45 L S k n H Q) := W_icmp_ge (rfl : (pj lw).1 28 7 = some (.if_icmp .ge 38, 3, 0)) rfl
theorem w28_10 : W (pj lw) 28 10 L S k n H Q ↔ W (pj lw) 28 11 L (.int 0 :: S) k n H Q := W_s (rfl : (pj lw).1 28 10 = some (.iconst 0, 1, 0)) rfl rfl rfl
theorem w28_11i {y : Int32} {x : Int32} {l0 l1 : Slot} : W (pj lw) 28 11 (l0 :: l1 :: .val (.int y) :: L) (.int x :: S) k n H Q ↔ W (pj lw) 28 12 (l0 :: l1 :: .val (.int x) :: L) S k n H Q := W_istn (rfl : (pj lw).1 28 11 = some (.istore_n 2, 1, 0)) rfl rfl
theorem w28_11 {x : Int32} {l0 l1 : Slot} : W (pj lw) 28 11 (l0 :: l1 :: .unset :: L) (.int x :: S) k n H Q ↔ W (pj lw) 28 12 (l0 :: l1 :: .val (.int x) :: L) S k n H Q := W_istn (rfl : (pj lw).1 28 11 = some (.istore_n 2, 1, 0)) rfl rfl
theorem w28_12 {x : Int32} {l0 l1 : Slot} : W (pj lw) 28 12 (l0 :: l1 :: .val (.int x) :: L) S k n H Q ↔ W (pj lw) 28 13 (l0 :: l1 :: .val (.int x) :: L) (.int x :: S) k n H Q := W_s (rfl : (pj lw).1 28 12 = some (.iload_n 2, 1, 0)) rfl rfl rfl
theorem w28_13 : W (pj lw) 28 13 L S k n H Q ↔ W (pj lw) 28 14 L (.int 2 :: S) k n H Q := W_s (rfl : (pj lw).1 28 13 = some (.iconst 2, 1, 0)) rfl rfl rfl
theorem w28_14 {x y : Int32} : W (pj lw) 28 14 L (.int y :: .int x :: S) k n H Q ↔ (if x < y then W (pj lw) 28 17 L S k n H Q else W (pj lw) 28 39 L S k n H Q) := W_icmp_ge (rfl : (pj lw).1 28 14 = some (.if_icmp .ge 25, 3, 0)) rfl
theorem w28_17 {x : Int32} {l0 l1 : Slot} : W (pj lw) 28 17 (l0 :: l1 :: .val (.int x) :: L) S k n H Q ↔ W (pj lw) 28 18 (l0 :: l1 :: .val (.int x) :: L) (.int x :: S) k n H Q := W_s (rfl : (pj lw).1 28 17 = some (.iload_n 2, 1, 0)) rfl rfl rfl
theorem w28_18 {x : Int32} : W (pj lw) 28 18 L (.int x :: S) k n H Q ↔ (if x = 0 then W (pj lw) 28 21 L S k n H Q else W (pj lw) 28 25 L S k n H Q) := W_if_ne (rfl : (pj lw).1 28 18 = some (.ifCond .ne 7, 3, 0)) rfl
theorem w28_21 : W (pj lw) 28 21 L S k n H Q ↔ W (pj lw) 28 22 L (.int 1 :: S) k n H Q := W_s (rfl : (pj lw).1 28 21 = some (.iconst 1, 1, 0)) rfl rfl rfl
theorem w28_22 : W (pj lw) 28 22 L S k n H Q ↔ W (pj lw) 28 26 L S k n H Q := W_goto (rfl : (pj lw).1 28 22 = some (.goto 4, 3, 0)) rfl
theorem w28_25 : W (pj lw) 28 25 L S k n H Q ↔ W (pj lw) 28 26 L (.int (-1) :: S) k n H Q := W_s (rfl : (pj lw).1 28 25 = some (.iconst (-1), 1, 0)) rfl rfl rfl
theorem w28_26i {y : Int32} {x : Int32} {l0 l1 l2 : Slot} : W (pj lw) 28 26 (l0 :: l1 :: l2 :: .val (.int y) :: L) (.int x :: S) k n H Q ↔ W (pj lw) 28 27 (l0 :: l1 :: l2 :: .val (.int x) :: L) S k n H Q := W_istn (rfl : (pj lw).1 28 26 = some (.istore_n 3, 1, 0)) rfl rfl
theorem w28_26 {x : Int32} {l0 l1 l2 : Slot} : W (pj lw) 28 26 (l0 :: l1 :: l2 :: .unset :: L) (.int x :: S) k n H Q ↔ W (pj lw) 28 27 (l0 :: l1 :: l2 :: .val (.int x) :: L) S k n H Q := W_istn (rfl : (pj lw).1 28 26 = some (.istore_n 3, 1, 0)) rfl rfl
theorem w28_27 {x : Nat} : W (pj lw) 28 27 (.val (.ref x) :: L) S k n H Q ↔ W (pj lw) 28 28 (.val (.ref x) :: L) (.ref x :: S) k n H Q := W_s (rfl : (pj lw).1 28 27 = some (.aload_n 0, 1, 0)) rfl rfl rfl
theorem w28_28 {x : Int32} {l0 : Slot} : W (pj lw) 28 28 (l0 :: .val (.int x) :: L) S k n H Q ↔ W (pj lw) 28 29 (l0 :: .val (.int x) :: L) (.int x :: S) k n H Q := W_s (rfl : (pj lw).1 28 28 = some (.iload_n 1, 1, 0)) rfl rfl rfl
theorem w28_29 {x : Int32} {l0 l1 l2 : Slot} : W (pj lw) 28 29 (l0 :: l1 :: l2 :: .val (.int x) :: L) S k n H Q ↔ W (pj lw) 28 30 (l0 :: l1 :: l2 :: .val (.int x) :: L) (.int x :: S) k n H Q := W_s (rfl : (pj lw).1 28 29 = some (.iload_n 3, 1, 0)) rfl rfl rfl
theorem w28_30 {a : Nat} {x0 : Int32} {x1 : Int32} : W (pj lw) 28 30 L (.int x1 :: .int x0 :: .ref a :: S) k n H Q ↔ ((isO H a = true ∧ cs S + (8 + 11) + 28 ≤ 47) ∧ Cl (pj lw) 29 [.ref a, .int x0, .int x1] H (fun v H => W (pj lw) 28 33 L (v.toList ++ S) k n H Q)) := W_inst (as := [.int x0, .int x1]) (rfl : (pj lw).1 28 30 = some (.invokevirtual 117, 3, 29)) rfl rfl rfl (Nat.le_of_ble_eq_true rfl) (Nat.le_of_ble_eq_true rfl) ⟨rfl, rfl⟩
theorem w28_33 {x : Int32} {l0 l1 : Slot} : W (pj lw) 28 33 (l0 :: l1 :: .val (.int x) :: L) S k n H Q ↔ W (pj lw) 28 36 (l0 :: l1 :: .val (.int (x + 1)) :: L) S k n H Q := W_s (rfl : (pj lw).1 28 33 = some (.iinc 2 1, 3, 0)) rfl rfl rfl
theorem w28_36 : W (pj lw) 28 36 L S k n H Q ↔ W (pj lw) 28 12 L S k n H Q := W_goto (rfl : (pj lw).1 28 36 = some (.goto (-24), 3, 0)) rfl
theorem w28_39 {x : Int32} {l0 : Slot} : W (pj lw) 28 39 (l0 :: .val (.int x) :: L) S k n H Q ↔ W (pj lw) 28 42 (l0 :: .val (.int (x + 1)) :: L) S k n H Q := W_s (rfl : (pj lw).1 28 39 = some (.iinc 1 1, 3, 0)) rfl rfl rfl
theorem w28_42 : W (pj lw) 28 42 L S k n H Q ↔ W (pj lw) 28 2 L S k n H Q := W_goto (rfl : (pj lw).1 28 42 = some (.goto (-40), 3, 0)) rfl
theorem w28_45 : W (pj lw) 28 45 L [] k n H Q ↔ Q none H := W_r (rfl : (pj lw).1 28 45 = some (.return_, 1, 0)) rfl
theorem c29 {x0 : Nat} {x1 : Int32} {x2 : Int32} : Cl (pj lw) 29 [.ref x0, .int x1, .int x2] H Q ↔ W (pj lw) 29 0 [.val (.ref x0), .val (.int x1), .val (.int x2), .unset, .unset, .unset, .unset, .unset] [] 0 0 H Q := cl_unf rfl
theorem w29_0 {x : Nat} : W (pj lw) 29 0 (.val (.ref x) :: L) S k n H Q ↔ W (pj lw) 29 1 (.val (.ref x) :: L) (.ref x :: S) k n H Q := W_s (rfl : (pj lw).1 29 0 = some (.aload_n 0, 1, 0)) rfl rfl rfl
theorem w29_1 {x : Int32} {l0 : Slot} : W (pj lw) 29 1 (l0 :: .val (.int x) :: L) S k n H Q ↔ W (pj lw) 29 2 (l0 :: .val (.int x) :: L) (.int x :: S) k n H Q := W_s (rfl : (pj lw).1 29 1 = some (.iload_n 1, 1, 0)) rfl rfl rfl
theorem w29_2 {x : Int32} {l0 l1 : Slot} : W (pj lw) 29 2 (l0 :: l1 :: .val (.int x) :: L) S k n H Q ↔ W (pj lw) 29 3 (l0 :: l1 :: .val (.int x) :: L) (.int x :: S) k n H Q := W_s (rfl : (pj lw).1 29 2 = some (.iload_n 2, 1, 0)) rfl rfl rfl
theorem w29_3 {a : Nat} {x0 : Int32} {x1 : Int32} : W (pj lw) 29 3 L (.int x1 :: .int x0 :: .ref a :: S) k n H Q ↔ ((isO H a = true ∧ cs S + (3 + 11) + 0 ≤ 28) ∧ Cl (pj lw) 18 [.ref a, .int x0, .int x1] H (fun v H => W (pj lw) 29 6 L (v.toList ++ S) k n H Q)) := W_inst (as := [.int x0, .int x1]) (rfl : (pj lw).1 29 3 = some (.invokevirtual 83, 3, 18)) rfl rfl rfl (Nat.le_of_ble_eq_true rfl) (Nat.le_of_ble_eq_true rfl) ⟨rfl, rfl⟩
theorem w29_6 {x : Int32} {l0 l1 l2 : Slot} : W (pj lw) 29 6 (l0 :: l1 :: l2 :: .unset :: L) (.int x :: S) k n H Q ↔ W (pj lw) 29 7 (l0 :: l1 :: l2 :: .val (.int x) :: L) S k n H Q := W_istn (rfl : (pj lw).1 29 6 = some (.istore_n 3, 1, 0)) rfl rfl
theorem w29_7 {x : Nat} : W (pj lw) 29 7 (.val (.ref x) :: L) S k n H Q ↔ W (pj lw) 29 8 (.val (.ref x) :: L) (.ref x :: S) k n H Q := W_s (rfl : (pj lw).1 29 7 = some (.aload_n 0, 1, 0)) rfl rfl rfl
theorem w29_8 {x : Int32} {l0 : Slot} : W (pj lw) 29 8 (l0 :: .val (.int x) :: L) S k n H Q ↔ W (pj lw) 29 9 (l0 :: .val (.int x) :: L) (.int x :: S) k n H Q := W_s (rfl : (pj lw).1 29 8 = some (.iload_n 1, 1, 0)) rfl rfl rfl
theorem w29_9 {x : Int32} {l0 l1 : Slot} : W (pj lw) 29 9 (l0 :: l1 :: .val (.int x) :: L) S k n H Q ↔ W (pj lw) 29 10 (l0 :: l1 :: .val (.int x) :: L) (.int x :: S) k n H Q := W_s (rfl : (pj lw).1 29 9 = some (.iload_n 2, 1, 0)) rfl rfl rfl
theorem w29_10 {a : Nat} {x0 : Int32} {x1 : Int32} : W (pj lw) 29 10 L (.int x1 :: .int x0 :: .ref a :: S) k n H Q ↔ ((isO H a = true ∧ cs S + (4 + 11) + 13 ≤ 28) ∧ Cl (pj lw) 19 [.ref a, .int x0, .int x1] H (fun v H => W (pj lw) 29 13 L (v.toList ++ S) k n H Q)) := W_inst (as := [.int x0, .int x1]) (rfl : (pj lw).1 29 10 = some (.invokevirtual 79, 3, 19)) rfl rfl rfl (Nat.le_of_ble_eq_true rfl) (Nat.le_of_ble_eq_true rfl) ⟨rfl, rfl⟩
theorem w29_13 {x : Int32} : W (pj lw) 29 13 L (.int x :: S) k n H Q ↔ (if x = 0 then W (pj lw) 29 16 L S k n H Q else W (pj lw) 29 24 L S k n H Q) := W_if_ne (rfl : (pj lw).1 29 13 = some (.ifCond .ne 11, 3, 0)) rfl
theorem w29_16 {x : Nat} : W (pj lw) 29 16 (.val (.ref x) :: L) S k n H Q ↔ W (pj lw) 29 17 (.val (.ref x) :: L) (.ref x :: S) k n H Q := W_s (rfl : (pj lw).1 29 16 = some (.aload_n 0, 1, 0)) rfl rfl rfl
theorem w29_17 {a : Nat} : W (pj lw) 29 17 L (.ref a :: S) k n H Q ↔ (isO H a = true ∧ W (pj lw) 29 20 L (fld H a 18 :: S) k n H Q) := W_getf (rfl : (pj lw).1 29 17 = some (.getfield 46, 3, 18))
theorem w29_20 {x : Int32} {l0 l1 l2 : Slot} : W (pj lw) 29 20 (l0 :: l1 :: l2 :: .val (.int x) :: L) S k n H Q ↔ W (pj lw) 29 21 (l0 :: l1 :: l2 :: .val (.int x) :: L) (.int x :: S) k n H Q := W_s (rfl : (pj lw).1 29 20 = some (.iload_n 3, 1, 0)) rfl rfl rfl
theorem w29_21 : W (pj lw) 29 21 L S k n H Q ↔ W (pj lw) 29 22 L (.int (-1) :: S) k n H Q := W_s (rfl : (pj lw).1 29 21 = some (.iconst (-1), 1, 0)) rfl rfl rfl
theorem w29_22 {x i : Int32} {a : Nat} : W (pj lw) 29 22 L (.int x :: .int i :: .ref a :: S) k n H Q ↔ (inAw H a .int i = true ∧ W (pj lw) 29 23 L S k n (wr H a i.toNatClampNeg (.int x)) Q) := W_iastore (rfl : (pj lw).1 29 22 = some (.iastore, 1, 0))
theorem w29_23 : W (pj lw) 29 23 L [] k n H Q ↔ Q none H := W_r (rfl : (pj lw).1 29 23 = some (.return_, 1, 0)) rfl
theorem w29_24 : W (pj lw) 29 24 L S k n H Q ↔ W (pj lw) 29 25 L (.int (-1) :: S) k n H Q := W_s (rfl : (pj lw).1 29 24 = some (.iconst (-1), 1, 0)) rfl rfl rfl
theorem w29_25 {x : Int32} {l0 l1 l2 l3 : Slot} : W (pj lw) 29 25 (l0 :: l1 :: l2 :: l3 :: .unset :: L) (.int x :: S) k n H Q ↔ W (pj lw) 29 27 (l0 :: l1 :: l2 :: l3 :: .val (.int x) :: L) S k n H Q := W_ist (rfl : (pj lw).1 29 25 = some (.istore 4, 2, 0)) rfl rfl
theorem w29_27 : W (pj lw) 29 27 L S k n H Q ↔ W (pj lw) 29 28 L (.int 0 :: S) k n H Q := W_s (rfl : (pj lw).1 29 27 = some (.iconst 0, 1, 0)) rfl rfl rfl
theorem w29_28 {x : Int32} {l0 l1 l2 l3 l4 : Slot} : W (pj lw) 29 28 (l0 :: l1 :: l2 :: l3 :: l4 :: .unset :: L) (.int x :: S) k n H Q ↔ W (pj lw) 29 30 (l0 :: l1 :: l2 :: l3 :: l4 :: .val (.int x) :: L) S k n H Q := W_ist (rfl : (pj lw).1 29 28 = some (.istore 5, 2, 0)) rfl rfl
theorem w29_30 : W (pj lw) 29 30 L S k n H Q ↔ W (pj lw) 29 31 L (.int 0 :: S) k n H Q := W_s (rfl : (pj lw).1 29 30 = some (.iconst 0, 1, 0)) rfl rfl rfl
theorem w29_31 {x : Int32} {l0 l1 l2 l3 l4 l5 : Slot} : W (pj lw) 29 31 (l0 :: l1 :: l2 :: l3 :: l4 :: l5 :: .unset :: L) (.int x :: S) k n H Q ↔ W (pj lw) 29 33 (l0 :: l1 :: l2 :: l3 :: l4 :: l5 :: .val (.int x) :: L) S k n H Q := W_ist (rfl : (pj lw).1 29 31 = some (.istore 6, 2, 0)) rfl rfl
theorem w29_33 {x : Int32} {l0 l1 l2 l3 l4 l5 : Slot} : W (pj lw) 29 33 (l0 :: l1 :: l2 :: l3 :: l4 :: l5 :: .val (.int x) :: L) S k n H Q ↔ W (pj lw) 29 35 (l0 :: l1 :: l2 :: l3 :: l4 :: l5 :: .val (.int x) :: L) (.int x :: S) k n H Q := W_s (rfl : (pj lw).1 29 33 = some (.iload 6, 2, 0)) rfl rfl rfl
theorem w29_35 {x : Nat} : W (pj lw) 29 35 (.val (.ref x) :: L) S k n H Q ↔ W (pj lw) 29 36 (.val (.ref x) :: L) (.ref x :: S) k n H Q := W_s (rfl : (pj lw).1 29 35 = some (.aload_n 0, 1, 0)) rfl rfl rfl
theorem w29_36 {a : Nat} : W (pj lw) 29 36 L (.ref a :: S) k n H Q ↔ (isO H a = true ∧ W (pj lw) 29 39 L (fld H a 0 :: S) k n H Q) := W_getf (rfl : (pj lw).1 29 36 = some (.getfield 53, 3, 0))
theorem w29_39 {x y : Int32} : W (pj lw) 29 39 L (.int y :: .int x :: S) k n H Q ↔ (if x < y then W (pj lw) 29 42 L S k n H Q else W (pj lw) 29 79 L S k n H Q) := W_icmp_ge (rfl : (pj lw).1 29 39 = some (.if_icmp .ge 40, 3, 0)) rfl
theorem w29_42 {x : Nat} : W (pj lw) 29 42 (.val (.ref x) :: L) S k n H Q ↔ W (pj lw) 29 43 (.val (.ref x) :: L) (.ref x :: S) k n H Q := W_s (rfl : (pj lw).1 29 42 = some (.aload_n 0, 1, 0)) rfl rfl rfl
theorem w29_43 {x : Int32} {l0 l1 l2 l3 l4 l5 : Slot} : W (pj lw) 29 43 (l0 :: l1 :: l2 :: l3 :: l4 :: l5 :: .val (.int x) :: L) S k n H Q ↔ W (pj lw) 29 45 (l0 :: l1 :: l2 :: l3 :: l4 :: l5 :: .val (.int x) :: L) (.int x :: S) k n H Q := W_s (rfl : (pj lw).1 29 43 = some (.iload 6, 2, 0)) rfl rfl rfl
theorem w29_45 {x : Int32} {l0 : Slot} : W (pj lw) 29 45 (l0 :: .val (.int x) :: L) S k n H Q ↔ W (pj lw) 29 46 (l0 :: .val (.int x) :: L) (.int x :: S) k n H Q := W_s (rfl : (pj lw).1 29 45 = some (.iload_n 1, 1, 0)) rfl rfl rfl
theorem w29_46 {x : Int32} {l0 l1 : Slot} : W (pj lw) 29 46 (l0 :: l1 :: .val (.int x) :: L) S k n H Q ↔ W (pj lw) 29 47 (l0 :: l1 :: .val (.int x) :: L) (.int x :: S) k n H Q := W_s (rfl : (pj lw).1 29 46 = some (.iload_n 2, 1, 0)) rfl rfl rfl
theorem w29_47 {a : Nat} {x0 : Int32} {x1 : Int32} {x2 : Int32} : W (pj lw) 29 47 L (.int x2 :: .int x1 :: .int x0 :: .ref a :: S) k n H Q ↔ ((isO H a = true ∧ cs S + (10 + 11) + 0 ≤ 28) ∧ Cl (pj lw) 30 [.ref a, .int x0, .int x1, .int x2] H (fun v H => W (pj lw) 29 50 L (v.toList ++ S) k n H Q)) := W_inst (as := [.int x0, .int x1, .int x2]) (rfl : (pj lw).1 29 47 = some (.invokevirtual 121, 3, 30)) rfl rfl rfl (Nat.le_of_ble_eq_true rfl) (Nat.le_of_ble_eq_true rfl) ⟨rfl, rfl⟩
theorem w29_50i {y : Int32} {x : Int32} {l0 l1 l2 l3 l4 l5 l6 : Slot} : W (pj lw) 29 50 (l0 :: l1 :: l2 :: l3 :: l4 :: l5 :: l6 :: .val (.int y) :: L) (.int x :: S) k n H Q ↔ W (pj lw) 29 52 (l0 :: l1 :: l2 :: l3 :: l4 :: l5 :: l6 :: .val (.int x) :: L) S k n H Q := W_ist (rfl : (pj lw).1 29 50 = some (.istore 7, 2, 0)) rfl rfl
theorem w29_50 {x : Int32} {l0 l1 l2 l3 l4 l5 l6 : Slot} : W (pj lw) 29 50 (l0 :: l1 :: l2 :: l3 :: l4 :: l5 :: l6 :: .unset :: L) (.int x :: S) k n H Q ↔ W (pj lw) 29 52 (l0 :: l1 :: l2 :: l3 :: l4 :: l5 :: l6 :: .val (.int x) :: L) S k n H Q := W_ist (rfl : (pj lw).1 29 50 = some (.istore 7, 2, 0)) rfl rfl
theorem w29_52 {x : Int32} {l0 l1 l2 l3 : Slot} : W (pj lw) 29 52 (l0 :: l1 :: l2 :: l3 :: .val (.int x) :: L) S k n H Q ↔ W (pj lw) 29 54 (l0 :: l1 :: l2 :: l3 :: .val (.int x) :: L) (.int x :: S) k n H Q := W_s (rfl : (pj lw).1 29 52 = some (.iload 4, 2, 0)) rfl rfl rfl
theorem w29_54 : W (pj lw) 29 54 L S k n H Q ↔ W (pj lw) 29 55 L (.int (-1) :: S) k n H Q := W_s (rfl : (pj lw).1 29 54 = some (.iconst (-1), 1, 0)) rfl rfl rfl
theorem w29_55 {x y : Int32} : W (pj lw) 29 55 L (.int y :: .int x :: S) k n H Q ↔ (if x = y then W (pj lw) 29 65 L S k n H Q else W (pj lw) 29 58 L S k n H Q) := W_icmp_eq (rfl : (pj lw).1 29 55 = some (.if_icmp .eq 10, 3, 0)) rfl
theorem w29_58 {x : Int32} {l0 l1 l2 l3 l4 l5 l6 : Slot} : W (pj lw) 29 58 (l0 :: l1 :: l2 :: l3 :: l4 :: l5 :: l6 :: .val (.int x) :: L) S k n H Q ↔ W (pj lw) 29 60 (l0 :: l1 :: l2 :: l3 :: l4 :: l5 :: l6 :: .val (.int x) :: L) (.int x :: S) k n H Q := W_s (rfl : (pj lw).1 29 58 = some (.iload 7, 2, 0)) rfl rfl rfl
theorem w29_60 {x : Int32} {l0 l1 l2 l3 l4 : Slot} : W (pj lw) 29 60 (l0 :: l1 :: l2 :: l3 :: l4 :: .val (.int x) :: L) S k n H Q ↔ W (pj lw) 29 62 (l0 :: l1 :: l2 :: l3 :: l4 :: .val (.int x) :: L) (.int x :: S) k n H Q := W_s (rfl : (pj lw).1 29 60 = some (.iload 5, 2, 0)) rfl rfl rfl
theorem w29_62 {x y : Int32} : W (pj lw) 29 62 L (.int y :: .int x :: S) k n H Q ↔ (if x < y then W (pj lw) 29 65 L S k n H Q else W (pj lw) 29 73 L S k n H Q) := W_icmp_ge (rfl : (pj lw).1 29 62 = some (.if_icmp .ge 11, 3, 0)) rfl
theorem w29_65 {x : Int32} {l0 l1 l2 l3 l4 l5 : Slot} : W (pj lw) 29 65 (l0 :: l1 :: l2 :: l3 :: l4 :: l5 :: .val (.int x) :: L) S k n H Q ↔ W (pj lw) 29 67 (l0 :: l1 :: l2 :: l3 :: l4 :: l5 :: .val (.int x) :: L) (.int x :: S) k n H Q := W_s (rfl : (pj lw).1 29 65 = some (.iload 6, 2, 0)) rfl rfl rfl
theorem w29_67i {y : Int32} {x : Int32} {l0 l1 l2 l3 : Slot} : W (pj lw) 29 67 (l0 :: l1 :: l2 :: l3 :: .val (.int y) :: L) (.int x :: S) k n H Q ↔ W (pj lw) 29 69 (l0 :: l1 :: l2 :: l3 :: .val (.int x) :: L) S k n H Q := W_ist (rfl : (pj lw).1 29 67 = some (.istore 4, 2, 0)) rfl rfl
theorem w29_69 {x : Int32} {l0 l1 l2 l3 l4 l5 l6 : Slot} : W (pj lw) 29 69 (l0 :: l1 :: l2 :: l3 :: l4 :: l5 :: l6 :: .val (.int x) :: L) S k n H Q ↔ W (pj lw) 29 71 (l0 :: l1 :: l2 :: l3 :: l4 :: l5 :: l6 :: .val (.int x) :: L) (.int x :: S) k n H Q := W_s (rfl : (pj lw).1 29 69 = some (.iload 7, 2, 0)) rfl rfl rfl
theorem w29_71i {y : Int32} {x : Int32} {l0 l1 l2 l3 l4 : Slot} : W (pj lw) 29 71 (l0 :: l1 :: l2 :: l3 :: l4 :: .val (.int y) :: L) (.int x :: S) k n H Q ↔ W (pj lw) 29 73 (l0 :: l1 :: l2 :: l3 :: l4 :: .val (.int x) :: L) S k n H Q := W_ist (rfl : (pj lw).1 29 71 = some (.istore 5, 2, 0)) rfl rfl
theorem w29_73 {x : Int32} {l0 l1 l2 l3 l4 l5 : Slot} : W (pj lw) 29 73 (l0 :: l1 :: l2 :: l3 :: l4 :: l5 :: .val (.int x) :: L) S k n H Q ↔ W (pj lw) 29 76 (l0 :: l1 :: l2 :: l3 :: l4 :: l5 :: .val (.int (x + 1)) :: L) S k n H Q := W_s (rfl : (pj lw).1 29 73 = some (.iinc 6 1, 3, 0)) rfl rfl rfl
theorem w29_76 : W (pj lw) 29 76 L S k n H Q ↔ W (pj lw) 29 33 L S k n H Q := W_goto (rfl : (pj lw).1 29 76 = some (.goto (-43), 3, 0)) rfl
theorem w29_79 {x : Nat} : W (pj lw) 29 79 (.val (.ref x) :: L) S k n H Q ↔ W (pj lw) 29 80 (.val (.ref x) :: L) (.ref x :: S) k n H Q := W_s (rfl : (pj lw).1 29 79 = some (.aload_n 0, 1, 0)) rfl rfl rfl
theorem w29_80 {a : Nat} : W (pj lw) 29 80 L (.ref a :: S) k n H Q ↔ (isO H a = true ∧ W (pj lw) 29 83 L (fld H a 18 :: S) k n H Q) := W_getf (rfl : (pj lw).1 29 80 = some (.getfield 46, 3, 18))
theorem w29_83 {x : Int32} {l0 l1 l2 : Slot} : W (pj lw) 29 83 (l0 :: l1 :: l2 :: .val (.int x) :: L) S k n H Q ↔ W (pj lw) 29 84 (l0 :: l1 :: l2 :: .val (.int x) :: L) (.int x :: S) k n H Q := W_s (rfl : (pj lw).1 29 83 = some (.iload_n 3, 1, 0)) rfl rfl rfl
theorem w29_84 {i : Int32} {a : Nat} : W (pj lw) 29 84 L (.int i :: .ref a :: S) k n H Q ↔ (inA H a .int i = true ∧ W (pj lw) 29 85 L (elt H a i :: S) k n H Q) := W_iaload (rfl : (pj lw).1 29 84 = some (.iaload, 1, 0))
theorem w29_85i {y : Int32} {x : Int32} {l0 l1 l2 l3 l4 l5 : Slot} : W (pj lw) 29 85 (l0 :: l1 :: l2 :: l3 :: l4 :: l5 :: .val (.int y) :: L) (.int x :: S) k n H Q ↔ W (pj lw) 29 87 (l0 :: l1 :: l2 :: l3 :: l4 :: l5 :: .val (.int x) :: L) S k n H Q := W_ist (rfl : (pj lw).1 29 85 = some (.istore 6, 2, 0)) rfl rfl
theorem w29_87 {x : Int32} {l0 l1 l2 l3 l4 l5 : Slot} : W (pj lw) 29 87 (l0 :: l1 :: l2 :: l3 :: l4 :: l5 :: .val (.int x) :: L) S k n H Q ↔ W (pj lw) 29 89 (l0 :: l1 :: l2 :: l3 :: l4 :: l5 :: .val (.int x) :: L) (.int x :: S) k n H Q := W_s (rfl : (pj lw).1 29 87 = some (.iload 6, 2, 0)) rfl rfl rfl
theorem w29_89 {x : Int32} : W (pj lw) 29 89 L (.int x :: S) k n H Q ↔ (if x < 0 then W (pj lw) 29 122 L S k n H Q else W (pj lw) 29 92 L S k n H Q) := W_if_lt (rfl : (pj lw).1 29 89 = some (.ifCond .lt 33, 3, 0)) rfl
theorem w29_92 {x : Int32} {l0 l1 l2 l3 l4 l5 : Slot} : W (pj lw) 29 92 (l0 :: l1 :: l2 :: l3 :: l4 :: l5 :: .val (.int x) :: L) S k n H Q ↔ W (pj lw) 29 94 (l0 :: l1 :: l2 :: l3 :: l4 :: l5 :: .val (.int x) :: L) (.int x :: S) k n H Q := W_s (rfl : (pj lw).1 29 92 = some (.iload 6, 2, 0)) rfl rfl rfl
theorem w29_94 {x : Nat} : W (pj lw) 29 94 (.val (.ref x) :: L) S k n H Q ↔ W (pj lw) 29 95 (.val (.ref x) :: L) (.ref x :: S) k n H Q := W_s (rfl : (pj lw).1 29 94 = some (.aload_n 0, 1, 0)) rfl rfl rfl
theorem w29_95 {a : Nat} : W (pj lw) 29 95 L (.ref a :: S) k n H Q ↔ (isO H a = true ∧ W (pj lw) 29 98 L (fld H a 0 :: S) k n H Q) := W_getf (rfl : (pj lw).1 29 95 = some (.getfield 53, 3, 0))
theorem w29_98 {x y : Int32} : W (pj lw) 29 98 L (.int y :: .int x :: S) k n H Q ↔ (if x < y then W (pj lw) 29 101 L S k n H Q else W (pj lw) 29 122 L S k n H Q) := W_icmp_ge (rfl : (pj lw).1 29 98 = some (.if_icmp .ge 24, 3, 0)) rfl
theorem w29_101 {x : Nat} : W (pj lw) 29 101 (.val (.ref x) :: L) S k n H Q ↔ W (pj lw) 29 102 (.val (.ref x) :: L) (.ref x :: S) k n H Q := W_s (rfl : (pj lw).1 29 101 = some (.aload_n 0, 1, 0)) rfl rfl rfl
theorem w29_102 {x : Int32} {l0 l1 l2 l3 l4 l5 : Slot} : W (pj lw) 29 102 (l0 :: l1 :: l2 :: l3 :: l4 :: l5 :: .val (.int x) :: L) S k n H Q ↔ W (pj lw) 29 104 (l0 :: l1 :: l2 :: l3 :: l4 :: l5 :: .val (.int x) :: L) (.int x :: S) k n H Q := W_s (rfl : (pj lw).1 29 102 = some (.iload 6, 2, 0)) rfl rfl rfl
theorem w29_104 {x : Int32} {l0 : Slot} : W (pj lw) 29 104 (l0 :: .val (.int x) :: L) S k n H Q ↔ W (pj lw) 29 105 (l0 :: .val (.int x) :: L) (.int x :: S) k n H Q := W_s (rfl : (pj lw).1 29 104 = some (.iload_n 1, 1, 0)) rfl rfl rfl
theorem w29_105 {x : Int32} {l0 l1 : Slot} : W (pj lw) 29 105 (l0 :: l1 :: .val (.int x) :: L) S k n H Q ↔ W (pj lw) 29 106 (l0 :: l1 :: .val (.int x) :: L) (.int x :: S) k n H Q := W_s (rfl : (pj lw).1 29 105 = some (.iload_n 2, 1, 0)) rfl rfl rfl
theorem w29_106 {a : Nat} {x0 : Int32} {x1 : Int32} {x2 : Int32} : W (pj lw) 29 106 L (.int x2 :: .int x1 :: .int x0 :: .ref a :: S) k n H Q ↔ ((isO H a = true ∧ cs S + (10 + 11) + 0 ≤ 28) ∧ Cl (pj lw) 30 [.ref a, .int x0, .int x1, .int x2] H (fun v H => W (pj lw) 29 109 L (v.toList ++ S) k n H Q)) := W_inst (as := [.int x0, .int x1, .int x2]) (rfl : (pj lw).1 29 106 = some (.invokevirtual 121, 3, 30)) rfl rfl rfl (Nat.le_of_ble_eq_true rfl) (Nat.le_of_ble_eq_true rfl) ⟨rfl, rfl⟩
theorem w29_109i {y : Int32} {x : Int32} {l0 l1 l2 l3 l4 l5 l6 : Slot} : W (pj lw) 29 109 (l0 :: l1 :: l2 :: l3 :: l4 :: l5 :: l6 :: .val (.int y) :: L) (.int x :: S) k n H Q ↔ W (pj lw) 29 111 (l0 :: l1 :: l2 :: l3 :: l4 :: l5 :: l6 :: .val (.int x) :: L) S k n H Q := W_ist (rfl : (pj lw).1 29 109 = some (.istore 7, 2, 0)) rfl rfl
theorem w29_109 {x : Int32} {l0 l1 l2 l3 l4 l5 l6 : Slot} : W (pj lw) 29 109 (l0 :: l1 :: l2 :: l3 :: l4 :: l5 :: l6 :: .unset :: L) (.int x :: S) k n H Q ↔ W (pj lw) 29 111 (l0 :: l1 :: l2 :: l3 :: l4 :: l5 :: l6 :: .val (.int x) :: L) S k n H Q := W_ist (rfl : (pj lw).1 29 109 = some (.istore 7, 2, 0)) rfl rfl
theorem w29_111 {x : Int32} {l0 l1 l2 l3 l4 l5 l6 : Slot} : W (pj lw) 29 111 (l0 :: l1 :: l2 :: l3 :: l4 :: l5 :: l6 :: .val (.int x) :: L) S k n H Q ↔ W (pj lw) 29 113 (l0 :: l1 :: l2 :: l3 :: l4 :: l5 :: l6 :: .val (.int x) :: L) (.int x :: S) k n H Q := W_s (rfl : (pj lw).1 29 111 = some (.iload 7, 2, 0)) rfl rfl rfl
theorem w29_113 {x : Int32} {l0 l1 l2 l3 l4 : Slot} : W (pj lw) 29 113 (l0 :: l1 :: l2 :: l3 :: l4 :: .val (.int x) :: L) S k n H Q ↔ W (pj lw) 29 115 (l0 :: l1 :: l2 :: l3 :: l4 :: .val (.int x) :: L) (.int x :: S) k n H Q := W_s (rfl : (pj lw).1 29 113 = some (.iload 5, 2, 0)) rfl rfl rfl
theorem w29_115 {x y : Int32} : W (pj lw) 29 115 L (.int y :: .int x :: S) k n H Q ↔ (if x = y then W (pj lw) 29 118 L S k n H Q else W (pj lw) 29 122 L S k n H Q) := W_icmp_ne (rfl : (pj lw).1 29 115 = some (.if_icmp .ne 7, 3, 0)) rfl
theorem w29_118 {x : Int32} {l0 l1 l2 l3 l4 l5 : Slot} : W (pj lw) 29 118 (l0 :: l1 :: l2 :: l3 :: l4 :: l5 :: .val (.int x) :: L) S k n H Q ↔ W (pj lw) 29 120 (l0 :: l1 :: l2 :: l3 :: l4 :: l5 :: .val (.int x) :: L) (.int x :: S) k n H Q := W_s (rfl : (pj lw).1 29 118 = some (.iload 6, 2, 0)) rfl rfl rfl
theorem w29_120i {y : Int32} {x : Int32} {l0 l1 l2 l3 : Slot} : W (pj lw) 29 120 (l0 :: l1 :: l2 :: l3 :: .val (.int y) :: L) (.int x :: S) k n H Q ↔ W (pj lw) 29 122 (l0 :: l1 :: l2 :: l3 :: .val (.int x) :: L) S k n H Q := W_ist (rfl : (pj lw).1 29 120 = some (.istore 4, 2, 0)) rfl rfl
theorem w29_122 {x : Nat} : W (pj lw) 29 122 (.val (.ref x) :: L) S k n H Q ↔ W (pj lw) 29 123 (.val (.ref x) :: L) (.ref x :: S) k n H Q := W_s (rfl : (pj lw).1 29 122 = some (.aload_n 0, 1, 0)) rfl rfl rfl
theorem w29_123 {a : Nat} : W (pj lw) 29 123 L (.ref a :: S) k n H Q ↔ (isO H a = true ∧ W (pj lw) 29 126 L (fld H a 18 :: S) k n H Q) := W_getf (rfl : (pj lw).1 29 123 = some (.getfield 46, 3, 18))
theorem w29_126 {x : Int32} {l0 l1 l2 : Slot} : W (pj lw) 29 126 (l0 :: l1 :: l2 :: .val (.int x) :: L) S k n H Q ↔ W (pj lw) 29 127 (l0 :: l1 :: l2 :: .val (.int x) :: L) (.int x :: S) k n H Q := W_s (rfl : (pj lw).1 29 126 = some (.iload_n 3, 1, 0)) rfl rfl rfl
theorem w29_127 {x : Int32} {l0 l1 l2 l3 : Slot} : W (pj lw) 29 127 (l0 :: l1 :: l2 :: l3 :: .val (.int x) :: L) S k n H Q ↔ W (pj lw) 29 129 (l0 :: l1 :: l2 :: l3 :: .val (.int x) :: L) (.int x :: S) k n H Q := W_s (rfl : (pj lw).1 29 127 = some (.iload 4, 2, 0)) rfl rfl rfl
theorem w29_129 {x i : Int32} {a : Nat} : W (pj lw) 29 129 L (.int x :: .int i :: .ref a :: S) k n H Q ↔ (inAw H a .int i = true ∧ W (pj lw) 29 130 L S k n (wr H a i.toNatClampNeg (.int x)) Q) := W_iastore (rfl : (pj lw).1 29 129 = some (.iastore, 1, 0))
theorem w29_130 : W (pj lw) 29 130 L [] k n H Q ↔ Q none H := W_r (rfl : (pj lw).1 29 130 = some (.return_, 1, 0)) rfl
theorem c30 {x0 : Nat} {x1 : Int32} {x2 : Int32} {x3 : Int32} : Cl (pj lw) 30 [.ref x0, .int x1, .int x2, .int x3] H Q ↔ W (pj lw) 30 0 [.val (.ref x0), .val (.int x1), .val (.int x2), .val (.int x3), .unset, .unset, .unset, .unset, .unset, .unset] [] 0 0 H Q := cl_unf rfl
theorem w30_0 {x : Nat} : W (pj lw) 30 0 (.val (.ref x) :: L) S k n H Q ↔ W (pj lw) 30 1 (.val (.ref x) :: L) (.ref x :: S) k n H Q := W_s (rfl : (pj lw).1 30 0 = some (.aload_n 0, 1, 0)) rfl rfl rfl
theorem w30_1 {a : Nat} : W (pj lw) 30 1 L (.ref a :: S) k n H Q ↔ (isO H a = true ∧ W (pj lw) 30 4 L (fld H a 6 :: S) k n H Q) := W_getf (rfl : (pj lw).1 30 1 = some (.getfield 7, 3, 6))
theorem w30_4 {x : Int32} {l0 : Slot} : W (pj lw) 30 4 (l0 :: .val (.int x) :: L) S k n H Q ↔ W (pj lw) 30 5 (l0 :: .val (.int x) :: L) (.int x :: S) k n H Q := W_s (rfl : (pj lw).1 30 4 = some (.iload_n 1, 1, 0)) rfl rfl rfl
theorem w30_5 {i : Int32} {a : Nat} : W (pj lw) 30 5 L (.int i :: .ref a :: S) k n H Q ↔ (inA H a .int i = true ∧ W (pj lw) 30 6 L (elt H a i :: S) k n H Q) := W_iaload (rfl : (pj lw).1 30 5 = some (.iaload, 1, 0))
theorem w30_6 {x : Int32} {l0 l1 l2 l3 : Slot} : W (pj lw) 30 6 (l0 :: l1 :: l2 :: l3 :: .unset :: L) (.int x :: S) k n H Q ↔ W (pj lw) 30 8 (l0 :: l1 :: l2 :: l3 :: .val (.int x) :: L) S k n H Q := W_ist (rfl : (pj lw).1 30 6 = some (.istore 4, 2, 0)) rfl rfl
theorem w30_8 {x : Nat} : W (pj lw) 30 8 (.val (.ref x) :: L) S k n H Q ↔ W (pj lw) 30 9 (.val (.ref x) :: L) (.ref x :: S) k n H Q := W_s (rfl : (pj lw).1 30 8 = some (.aload_n 0, 1, 0)) rfl rfl rfl
theorem w30_9 {a : Nat} : W (pj lw) 30 9 L (.ref a :: S) k n H Q ↔ (isO H a = true ∧ W (pj lw) 30 12 L (fld H a 8 :: S) k n H Q) := W_getf (rfl : (pj lw).1 30 9 = some (.getfield 16, 3, 8))
theorem w30_12 {x : Int32} {l0 : Slot} : W (pj lw) 30 12 (l0 :: .val (.int x) :: L) S k n H Q ↔ W (pj lw) 30 13 (l0 :: .val (.int x) :: L) (.int x :: S) k n H Q := W_s (rfl : (pj lw).1 30 12 = some (.iload_n 1, 1, 0)) rfl rfl rfl
theorem w30_13 {i : Int32} {a : Nat} : W (pj lw) 30 13 L (.int i :: .ref a :: S) k n H Q ↔ (inA H a .int i = true ∧ W (pj lw) 30 14 L (elt H a i :: S) k n H Q) := W_iaload (rfl : (pj lw).1 30 13 = some (.iaload, 1, 0))
theorem w30_14 {x : Int32} {l0 l1 l2 l3 l4 : Slot} : W (pj lw) 30 14 (l0 :: l1 :: l2 :: l3 :: l4 :: .unset :: L) (.int x :: S) k n H Q ↔ W (pj lw) 30 16 (l0 :: l1 :: l2 :: l3 :: l4 :: .val (.int x) :: L) S k n H Q := W_ist (rfl : (pj lw).1 30 14 = some (.istore 5, 2, 0)) rfl rfl
theorem w30_16 {x : Nat} : W (pj lw) 30 16 (.val (.ref x) :: L) S k n H Q ↔ W (pj lw) 30 17 (.val (.ref x) :: L) (.ref x :: S) k n H Q := W_s (rfl : (pj lw).1 30 16 = some (.aload_n 0, 1, 0)) rfl rfl rfl
theorem w30_17 {a : Nat} : W (pj lw) 30 17 L (.ref a :: S) k n H Q ↔ (isO H a = true ∧ W (pj lw) 30 20 L (fld H a 7 :: S) k n H Q) := W_getf (rfl : (pj lw).1 30 17 = some (.getfield 13, 3, 7))
theorem w30_20 {x : Int32} {l0 : Slot} : W (pj lw) 30 20 (l0 :: .val (.int x) :: L) S k n H Q ↔ W (pj lw) 30 21 (l0 :: .val (.int x) :: L) (.int x :: S) k n H Q := W_s (rfl : (pj lw).1 30 20 = some (.iload_n 1, 1, 0)) rfl rfl rfl
theorem w30_21 {i : Int32} {a : Nat} : W (pj lw) 30 21 L (.int i :: .ref a :: S) k n H Q ↔ (inA H a .int i = true ∧ W (pj lw) 30 22 L (elt H a i :: S) k n H Q) := W_iaload (rfl : (pj lw).1 30 21 = some (.iaload, 1, 0))
theorem w30_22 : W (pj lw) 30 22 L S k n H Q ↔ W (pj lw) 30 23 L (.int 3 :: S) k n H Q := W_s (rfl : (pj lw).1 30 22 = some (.iconst 3, 1, 0)) rfl rfl rfl
theorem w30_23 {x y : Int32} : W (pj lw) 30 23 L (.int y :: .int x :: S) k n H Q ↔ (if x = y then W (pj lw) 30 26 L S k n H Q else W (pj lw) 30 34 L S k n H Q) := W_icmp_ne (rfl : (pj lw).1 30 23 = some (.if_icmp .ne 11, 3, 0)) rfl
theorem w30_26 {x : Int32} {l0 l1 l2 l3 : Slot} : W (pj lw) 30 26 (l0 :: l1 :: l2 :: l3 :: .val (.int x) :: L) S k n H Q ↔ W (pj lw) 30 28 (l0 :: l1 :: l2 :: l3 :: .val (.int x) :: L) (.int x :: S) k n H Q := W_s (rfl : (pj lw).1 30 26 = some (.iload 4, 2, 0)) rfl rfl rfl
theorem w30_28 {x : Int32} {l0 l1 l2 l3 l4 : Slot} : W (pj lw) 30 28 (l0 :: l1 :: l2 :: l3 :: l4 :: .val (.int x) :: L) S k n H Q ↔ W (pj lw) 30 30 (l0 :: l1 :: l2 :: l3 :: l4 :: .val (.int x) :: L) (.int x :: S) k n H Q := W_s (rfl : (pj lw).1 30 28 = some (.iload 5, 2, 0)) rfl rfl rfl
theorem w30_30 {x y : Int32} : W (pj lw) 30 30 L (.int y :: .int x :: S) k n H Q ↔ W (pj lw) 30 31 L (.int (x + y) :: S) k n H Q := W_s (rfl : (pj lw).1 30 30 = some (.iadd, 1, 0)) rfl rfl rfl
theorem w30_31 : W (pj lw) 30 31 L S k n H Q ↔ W (pj lw) 30 36 L S k n H Q := W_goto (rfl : (pj lw).1 30 31 = some (.goto 5, 3, 0)) rfl
theorem w30_34 {x : Int32} {l0 l1 l2 l3 : Slot} : W (pj lw) 30 34 (l0 :: l1 :: l2 :: l3 :: .val (.int x) :: L) S k n H Q ↔ W (pj lw) 30 36 (l0 :: l1 :: l2 :: l3 :: .val (.int x) :: L) (.int x :: S) k n H Q := W_s (rfl : (pj lw).1 30 34 = some (.iload 4, 2, 0)) rfl rfl rfl
theorem w30_36 {x : Int32} {l0 l1 l2 l3 l4 l5 : Slot} : W (pj lw) 30 36 (l0 :: l1 :: l2 :: l3 :: l4 :: l5 :: .unset :: L) (.int x :: S) k n H Q ↔ W (pj lw) 30 38 (l0 :: l1 :: l2 :: l3 :: l4 :: l5 :: .val (.int x) :: L) S k n H Q := W_ist (rfl : (pj lw).1 30 36 = some (.istore 6, 2, 0)) rfl rfl
theorem w30_38 {x : Nat} : W (pj lw) 30 38 (.val (.ref x) :: L) S k n H Q ↔ W (pj lw) 30 39 (.val (.ref x) :: L) (.ref x :: S) k n H Q := W_s (rfl : (pj lw).1 30 38 = some (.aload_n 0, 1, 0)) rfl rfl rfl
theorem w30_39 {a : Nat} : W (pj lw) 30 39 L (.ref a :: S) k n H Q ↔ (isO H a = true ∧ W (pj lw) 30 42 L (fld H a 1 :: S) k n H Q) := W_getf (rfl : (pj lw).1 30 39 = some (.getfield 57, 3, 1))
theorem w30_42 : W (pj lw) 30 42 L S k n H Q ↔ W (pj lw) 30 43 L (.int 1 :: S) k n H Q := W_s (rfl : (pj lw).1 30 42 = some (.iconst 1, 1, 0)) rfl rfl rfl
theorem w30_43 {x y : Int32} : W (pj lw) 30 43 L (.int y :: .int x :: S) k n H Q ↔ W (pj lw) 30 44 L (.int (x - y) :: S) k n H Q := W_s (rfl : (pj lw).1 30 43 = some (.isub, 1, 0)) rfl rfl rfl
theorem w30_44 {x : Int32} {l0 l1 l2 l3 l4 l5 l6 : Slot} : W (pj lw) 30 44 (l0 :: l1 :: l2 :: l3 :: l4 :: l5 :: l6 :: .unset :: L) (.int x :: S) k n H Q ↔ W (pj lw) 30 46 (l0 :: l1 :: l2 :: l3 :: l4 :: l5 :: l6 :: .val (.int x) :: L) S k n H Q := W_ist (rfl : (pj lw).1 30 44 = some (.istore 7, 2, 0)) rfl rfl
theorem w30_46 {x : Int32} {l0 l1 l2 l3 l4 : Slot} : W (pj lw) 30 46 (l0 :: l1 :: l2 :: l3 :: l4 :: .val (.int x) :: L) S k n H Q ↔ W (pj lw) 30 48 (l0 :: l1 :: l2 :: l3 :: l4 :: .val (.int x) :: L) (.int x :: S) k n H Q := W_s (rfl : (pj lw).1 30 46 = some (.iload 5, 2, 0)) rfl rfl rfl
theorem w30_48 : W (pj lw) 30 48 L S k n H Q ↔ W (pj lw) 30 49 L (.int 1 :: S) k n H Q := W_s (rfl : (pj lw).1 30 48 = some (.iconst 1, 1, 0)) rfl rfl rfl
theorem w30_49 {x y : Int32} : W (pj lw) 30 49 L (.int y :: .int x :: S) k n H Q ↔ (if x = y then W (pj lw) 30 52 L S k n H Q else W (pj lw) 30 107 L S k n H Q) := W_icmp_ne (rfl : (pj lw).1 30 49 = some (.if_icmp .ne 58, 3, 0)) rfl
theorem w30_52 {x : Int32} {l0 l1 l2 : Slot} : W (pj lw) 30 52 (l0 :: l1 :: l2 :: .val (.int x) :: L) S k n H Q ↔ W (pj lw) 30 53 (l0 :: l1 :: l2 :: .val (.int x) :: L) (.int x :: S) k n H Q := W_s (rfl : (pj lw).1 30 52 = some (.iload_n 3, 1, 0)) rfl rfl rfl
theorem w30_53 : W (pj lw) 30 53 L S k n H Q ↔ W (pj lw) 30 54 L (.int 1 :: S) k n H Q := W_s (rfl : (pj lw).1 30 53 = some (.iconst 1, 1, 0)) rfl rfl rfl
theorem w30_54 {x y : Int32} : W (pj lw) 30 54 L (.int y :: .int x :: S) k n H Q ↔ (if x = y then W (pj lw) 30 57 L S k n H Q else W (pj lw) 30 72 L S k n H Q) := W_icmp_ne (rfl : (pj lw).1 30 54 = some (.if_icmp .ne 18, 3, 0)) rfl
theorem w30_57 {x : Int32} {l0 l1 : Slot} : W (pj lw) 30 57 (l0 :: l1 :: .val (.int x) :: L) S k n H Q ↔ W (pj lw) 30 58 (l0 :: l1 :: .val (.int x) :: L) (.int x :: S) k n H Q := W_s (rfl : (pj lw).1 30 57 = some (.iload_n 2, 1, 0)) rfl rfl rfl
theorem w30_58 {x : Int32} {l0 l1 l2 l3 l4 l5 : Slot} : W (pj lw) 30 58 (l0 :: l1 :: l2 :: l3 :: l4 :: l5 :: .val (.int x) :: L) S k n H Q ↔ W (pj lw) 30 60 (l0 :: l1 :: l2 :: l3 :: l4 :: l5 :: .val (.int x) :: L) (.int x :: S) k n H Q := W_s (rfl : (pj lw).1 30 58 = some (.iload 6, 2, 0)) rfl rfl rfl
theorem w30_60 {x y : Int32} : W (pj lw) 30 60 L (.int y :: .int x :: S) k n H Q ↔ (if x < y then W (pj lw) 30 72 L S k n H Q else W (pj lw) 30 63 L S k n H Q) := W_icmp_lt (rfl : (pj lw).1 30 60 = some (.if_icmp .lt 12, 3, 0)) rfl
theorem w30_63 {x : Int32} {l0 l1 : Slot} : W (pj lw) 30 63 (l0 :: l1 :: .val (.int x) :: L) S k n H Q ↔ W (pj lw) 30 64 (l0 :: l1 :: .val (.int x) :: L) (.int x :: S) k n H Q := W_s (rfl : (pj lw).1 30 63 = some (.iload_n 2, 1, 0)) rfl rfl rfl
theorem w30_64 {x : Int32} {l0 l1 l2 l3 l4 l5 : Slot} : W (pj lw) 30 64 (l0 :: l1 :: l2 :: l3 :: l4 :: l5 :: .val (.int x) :: L) S k n H Q ↔ W (pj lw) 30 66 (l0 :: l1 :: l2 :: l3 :: l4 :: l5 :: .val (.int x) :: L) (.int x :: S) k n H Q := W_s (rfl : (pj lw).1 30 64 = some (.iload 6, 2, 0)) rfl rfl rfl
theorem w30_66 {x y : Int32} : W (pj lw) 30 66 L (.int y :: .int x :: S) k n H Q ↔ W (pj lw) 30 67 L (.int (x - y) :: S) k n H Q := W_s (rfl : (pj lw).1 30 66 = some (.isub, 1, 0)) rfl rfl rfl
theorem w30_67 {x : Int32} {l0 l1 l2 l3 l4 l5 l6 l7 : Slot} : W (pj lw) 30 67 (l0 :: l1 :: l2 :: l3 :: l4 :: l5 :: l6 :: l7 :: .unset :: L) (.int x :: S) k n H Q ↔ W (pj lw) 30 69 (l0 :: l1 :: l2 :: l3 :: l4 :: l5 :: l6 :: l7 :: .val (.int x) :: L) S k n H Q := W_ist (rfl : (pj lw).1 30 67 = some (.istore 8, 2, 0)) rfl rfl
theorem w30_69 : W (pj lw) 30 69 L S k n H Q ↔ W (pj lw) 30 181 L S k n H Q := W_goto (rfl : (pj lw).1 30 69 = some (.goto 112, 3, 0)) rfl
theorem w30_72 {x : Int32} {l0 l1 l2 : Slot} : W (pj lw) 30 72 (l0 :: l1 :: l2 :: .val (.int x) :: L) S k n H Q ↔ W (pj lw) 30 73 (l0 :: l1 :: l2 :: .val (.int x) :: L) (.int x :: S) k n H Q := W_s (rfl : (pj lw).1 30 72 = some (.iload_n 3, 1, 0)) rfl rfl rfl
theorem w30_73 : W (pj lw) 30 73 L S k n H Q ↔ W (pj lw) 30 74 L (.int (-1) :: S) k n H Q := W_s (rfl : (pj lw).1 30 73 = some (.iconst (-1), 1, 0)) rfl rfl rfl
theorem w30_74 {x y : Int32} : W (pj lw) 30 74 L (.int y :: .int x :: S) k n H Q ↔ (if x = y then W (pj lw) 30 77 L S k n H Q else W (pj lw) 30 92 L S k n H Q) := W_icmp_ne (rfl : (pj lw).1 30 74 = some (.if_icmp .ne 18, 3, 0)) rfl
theorem w30_77 {x : Int32} {l0 l1 l2 l3 l4 l5 l6 : Slot} : W (pj lw) 30 77 (l0 :: l1 :: l2 :: l3 :: l4 :: l5 :: l6 :: .val (.int x) :: L) S k n H Q ↔ W (pj lw) 30 79 (l0 :: l1 :: l2 :: l3 :: l4 :: l5 :: l6 :: .val (.int x) :: L) (.int x :: S) k n H Q := W_s (rfl : (pj lw).1 30 77 = some (.iload 7, 2, 0)) rfl rfl rfl
theorem w30_79 {x : Int32} {l0 l1 l2 l3 l4 l5 : Slot} : W (pj lw) 30 79 (l0 :: l1 :: l2 :: l3 :: l4 :: l5 :: .val (.int x) :: L) S k n H Q ↔ W (pj lw) 30 81 (l0 :: l1 :: l2 :: l3 :: l4 :: l5 :: .val (.int x) :: L) (.int x :: S) k n H Q := W_s (rfl : (pj lw).1 30 79 = some (.iload 6, 2, 0)) rfl rfl rfl
theorem w30_81 {x y : Int32} : W (pj lw) 30 81 L (.int y :: .int x :: S) k n H Q ↔ W (pj lw) 30 82 L (.int (x - y) :: S) k n H Q := W_s (rfl : (pj lw).1 30 81 = some (.isub, 1, 0)) rfl rfl rfl
theorem w30_82 {x : Int32} {l0 l1 l2 l3 l4 l5 l6 : Slot} : W (pj lw) 30 82 (l0 :: l1 :: l2 :: l3 :: l4 :: l5 :: l6 :: .val (.int x) :: L) S k n H Q ↔ W (pj lw) 30 84 (l0 :: l1 :: l2 :: l3 :: l4 :: l5 :: l6 :: .val (.int x) :: L) (.int x :: S) k n H Q := W_s (rfl : (pj lw).1 30 82 = some (.iload 7, 2, 0)) rfl rfl rfl
theorem w30_84 {x : Int32} {l0 l1 : Slot} : W (pj lw) 30 84 (l0 :: l1 :: .val (.int x) :: L) S k n H Q ↔ W (pj lw) 30 85 (l0 :: l1 :: .val (.int x) :: L) (.int x :: S) k n H Q := W_s (rfl : (pj lw).1 30 84 = some (.iload_n 2, 1, 0)) rfl rfl rfl
theorem w30_85 {x y : Int32} : W (pj lw) 30 85 L (.int y :: .int x :: S) k n H Q ↔ W (pj lw) 30 86 L (.int (x - y) :: S) k n H Q := W_s (rfl : (pj lw).1 30 85 = some (.isub, 1, 0)) rfl rfl rfl
theorem w30_86 {x y : Int32} : W (pj lw) 30 86 L (.int y :: .int x :: S) k n H Q ↔ W (pj lw) 30 87 L (.int (x + y) :: S) k n H Q := W_s (rfl : (pj lw).1 30 86 = some (.iadd, 1, 0)) rfl rfl rfl
theorem w30_87 {x : Int32} {l0 l1 l2 l3 l4 l5 l6 l7 : Slot} : W (pj lw) 30 87 (l0 :: l1 :: l2 :: l3 :: l4 :: l5 :: l6 :: l7 :: .unset :: L) (.int x :: S) k n H Q ↔ W (pj lw) 30 89 (l0 :: l1 :: l2 :: l3 :: l4 :: l5 :: l6 :: l7 :: .val (.int x) :: L) S k n H Q := W_ist (rfl : (pj lw).1 30 87 = some (.istore 8, 2, 0)) rfl rfl
theorem w30_89 : W (pj lw) 30 89 L S k n H Q ↔ W (pj lw) 30 181 L S k n H Q := W_goto (rfl : (pj lw).1 30 89 = some (.goto 92, 3, 0)) rfl
theorem w30_92 {x : Int32} {l0 l1 l2 l3 l4 l5 l6 : Slot} : W (pj lw) 30 92 (l0 :: l1 :: l2 :: l3 :: l4 :: l5 :: l6 :: .val (.int x) :: L) S k n H Q ↔ W (pj lw) 30 94 (l0 :: l1 :: l2 :: l3 :: l4 :: l5 :: l6 :: .val (.int x) :: L) (.int x :: S) k n H Q := W_s (rfl : (pj lw).1 30 92 = some (.iload 7, 2, 0)) rfl rfl rfl
theorem w30_94 {x : Int32} {l0 l1 l2 l3 l4 l5 : Slot} : W (pj lw) 30 94 (l0 :: l1 :: l2 :: l3 :: l4 :: l5 :: .val (.int x) :: L) S k n H Q ↔ W (pj lw) 30 96 (l0 :: l1 :: l2 :: l3 :: l4 :: l5 :: .val (.int x) :: L) (.int x :: S) k n H Q := W_s (rfl : (pj lw).1 30 94 = some (.iload 6, 2, 0)) rfl rfl rfl
theorem w30_96 {x y : Int32} : W (pj lw) 30 96 L (.int y :: .int x :: S) k n H Q ↔ W (pj lw) 30 97 L (.int (x - y) :: S) k n H Q := W_s (rfl : (pj lw).1 30 96 = some (.isub, 1, 0)) rfl rfl rfl
theorem w30_97 {x : Int32} {l0 l1 l2 l3 l4 l5 l6 : Slot} : W (pj lw) 30 97 (l0 :: l1 :: l2 :: l3 :: l4 :: l5 :: l6 :: .val (.int x) :: L) S k n H Q ↔ W (pj lw) 30 99 (l0 :: l1 :: l2 :: l3 :: l4 :: l5 :: l6 :: .val (.int x) :: L) (.int x :: S) k n H Q := W_s (rfl : (pj lw).1 30 97 = some (.iload 7, 2, 0)) rfl rfl rfl
theorem w30_99 {x y : Int32} : W (pj lw) 30 99 L (.int y :: .int x :: S) k n H Q ↔ W (pj lw) 30 100 L (.int (x + y) :: S) k n H Q := W_s (rfl : (pj lw).1 30 99 = some (.iadd, 1, 0)) rfl rfl rfl
theorem w30_100 {x : Int32} {l0 l1 : Slot} : W (pj lw) 30 100 (l0 :: l1 :: .val (.int x) :: L) S k n H Q ↔ W (pj lw) 30 101 (l0 :: l1 :: .val (.int x) :: L) (.int x :: S) k n H Q := W_s (rfl : (pj lw).1 30 100 = some (.iload_n 2, 1, 0)) rfl rfl rfl
theorem w30_101 {x y : Int32} : W (pj lw) 30 101 L (.int y :: .int x :: S) k n H Q ↔ W (pj lw) 30 102 L (.int (x + y) :: S) k n H Q := W_s (rfl : (pj lw).1 30 101 = some (.iadd, 1, 0)) rfl rfl rfl
theorem w30_102 {x : Int32} {l0 l1 l2 l3 l4 l5 l6 l7 : Slot} : W (pj lw) 30 102 (l0 :: l1 :: l2 :: l3 :: l4 :: l5 :: l6 :: l7 :: .unset :: L) (.int x :: S) k n H Q ↔ W (pj lw) 30 104 (l0 :: l1 :: l2 :: l3 :: l4 :: l5 :: l6 :: l7 :: .val (.int x) :: L) S k n H Q := W_ist (rfl : (pj lw).1 30 102 = some (.istore 8, 2, 0)) rfl rfl
theorem w30_104 : W (pj lw) 30 104 L S k n H Q ↔ W (pj lw) 30 181 L S k n H Q := W_goto (rfl : (pj lw).1 30 104 = some (.goto 77, 3, 0)) rfl
theorem w30_107 {x : Int32} {l0 l1 l2 l3 l4 : Slot} : W (pj lw) 30 107 (l0 :: l1 :: l2 :: l3 :: l4 :: .val (.int x) :: L) S k n H Q ↔ W (pj lw) 30 109 (l0 :: l1 :: l2 :: l3 :: l4 :: .val (.int x) :: L) (.int x :: S) k n H Q := W_s (rfl : (pj lw).1 30 107 = some (.iload 5, 2, 0)) rfl rfl rfl
theorem w30_109 : W (pj lw) 30 109 L S k n H Q ↔ W (pj lw) 30 110 L (.int (-1) :: S) k n H Q := W_s (rfl : (pj lw).1 30 109 = some (.iconst (-1), 1, 0)) rfl rfl rfl
theorem w30_110 {x y : Int32} : W (pj lw) 30 110 L (.int y :: .int x :: S) k n H Q ↔ (if x = y then W (pj lw) 30 113 L S k n H Q else W (pj lw) 30 162 L S k n H Q) := W_icmp_ne (rfl : (pj lw).1 30 110 = some (.if_icmp .ne 52, 3, 0)) rfl
theorem w30_113 {x : Int32} {l0 l1 l2 : Slot} : W (pj lw) 30 113 (l0 :: l1 :: l2 :: .val (.int x) :: L) S k n H Q ↔ W (pj lw) 30 114 (l0 :: l1 :: l2 :: .val (.int x) :: L) (.int x :: S) k n H Q := W_s (rfl : (pj lw).1 30 113 = some (.iload_n 3, 1, 0)) rfl rfl rfl
theorem w30_114 : W (pj lw) 30 114 L S k n H Q ↔ W (pj lw) 30 115 L (.int (-1) :: S) k n H Q := W_s (rfl : (pj lw).1 30 114 = some (.iconst (-1), 1, 0)) rfl rfl rfl
theorem w30_115 {x y : Int32} : W (pj lw) 30 115 L (.int y :: .int x :: S) k n H Q ↔ (if x = y then W (pj lw) 30 118 L S k n H Q else W (pj lw) 30 133 L S k n H Q) := W_icmp_ne (rfl : (pj lw).1 30 115 = some (.if_icmp .ne 18, 3, 0)) rfl
theorem w30_118 {x : Int32} {l0 l1 : Slot} : W (pj lw) 30 118 (l0 :: l1 :: .val (.int x) :: L) S k n H Q ↔ W (pj lw) 30 119 (l0 :: l1 :: .val (.int x) :: L) (.int x :: S) k n H Q := W_s (rfl : (pj lw).1 30 118 = some (.iload_n 2, 1, 0)) rfl rfl rfl
theorem w30_119 {x : Int32} {l0 l1 l2 l3 l4 l5 : Slot} : W (pj lw) 30 119 (l0 :: l1 :: l2 :: l3 :: l4 :: l5 :: .val (.int x) :: L) S k n H Q ↔ W (pj lw) 30 121 (l0 :: l1 :: l2 :: l3 :: l4 :: l5 :: .val (.int x) :: L) (.int x :: S) k n H Q := W_s (rfl : (pj lw).1 30 119 = some (.iload 6, 2, 0)) rfl rfl rfl
theorem w30_121 {x y : Int32} : W (pj lw) 30 121 L (.int y :: .int x :: S) k n H Q ↔ (if y < x then W (pj lw) 30 133 L S k n H Q else W (pj lw) 30 124 L S k n H Q) := W_icmp_gt (rfl : (pj lw).1 30 121 = some (.if_icmp .gt 12, 3, 0)) rfl
theorem w30_124 {x : Int32} {l0 l1 l2 l3 l4 l5 : Slot} : W (pj lw) 30 124 (l0 :: l1 :: l2 :: l3 :: l4 :: l5 :: .val (.int x) :: L) S k n H Q ↔ W (pj lw) 30 126 (l0 :: l1 :: l2 :: l3 :: l4 :: l5 :: .val (.int x) :: L) (.int x :: S) k n H Q := W_s (rfl : (pj lw).1 30 124 = some (.iload 6, 2, 0)) rfl rfl rfl
theorem w30_126 {x : Int32} {l0 l1 : Slot} : W (pj lw) 30 126 (l0 :: l1 :: .val (.int x) :: L) S k n H Q ↔ W (pj lw) 30 127 (l0 :: l1 :: .val (.int x) :: L) (.int x :: S) k n H Q := W_s (rfl : (pj lw).1 30 126 = some (.iload_n 2, 1, 0)) rfl rfl rfl
theorem w30_127 {x y : Int32} : W (pj lw) 30 127 L (.int y :: .int x :: S) k n H Q ↔ W (pj lw) 30 128 L (.int (x - y) :: S) k n H Q := W_s (rfl : (pj lw).1 30 127 = some (.isub, 1, 0)) rfl rfl rfl
theorem w30_128 {x : Int32} {l0 l1 l2 l3 l4 l5 l6 l7 : Slot} : W (pj lw) 30 128 (l0 :: l1 :: l2 :: l3 :: l4 :: l5 :: l6 :: l7 :: .unset :: L) (.int x :: S) k n H Q ↔ W (pj lw) 30 130 (l0 :: l1 :: l2 :: l3 :: l4 :: l5 :: l6 :: l7 :: .val (.int x) :: L) S k n H Q := W_ist (rfl : (pj lw).1 30 128 = some (.istore 8, 2, 0)) rfl rfl
theorem w30_130 : W (pj lw) 30 130 L S k n H Q ↔ W (pj lw) 30 181 L S k n H Q := W_goto (rfl : (pj lw).1 30 130 = some (.goto 51, 3, 0)) rfl
theorem w30_133 {x : Int32} {l0 l1 l2 : Slot} : W (pj lw) 30 133 (l0 :: l1 :: l2 :: .val (.int x) :: L) S k n H Q ↔ W (pj lw) 30 134 (l0 :: l1 :: l2 :: .val (.int x) :: L) (.int x :: S) k n H Q := W_s (rfl : (pj lw).1 30 133 = some (.iload_n 3, 1, 0)) rfl rfl rfl
theorem w30_134 : W (pj lw) 30 134 L S k n H Q ↔ W (pj lw) 30 135 L (.int 1 :: S) k n H Q := W_s (rfl : (pj lw).1 30 134 = some (.iconst 1, 1, 0)) rfl rfl rfl
theorem w30_135 {x y : Int32} : W (pj lw) 30 135 L (.int y :: .int x :: S) k n H Q ↔ (if x = y then W (pj lw) 30 138 L S k n H Q else W (pj lw) 30 147 L S k n H Q) := W_icmp_ne (rfl : (pj lw).1 30 135 = some (.if_icmp .ne 12, 3, 0)) rfl
theorem w30_138 {x : Int32} {l0 l1 l2 l3 l4 l5 : Slot} : W (pj lw) 30 138 (l0 :: l1 :: l2 :: l3 :: l4 :: l5 :: .val (.int x) :: L) S k n H Q ↔ W (pj lw) 30 140 (l0 :: l1 :: l2 :: l3 :: l4 :: l5 :: .val (.int x) :: L) (.int x :: S) k n H Q := W_s (rfl : (pj lw).1 30 138 = some (.iload 6, 2, 0)) rfl rfl rfl
theorem w30_140 {x : Int32} {l0 l1 : Slot} : W (pj lw) 30 140 (l0 :: l1 :: .val (.int x) :: L) S k n H Q ↔ W (pj lw) 30 141 (l0 :: l1 :: .val (.int x) :: L) (.int x :: S) k n H Q := W_s (rfl : (pj lw).1 30 140 = some (.iload_n 2, 1, 0)) rfl rfl rfl
theorem w30_141 {x y : Int32} : W (pj lw) 30 141 L (.int y :: .int x :: S) k n H Q ↔ W (pj lw) 30 142 L (.int (x + y) :: S) k n H Q := W_s (rfl : (pj lw).1 30 141 = some (.iadd, 1, 0)) rfl rfl rfl
theorem w30_142 {x : Int32} {l0 l1 l2 l3 l4 l5 l6 l7 : Slot} : W (pj lw) 30 142 (l0 :: l1 :: l2 :: l3 :: l4 :: l5 :: l6 :: l7 :: .unset :: L) (.int x :: S) k n H Q ↔ W (pj lw) 30 144 (l0 :: l1 :: l2 :: l3 :: l4 :: l5 :: l6 :: l7 :: .val (.int x) :: L) S k n H Q := W_ist (rfl : (pj lw).1 30 142 = some (.istore 8, 2, 0)) rfl rfl
theorem w30_144 : W (pj lw) 30 144 L S k n H Q ↔ W (pj lw) 30 181 L S k n H Q := W_goto (rfl : (pj lw).1 30 144 = some (.goto 37, 3, 0)) rfl
theorem w30_147 {x : Int32} {l0 l1 l2 l3 l4 l5 : Slot} : W (pj lw) 30 147 (l0 :: l1 :: l2 :: l3 :: l4 :: l5 :: .val (.int x) :: L) S k n H Q ↔ W (pj lw) 30 149 (l0 :: l1 :: l2 :: l3 :: l4 :: l5 :: .val (.int x) :: L) (.int x :: S) k n H Q := W_s (rfl : (pj lw).1 30 147 = some (.iload 6, 2, 0)) rfl rfl rfl
theorem w30_149 {x : Int32} {l0 l1 l2 l3 l4 l5 l6 : Slot} : W (pj lw) 30 149 (l0 :: l1 :: l2 :: l3 :: l4 :: l5 :: l6 :: .val (.int x) :: L) S k n H Q ↔ W (pj lw) 30 151 (l0 :: l1 :: l2 :: l3 :: l4 :: l5 :: l6 :: .val (.int x) :: L) (.int x :: S) k n H Q := W_s (rfl : (pj lw).1 30 149 = some (.iload 7, 2, 0)) rfl rfl rfl
theorem w30_151 {x y : Int32} : W (pj lw) 30 151 L (.int y :: .int x :: S) k n H Q ↔ W (pj lw) 30 152 L (.int (x + y) :: S) k n H Q := W_s (rfl : (pj lw).1 30 151 = some (.iadd, 1, 0)) rfl rfl rfl
theorem w30_152 {x : Int32} {l0 l1 l2 l3 l4 l5 l6 : Slot} : W (pj lw) 30 152 (l0 :: l1 :: l2 :: l3 :: l4 :: l5 :: l6 :: .val (.int x) :: L) S k n H Q ↔ W (pj lw) 30 154 (l0 :: l1 :: l2 :: l3 :: l4 :: l5 :: l6 :: .val (.int x) :: L) (.int x :: S) k n H Q := W_s (rfl : (pj lw).1 30 152 = some (.iload 7, 2, 0)) rfl rfl rfl
theorem w30_154 {x : Int32} {l0 l1 : Slot} : W (pj lw) 30 154 (l0 :: l1 :: .val (.int x) :: L) S k n H Q ↔ W (pj lw) 30 155 (l0 :: l1 :: .val (.int x) :: L) (.int x :: S) k n H Q := W_s (rfl : (pj lw).1 30 154 = some (.iload_n 2, 1, 0)) rfl rfl rfl
theorem w30_155 {x y : Int32} : W (pj lw) 30 155 L (.int y :: .int x :: S) k n H Q ↔ W (pj lw) 30 156 L (.int (x - y) :: S) k n H Q := W_s (rfl : (pj lw).1 30 155 = some (.isub, 1, 0)) rfl rfl rfl
theorem w30_156 {x y : Int32} : W (pj lw) 30 156 L (.int y :: .int x :: S) k n H Q ↔ W (pj lw) 30 157 L (.int (x + y) :: S) k n H Q := W_s (rfl : (pj lw).1 30 156 = some (.iadd, 1, 0)) rfl rfl rfl
theorem w30_157 {x : Int32} {l0 l1 l2 l3 l4 l5 l6 l7 : Slot} : W (pj lw) 30 157 (l0 :: l1 :: l2 :: l3 :: l4 :: l5 :: l6 :: l7 :: .unset :: L) (.int x :: S) k n H Q ↔ W (pj lw) 30 159 (l0 :: l1 :: l2 :: l3 :: l4 :: l5 :: l6 :: l7 :: .val (.int x) :: L) S k n H Q := W_ist (rfl : (pj lw).1 30 157 = some (.istore 8, 2, 0)) rfl rfl
theorem w30_159 : W (pj lw) 30 159 L S k n H Q ↔ W (pj lw) 30 181 L S k n H Q := W_goto (rfl : (pj lw).1 30 159 = some (.goto 22, 3, 0)) rfl
theorem w30_162 {x : Int32} {l0 l1 : Slot} : W (pj lw) 30 162 (l0 :: l1 :: .val (.int x) :: L) S k n H Q ↔ W (pj lw) 30 163 (l0 :: l1 :: .val (.int x) :: L) (.int x :: S) k n H Q := W_s (rfl : (pj lw).1 30 162 = some (.iload_n 2, 1, 0)) rfl rfl rfl
theorem w30_163 {x : Int32} {l0 l1 l2 l3 l4 l5 : Slot} : W (pj lw) 30 163 (l0 :: l1 :: l2 :: l3 :: l4 :: l5 :: .val (.int x) :: L) S k n H Q ↔ W (pj lw) 30 165 (l0 :: l1 :: l2 :: l3 :: l4 :: l5 :: .val (.int x) :: L) (.int x :: S) k n H Q := W_s (rfl : (pj lw).1 30 163 = some (.iload 6, 2, 0)) rfl rfl rfl
theorem w30_165 {x y : Int32} : W (pj lw) 30 165 L (.int y :: .int x :: S) k n H Q ↔ (if x < y then W (pj lw) 30 175 L S k n H Q else W (pj lw) 30 168 L S k n H Q) := W_icmp_lt (rfl : (pj lw).1 30 165 = some (.if_icmp .lt 10, 3, 0)) rfl
theorem w30_168 {x : Int32} {l0 l1 : Slot} : W (pj lw) 30 168 (l0 :: l1 :: .val (.int x) :: L) S k n H Q ↔ W (pj lw) 30 169 (l0 :: l1 :: .val (.int x) :: L) (.int x :: S) k n H Q := W_s (rfl : (pj lw).1 30 168 = some (.iload_n 2, 1, 0)) rfl rfl rfl
theorem w30_169 {x : Int32} {l0 l1 l2 l3 l4 l5 : Slot} : W (pj lw) 30 169 (l0 :: l1 :: l2 :: l3 :: l4 :: l5 :: .val (.int x) :: L) S k n H Q ↔ W (pj lw) 30 171 (l0 :: l1 :: l2 :: l3 :: l4 :: l5 :: .val (.int x) :: L) (.int x :: S) k n H Q := W_s (rfl : (pj lw).1 30 169 = some (.iload 6, 2, 0)) rfl rfl rfl
theorem w30_171 {x y : Int32} : W (pj lw) 30 171 L (.int y :: .int x :: S) k n H Q ↔ W (pj lw) 30 172 L (.int (x - y) :: S) k n H Q := W_s (rfl : (pj lw).1 30 171 = some (.isub, 1, 0)) rfl rfl rfl
theorem w30_172 : W (pj lw) 30 172 L S k n H Q ↔ W (pj lw) 30 179 L S k n H Q := W_goto (rfl : (pj lw).1 30 172 = some (.goto 7, 3, 0)) rfl
theorem w30_175 {x : Int32} {l0 l1 l2 l3 l4 l5 : Slot} : W (pj lw) 30 175 (l0 :: l1 :: l2 :: l3 :: l4 :: l5 :: .val (.int x) :: L) S k n H Q ↔ W (pj lw) 30 177 (l0 :: l1 :: l2 :: l3 :: l4 :: l5 :: .val (.int x) :: L) (.int x :: S) k n H Q := W_s (rfl : (pj lw).1 30 175 = some (.iload 6, 2, 0)) rfl rfl rfl
theorem w30_177 {x : Int32} {l0 l1 : Slot} : W (pj lw) 30 177 (l0 :: l1 :: .val (.int x) :: L) S k n H Q ↔ W (pj lw) 30 178 (l0 :: l1 :: .val (.int x) :: L) (.int x :: S) k n H Q := W_s (rfl : (pj lw).1 30 177 = some (.iload_n 2, 1, 0)) rfl rfl rfl
theorem w30_178 {x y : Int32} : W (pj lw) 30 178 L (.int y :: .int x :: S) k n H Q ↔ W (pj lw) 30 179 L (.int (x - y) :: S) k n H Q := W_s (rfl : (pj lw).1 30 178 = some (.isub, 1, 0)) rfl rfl rfl
theorem w30_179 {x : Int32} {l0 l1 l2 l3 l4 l5 l6 l7 : Slot} : W (pj lw) 30 179 (l0 :: l1 :: l2 :: l3 :: l4 :: l5 :: l6 :: l7 :: .unset :: L) (.int x :: S) k n H Q ↔ W (pj lw) 30 181 (l0 :: l1 :: l2 :: l3 :: l4 :: l5 :: l6 :: l7 :: .val (.int x) :: L) S k n H Q := W_ist (rfl : (pj lw).1 30 179 = some (.istore 8, 2, 0)) rfl rfl
theorem w30_181 : W (pj lw) 30 181 L S k n H Q ↔ W (pj lw) 30 182 L (.int 2 :: S) k n H Q := W_s (rfl : (pj lw).1 30 181 = some (.iconst 2, 1, 0)) rfl rfl rfl
theorem w30_182 {x : Int32} {l0 l1 l2 l3 l4 l5 l6 l7 : Slot} : W (pj lw) 30 182 (l0 :: l1 :: l2 :: l3 :: l4 :: l5 :: l6 :: l7 :: .val (.int x) :: L) S k n H Q ↔ W (pj lw) 30 184 (l0 :: l1 :: l2 :: l3 :: l4 :: l5 :: l6 :: l7 :: .val (.int x) :: L) (.int x :: S) k n H Q := W_s (rfl : (pj lw).1 30 182 = some (.iload 8, 2, 0)) rfl rfl rfl
theorem w30_184 {x y : Int32} : W (pj lw) 30 184 L (.int y :: .int x :: S) k n H Q ↔ W (pj lw) 30 185 L (.int (x * y) :: S) k n H Q := W_s (rfl : (pj lw).1 30 184 = some (.imul, 1, 0)) rfl rfl rfl
theorem w30_185 {x : Int32} {l0 l1 l2 l3 l4 l5 l6 l7 l8 : Slot} : W (pj lw) 30 185 (l0 :: l1 :: l2 :: l3 :: l4 :: l5 :: l6 :: l7 :: l8 :: .unset :: L) (.int x :: S) k n H Q ↔ W (pj lw) 30 187 (l0 :: l1 :: l2 :: l3 :: l4 :: l5 :: l6 :: l7 :: l8 :: .val (.int x) :: L) S k n H Q := W_ist (rfl : (pj lw).1 30 185 = some (.istore 9, 2, 0)) rfl rfl
theorem w30_187 {x : Nat} : W (pj lw) 30 187 (.val (.ref x) :: L) S k n H Q ↔ W (pj lw) 30 188 (.val (.ref x) :: L) (.ref x :: S) k n H Q := W_s (rfl : (pj lw).1 30 187 = some (.aload_n 0, 1, 0)) rfl rfl rfl
theorem w30_188 {a : Nat} : W (pj lw) 30 188 L (.ref a :: S) k n H Q ↔ (isO H a = true ∧ W (pj lw) 30 191 L (fld H a 9 :: S) k n H Q) := W_getf (rfl : (pj lw).1 30 188 = some (.getfield 19, 3, 9))
theorem w30_191 {x : Int32} {l0 : Slot} : W (pj lw) 30 191 (l0 :: .val (.int x) :: L) S k n H Q ↔ W (pj lw) 30 192 (l0 :: .val (.int x) :: L) (.int x :: S) k n H Q := W_s (rfl : (pj lw).1 30 191 = some (.iload_n 1, 1, 0)) rfl rfl rfl
theorem w30_192 {i : Int32} {a : Nat} : W (pj lw) 30 192 L (.int i :: .ref a :: S) k n H Q ↔ (inA H a .int i = true ∧ W (pj lw) 30 193 L (elt H a i :: S) k n H Q) := W_iaload (rfl : (pj lw).1 30 192 = some (.iaload, 1, 0))
theorem w30_193 {x : Nat} : W (pj lw) 30 193 (.val (.ref x) :: L) S k n H Q ↔ W (pj lw) 30 194 (.val (.ref x) :: L) (.ref x :: S) k n H Q := W_s (rfl : (pj lw).1 30 193 = some (.aload_n 0, 1, 0)) rfl rfl rfl
theorem w30_194 {a : Nat} : W (pj lw) 30 194 L (.ref a :: S) k n H Q ↔ (isO H a = true ∧ W (pj lw) 30 197 L (fld H a 2 :: S) k n H Q) := W_getf (rfl : (pj lw).1 30 194 = some (.getfield 60, 3, 2))
theorem w30_197 {x y : Int32} : W (pj lw) 30 197 L (.int y :: .int x :: S) k n H Q ↔ (if x = y then W (pj lw) 30 200 L S k n H Q else W (pj lw) 30 203 L S k n H Q) := W_icmp_ne (rfl : (pj lw).1 30 197 = some (.if_icmp .ne 6, 3, 0)) rfl
theorem w30_200 {x : Int32} {l0 l1 l2 l3 l4 l5 l6 l7 l8 : Slot} : W (pj lw) 30 200 (l0 :: l1 :: l2 :: l3 :: l4 :: l5 :: l6 :: l7 :: l8 :: .val (.int x) :: L) S k n H Q ↔ W (pj lw) 30 203 (l0 :: l1 :: l2 :: l3 :: l4 :: l5 :: l6 :: l7 :: l8 :: .val (.int (x + 64)) :: L) S k n H Q := W_s (rfl : (pj lw).1 30 200 = some (.iinc 9 64, 3, 0)) rfl rfl rfl
theorem w30_203 {x : Int32} {l0 l1 l2 l3 l4 l5 l6 l7 l8 : Slot} : W (pj lw) 30 203 (l0 :: l1 :: l2 :: l3 :: l4 :: l5 :: l6 :: l7 :: l8 :: .val (.int x) :: L) S k n H Q ↔ W (pj lw) 30 205 (l0 :: l1 :: l2 :: l3 :: l4 :: l5 :: l6 :: l7 :: l8 :: .val (.int x) :: L) (.int x :: S) k n H Q := W_s (rfl : (pj lw).1 30 203 = some (.iload 9, 2, 0)) rfl rfl rfl
theorem w30_205 {x : Int32} : W (pj lw) 30 205 L (.int x :: S) k n H Q ↔ Q (some (.int x)) H := W_r (rfl : (pj lw).1 30 205 = some (.ireturn, 1, 0)) rfl
theorem c31 {x0 : Nat} {x1 : Int32} : Cl (pj lw) 31 [.ref x0, .int x1] H Q ↔ W (pj lw) 31 0 [.val (.ref x0), .val (.int x1), .unset] [] 0 0 H Q := cl_unf rfl
theorem w31_0 {x : Nat} : W (pj lw) 31 0 (.val (.ref x) :: L) S k n H Q ↔ W (pj lw) 31 1 (.val (.ref x) :: L) (.ref x :: S) k n H Q := W_s (rfl : (pj lw).1 31 0 = some (.aload_n 0, 1, 0)) rfl rfl rfl
theorem w31_1 {a : Nat} : W (pj lw) 31 1 L (.ref a :: S) k n H Q ↔ (isO H a = true ∧ W (pj lw) 31 4 L (fld H a 7 :: S) k n H Q) := W_getf (rfl : (pj lw).1 31 1 = some (.getfield 13, 3, 7))
theorem w31_4 {x : Int32} {l0 : Slot} : W (pj lw) 31 4 (l0 :: .val (.int x) :: L) S k n H Q ↔ W (pj lw) 31 5 (l0 :: .val (.int x) :: L) (.int x :: S) k n H Q := W_s (rfl : (pj lw).1 31 4 = some (.iload_n 1, 1, 0)) rfl rfl rfl
theorem w31_5 {i : Int32} {a : Nat} : W (pj lw) 31 5 L (.int i :: .ref a :: S) k n H Q ↔ (inA H a .int i = true ∧ W (pj lw) 31 6 L (elt H a i :: S) k n H Q) := W_iaload (rfl : (pj lw).1 31 5 = some (.iaload, 1, 0))
theorem w31_6 {x : Int32} {l0 l1 : Slot} : W (pj lw) 31 6 (l0 :: l1 :: .unset :: L) (.int x :: S) k n H Q ↔ W (pj lw) 31 7 (l0 :: l1 :: .val (.int x) :: L) S k n H Q := W_istn (rfl : (pj lw).1 31 6 = some (.istore_n 2, 1, 0)) rfl rfl
theorem w31_7 {x : Int32} {l0 l1 : Slot} : W (pj lw) 31 7 (l0 :: l1 :: .val (.int x) :: L) S k n H Q ↔ W (pj lw) 31 8 (l0 :: l1 :: .val (.int x) :: L) (.int x :: S) k n H Q := W_s (rfl : (pj lw).1 31 7 = some (.iload_n 2, 1, 0)) rfl rfl rfl
theorem w31_8 {x : Int32} : W (pj lw) 31 8 L (.int x :: S) k n H Q ↔ (if x = 0 then W (pj lw) 31 11 L S k n H Q else W (pj lw) 31 19 L S k n H Q) := W_if_ne (rfl : (pj lw).1 31 8 = some (.ifCond .ne 11, 3, 0)) rfl
theorem w31_11 {x : Nat} : W (pj lw) 31 11 (.val (.ref x) :: L) S k n H Q ↔ W (pj lw) 31 12 (.val (.ref x) :: L) (.ref x :: S) k n H Q := W_s (rfl : (pj lw).1 31 11 = some (.aload_n 0, 1, 0)) rfl rfl rfl
theorem w31_12 {x : Int32} {l0 : Slot} : W (pj lw) 31 12 (l0 :: .val (.int x) :: L) S k n H Q ↔ W (pj lw) 31 13 (l0 :: .val (.int x) :: L) (.int x :: S) k n H Q := W_s (rfl : (pj lw).1 31 12 = some (.iload_n 1, 1, 0)) rfl rfl rfl
theorem w31_13 {a : Nat} {x0 : Int32} : W (pj lw) 31 13 L (.int x0 :: .ref a :: S) k n H Q ↔ ((isO H a = true ∧ cs S + (3 + 11) + 89 ≤ 105) ∧ Cl (pj lw) 32 [.ref a, .int x0] H (fun v H => W (pj lw) 31 16 L (v.toList ++ S) k n H Q)) := W_inst (as := [.int x0]) (rfl : (pj lw).1 31 13 = some (.invokevirtual 124, 3, 32)) rfl rfl rfl (Nat.le_of_ble_eq_true rfl) (Nat.le_of_ble_eq_true rfl) ⟨rfl, rfl⟩
theorem w31_16 : W (pj lw) 31 16 L S k n H Q ↔ W (pj lw) 31 55 L S k n H Q := W_goto (rfl : (pj lw).1 31 16 = some (.goto 39, 3, 0)) rfl
theorem w31_19 {x : Int32} {l0 l1 : Slot} : W (pj lw) 31 19 (l0 :: l1 :: .val (.int x) :: L) S k n H Q ↔ W (pj lw) 31 20 (l0 :: l1 :: .val (.int x) :: L) (.int x :: S) k n H Q := W_s (rfl : (pj lw).1 31 19 = some (.iload_n 2, 1, 0)) rfl rfl rfl
theorem w31_20 : W (pj lw) 31 20 L S k n H Q ↔ W (pj lw) 31 21 L (.int 3 :: S) k n H Q := W_s (rfl : (pj lw).1 31 20 = some (.iconst 3, 1, 0)) rfl rfl rfl
theorem w31_21 {x y : Int32} : W (pj lw) 31 21 L (.int y :: .int x :: S) k n H Q ↔ (if x = y then W (pj lw) 31 24 L S k n H Q else W (pj lw) 31 32 L S k n H Q) := W_icmp_ne (rfl : (pj lw).1 31 21 = some (.if_icmp .ne 11, 3, 0)) rfl
theorem w31_24 {x : Nat} : W (pj lw) 31 24 (.val (.ref x) :: L) S k n H Q ↔ W (pj lw) 31 25 (.val (.ref x) :: L) (.ref x :: S) k n H Q := W_s (rfl : (pj lw).1 31 24 = some (.aload_n 0, 1, 0)) rfl rfl rfl
theorem w31_25 {x : Int32} {l0 : Slot} : W (pj lw) 31 25 (l0 :: .val (.int x) :: L) S k n H Q ↔ W (pj lw) 31 26 (l0 :: .val (.int x) :: L) (.int x :: S) k n H Q := W_s (rfl : (pj lw).1 31 25 = some (.iload_n 1, 1, 0)) rfl rfl rfl
theorem w31_26 {a : Nat} {x0 : Int32} : W (pj lw) 31 26 L (.int x0 :: .ref a :: S) k n H Q ↔ ((isO H a = true ∧ cs S + (6 + 11) + 74 ≤ 105) ∧ Cl (pj lw) 33 [.ref a, .int x0] H (fun v H => W (pj lw) 31 29 L (v.toList ++ S) k n H Q)) := W_inst (as := [.int x0]) (rfl : (pj lw).1 31 26 = some (.invokevirtual 127, 3, 33)) rfl rfl rfl (Nat.le_of_ble_eq_true rfl) (Nat.le_of_ble_eq_true rfl) ⟨rfl, rfl⟩
theorem w31_29 : W (pj lw) 31 29 L S k n H Q ↔ W (pj lw) 31 55 L S k n H Q := W_goto (rfl : (pj lw).1 31 29 = some (.goto 26, 3, 0)) rfl
theorem w31_32 {x : Int32} {l0 l1 : Slot} : W (pj lw) 31 32 (l0 :: l1 :: .val (.int x) :: L) S k n H Q ↔ W (pj lw) 31 33 (l0 :: l1 :: .val (.int x) :: L) (.int x :: S) k n H Q := W_s (rfl : (pj lw).1 31 32 = some (.iload_n 2, 1, 0)) rfl rfl rfl
theorem w31_33 : W (pj lw) 31 33 L S k n H Q ↔ W (pj lw) 31 34 L (.int 1 :: S) k n H Q := W_s (rfl : (pj lw).1 31 33 = some (.iconst 1, 1, 0)) rfl rfl rfl
theorem w31_34 {x y : Int32} : W (pj lw) 31 34 L (.int y :: .int x :: S) k n H Q ↔ (if x = y then W (pj lw) 31 37 L S k n H Q else W (pj lw) 31 45 L S k n H Q) := W_icmp_ne (rfl : (pj lw).1 31 34 = some (.if_icmp .ne 11, 3, 0)) rfl
theorem w31_37 {x : Nat} : W (pj lw) 31 37 (.val (.ref x) :: L) S k n H Q ↔ W (pj lw) 31 38 (.val (.ref x) :: L) (.ref x :: S) k n H Q := W_s (rfl : (pj lw).1 31 37 = some (.aload_n 0, 1, 0)) rfl rfl rfl
theorem w31_38 {x : Int32} {l0 : Slot} : W (pj lw) 31 38 (l0 :: .val (.int x) :: L) S k n H Q ↔ W (pj lw) 31 39 (l0 :: .val (.int x) :: L) (.int x :: S) k n H Q := W_s (rfl : (pj lw).1 31 38 = some (.iload_n 1, 1, 0)) rfl rfl rfl
theorem w31_39 {a : Nat} {x0 : Int32} : W (pj lw) 31 39 L (.int x0 :: .ref a :: S) k n H Q ↔ ((isO H a = true ∧ cs S + (5 + 11) + 89 ≤ 105) ∧ Cl (pj lw) 34 [.ref a, .int x0] H (fun v H => W (pj lw) 31 42 L (v.toList ++ S) k n H Q)) := W_inst (as := [.int x0]) (rfl : (pj lw).1 31 39 = some (.invokevirtual 130, 3, 34)) rfl rfl rfl (Nat.le_of_ble_eq_true rfl) (Nat.le_of_ble_eq_true rfl) ⟨rfl, rfl⟩
theorem w31_42 : W (pj lw) 31 42 L S k n H Q ↔ W (pj lw) 31 55 L S k n H Q := W_goto (rfl : (pj lw).1 31 42 = some (.goto 13, 3, 0)) rfl
theorem w31_45 {x : Int32} {l0 l1 : Slot} : W (pj lw) 31 45 (l0 :: l1 :: .val (.int x) :: L) S k n H Q ↔ W (pj lw) 31 46 (l0 :: l1 :: .val (.int x) :: L) (.int x :: S) k n H Q := W_s (rfl : (pj lw).1 31 45 = some (.iload_n 2, 1, 0)) rfl rfl rfl
theorem w31_46 : W (pj lw) 31 46 L S k n H Q ↔ W (pj lw) 31 47 L (.int 2 :: S) k n H Q := W_s (rfl : (pj lw).1 31 46 = some (.iconst 2, 1, 0)) rfl rfl rfl
theorem w31_47 {x y : Int32} : W (pj lw) 31 47 L (.int y :: .int x :: S) k n H Q ↔ (if x = y then W (pj lw) 31 50 L S k n H Q else W (pj lw) 31 55 L S k n H Q) := W_icmp_ne (rfl : (pj lw).1 31 47 = some (.if_icmp .ne 8, 3, 0)) rfl
theorem w31_50 {x : Nat} : W (pj lw) 31 50 (.val (.ref x) :: L) S k n H Q ↔ W (pj lw) 31 51 (.val (.ref x) :: L) (.ref x :: S) k n H Q := W_s (rfl : (pj lw).1 31 50 = some (.aload_n 0, 1, 0)) rfl rfl rfl
theorem w31_51 {x : Int32} {l0 : Slot} : W (pj lw) 31 51 (l0 :: .val (.int x) :: L) S k n H Q ↔ W (pj lw) 31 52 (l0 :: .val (.int x) :: L) (.int x :: S) k n H Q := W_s (rfl : (pj lw).1 31 51 = some (.iload_n 1, 1, 0)) rfl rfl rfl
theorem w31_52 {a : Nat} {x0 : Int32} : W (pj lw) 31 52 L (.int x0 :: .ref a :: S) k n H Q ↔ ((isO H a = true ∧ cs S + (3 + 11) + 89 ≤ 105) ∧ Cl (pj lw) 37 [.ref a, .int x0] H (fun v H => W (pj lw) 31 55 L (v.toList ++ S) k n H Q)) := W_inst (as := [.int x0]) (rfl : (pj lw).1 31 52 = some (.invokevirtual 133, 3, 37)) rfl rfl rfl (Nat.le_of_ble_eq_true rfl) (Nat.le_of_ble_eq_true rfl) ⟨rfl, rfl⟩
theorem w31_55 : W (pj lw) 31 55 L [] k n H Q ↔ Q none H := W_r (rfl : (pj lw).1 31 55 = some (.return_, 1, 0)) rfl
theorem c32 {x0 : Nat} {x1 : Int32} : Cl (pj lw) 32 [.ref x0, .int x1] H Q ↔ W (pj lw) 32 0 [.val (.ref x0), .val (.int x1), .unset] [] 0 0 H Q := cl_unf rfl
theorem w32_0 {x : Nat} : W (pj lw) 32 0 (.val (.ref x) :: L) S k n H Q ↔ W (pj lw) 32 1 (.val (.ref x) :: L) (.ref x :: S) k n H Q := W_s (rfl : (pj lw).1 32 0 = some (.aload_n 0, 1, 0)) rfl rfl rfl
theorem w32_1 {x : Int32} {l0 : Slot} : W (pj lw) 32 1 (l0 :: .val (.int x) :: L) S k n H Q ↔ W (pj lw) 32 2 (l0 :: .val (.int x) :: L) (.int x :: S) k n H Q := W_s (rfl : (pj lw).1 32 1 = some (.iload_n 1, 1, 0)) rfl rfl rfl
theorem w32_2 {a : Nat} {x0 : Int32} : W (pj lw) 32 2 L (.int x0 :: .ref a :: S) k n H Q ↔ ((isO H a = true ∧ cs S + (4 + 11) + 74 ≤ 89) ∧ Cl (pj lw) 25 [.ref a, .int x0] H (fun v H => W (pj lw) 32 5 L (v.toList ++ S) k n H Q)) := W_inst (as := [.int x0]) (rfl : (pj lw).1 32 2 = some (.invokevirtual 136, 3, 25)) rfl rfl rfl (Nat.le_of_ble_eq_true rfl) (Nat.le_of_ble_eq_true rfl) ⟨rfl, rfl⟩
theorem w32_5 {x : Int32} {l0 l1 : Slot} : W (pj lw) 32 5 (l0 :: l1 :: .unset :: L) (.int x :: S) k n H Q ↔ W (pj lw) 32 6 (l0 :: l1 :: .val (.int x) :: L) S k n H Q := W_istn (rfl : (pj lw).1 32 5 = some (.istore_n 2, 1, 0)) rfl rfl
theorem w32_6 {x : Nat} : W (pj lw) 32 6 (.val (.ref x) :: L) S k n H Q ↔ W (pj lw) 32 7 (.val (.ref x) :: L) (.ref x :: S) k n H Q := W_s (rfl : (pj lw).1 32 6 = some (.aload_n 0, 1, 0)) rfl rfl rfl
theorem w32_7 {a : Nat} : W (pj lw) 32 7 L (.ref a :: S) k n H Q ↔ (isO H a = true ∧ W (pj lw) 32 10 L (fld H a 8 :: S) k n H Q) := W_getf (rfl : (pj lw).1 32 7 = some (.getfield 16, 3, 8))
theorem w32_10 {x : Int32} {l0 : Slot} : W (pj lw) 32 10 (l0 :: .val (.int x) :: L) S k n H Q ↔ W (pj lw) 32 11 (l0 :: .val (.int x) :: L) (.int x :: S) k n H Q := W_s (rfl : (pj lw).1 32 10 = some (.iload_n 1, 1, 0)) rfl rfl rfl
theorem w32_11 {x : Int32} {l0 l1 : Slot} : W (pj lw) 32 11 (l0 :: l1 :: .val (.int x) :: L) S k n H Q ↔ W (pj lw) 32 12 (l0 :: l1 :: .val (.int x) :: L) (.int x :: S) k n H Q := W_s (rfl : (pj lw).1 32 11 = some (.iload_n 2, 1, 0)) rfl rfl rfl
theorem w32_12 {x i : Int32} {a : Nat} : W (pj lw) 32 12 L (.int x :: .int i :: .ref a :: S) k n H Q ↔ (inAw H a .int i = true ∧ W (pj lw) 32 13 L S k n (wr H a i.toNatClampNeg (.int x)) Q) := W_iastore (rfl : (pj lw).1 32 12 = some (.iastore, 1, 0))
theorem w32_13 {x : Int32} {l0 l1 : Slot} : W (pj lw) 32 13 (l0 :: l1 :: .val (.int x) :: L) S k n H Q ↔ W (pj lw) 32 14 (l0 :: l1 :: .val (.int x) :: L) (.int x :: S) k n H Q := W_s (rfl : (pj lw).1 32 13 = some (.iload_n 2, 1, 0)) rfl rfl rfl
theorem w32_14 {x : Int32} : W (pj lw) 32 14 L (.int x :: S) k n H Q ↔ (if x = 0 then W (pj lw) 32 17 L S k n H Q else W (pj lw) 32 18 L S k n H Q) := W_if_ne (rfl : (pj lw).1 32 14 = some (.ifCond .ne 4, 3, 0)) rfl
theorem w32_17 : W (pj lw) 32 17 L [] k n H Q ↔ Q none H := W_r (rfl : (pj lw).1 32 17 = some (.return_, 1, 0)) rfl
theorem w32_18 {x : Nat} : W (pj lw) 32 18 (.val (.ref x) :: L) S k n H Q ↔ W (pj lw) 32 19 (.val (.ref x) :: L) (.ref x :: S) k n H Q := W_s (rfl : (pj lw).1 32 18 = some (.aload_n 0, 1, 0)) rfl rfl rfl
theorem w32_19 {x : Int32} {l0 : Slot} : W (pj lw) 32 19 (l0 :: .val (.int x) :: L) S k n H Q ↔ W (pj lw) 32 20 (l0 :: .val (.int x) :: L) (.int x :: S) k n H Q := W_s (rfl : (pj lw).1 32 19 = some (.iload_n 1, 1, 0)) rfl rfl rfl
theorem w32_20 {a : Nat} {x0 : Int32} : W (pj lw) 32 20 L (.int x0 :: .ref a :: S) k n H Q ↔ ((isO H a = true ∧ cs S + (2 + 11) + 0 ≤ 89) ∧ Cl (pj lw) 24 [.ref a, .int x0] H (fun v H => W (pj lw) 32 23 L (v.toList ++ S) k n H Q)) := W_inst (as := [.int x0]) (rfl : (pj lw).1 32 20 = some (.invokevirtual 139, 3, 24)) rfl rfl rfl (Nat.le_of_ble_eq_true rfl) (Nat.le_of_ble_eq_true rfl) ⟨rfl, rfl⟩
theorem w32_23 {x : Int32} : W (pj lw) 32 23 L (.int x :: S) k n H Q ↔ (if x = 0 then W (pj lw) 32 57 L S k n H Q else W (pj lw) 32 26 L S k n H Q) := W_if_eq (rfl : (pj lw).1 32 23 = some (.ifCond .eq 34, 3, 0)) rfl
theorem w32_26 {x : Nat} : W (pj lw) 32 26 (.val (.ref x) :: L) S k n H Q ↔ W (pj lw) 32 27 (.val (.ref x) :: L) (.ref x :: S) k n H Q := W_s (rfl : (pj lw).1 32 26 = some (.aload_n 0, 1, 0)) rfl rfl rfl
theorem w32_27 {x : Nat} : W (pj lw) 32 27 (.val (.ref x) :: L) S k n H Q ↔ W (pj lw) 32 28 (.val (.ref x) :: L) (.ref x :: S) k n H Q := W_s (rfl : (pj lw).1 32 27 = some (.aload_n 0, 1, 0)) rfl rfl rfl
theorem w32_28 {a : Nat} : W (pj lw) 32 28 L (.ref a :: S) k n H Q ↔ (isO H a = true ∧ W (pj lw) 32 31 L (fld H a 6 :: S) k n H Q) := W_getf (rfl : (pj lw).1 32 28 = some (.getfield 7, 3, 6))
theorem w32_31 {x : Int32} {l0 : Slot} : W (pj lw) 32 31 (l0 :: .val (.int x) :: L) S k n H Q ↔ W (pj lw) 32 32 (l0 :: .val (.int x) :: L) (.int x :: S) k n H Q := W_s (rfl : (pj lw).1 32 31 = some (.iload_n 1, 1, 0)) rfl rfl rfl
theorem w32_32 {i : Int32} {a : Nat} : W (pj lw) 32 32 L (.int i :: .ref a :: S) k n H Q ↔ (inA H a .int i = true ∧ W (pj lw) 32 33 L (elt H a i :: S) k n H Q) := W_iaload (rfl : (pj lw).1 32 32 = some (.iaload, 1, 0))
theorem w32_33 {x : Int32} {l0 l1 : Slot} : W (pj lw) 32 33 (l0 :: l1 :: .val (.int x) :: L) S k n H Q ↔ W (pj lw) 32 34 (l0 :: l1 :: .val (.int x) :: L) (.int x :: S) k n H Q := W_s (rfl : (pj lw).1 32 33 = some (.iload_n 2, 1, 0)) rfl rfl rfl
theorem w32_34 {a : Nat} {x0 : Int32} {x1 : Int32} : W (pj lw) 32 34 L (.int x1 :: .int x0 :: .ref a :: S) k n H Q ↔ ((isO H a = true ∧ cs S + (4 + 11) + 13 ≤ 89) ∧ Cl (pj lw) 19 [.ref a, .int x0, .int x1] H (fun v H => W (pj lw) 32 37 L (v.toList ++ S) k n H Q)) := W_inst (as := [.int x0, .int x1]) (rfl : (pj lw).1 32 34 = some (.invokevirtual 79, 3, 19)) rfl rfl rfl (Nat.le_of_ble_eq_true rfl) (Nat.le_of_ble_eq_true rfl) ⟨rfl, rfl⟩
theorem w32_37 {x : Int32} : W (pj lw) 32 37 L (.int x :: S) k n H Q ↔ (if x = 0 then W (pj lw) 32 57 L S k n H Q else W (pj lw) 32 40 L S k n H Q) := W_if_eq (rfl : (pj lw).1 32 37 = some (.ifCond .eq 20, 3, 0)) rfl
theorem w32_40 {x : Nat} : W (pj lw) 32 40 (.val (.ref x) :: L) S k n H Q ↔ W (pj lw) 32 41 (.val (.ref x) :: L) (.ref x :: S) k n H Q := W_s (rfl : (pj lw).1 32 40 = some (.aload_n 0, 1, 0)) rfl rfl rfl
theorem w32_41 {a : Nat} : W (pj lw) 32 41 L (.ref a :: S) k n H Q ↔ (isO H a = true ∧ W (pj lw) 32 44 L (fld H a 7 :: S) k n H Q) := W_getf (rfl : (pj lw).1 32 41 = some (.getfield 13, 3, 7))
theorem w32_44 {x : Int32} {l0 : Slot} : W (pj lw) 32 44 (l0 :: .val (.int x) :: L) S k n H Q ↔ W (pj lw) 32 45 (l0 :: .val (.int x) :: L) (.int x :: S) k n H Q := W_s (rfl : (pj lw).1 32 44 = some (.iload_n 1, 1, 0)) rfl rfl rfl
theorem w32_45 : W (pj lw) 32 45 L S k n H Q ↔ W (pj lw) 32 46 L (.int 1 :: S) k n H Q := W_s (rfl : (pj lw).1 32 45 = some (.iconst 1, 1, 0)) rfl rfl rfl
theorem w32_46 {x i : Int32} {a : Nat} : W (pj lw) 32 46 L (.int x :: .int i :: .ref a :: S) k n H Q ↔ (inAw H a .int i = true ∧ W (pj lw) 32 47 L S k n (wr H a i.toNatClampNeg (.int x)) Q) := W_iastore (rfl : (pj lw).1 32 46 = some (.iastore, 1, 0))
theorem w32_47 {x : Nat} : W (pj lw) 32 47 (.val (.ref x) :: L) S k n H Q ↔ W (pj lw) 32 48 (.val (.ref x) :: L) (.ref x :: S) k n H Q := W_s (rfl : (pj lw).1 32 47 = some (.aload_n 0, 1, 0)) rfl rfl rfl
theorem w32_48 {a : Nat} : W (pj lw) 32 48 L (.ref a :: S) k n H Q ↔ (isO H a = true ∧ W (pj lw) 32 51 L (fld H a 10 :: S) k n H Q) := W_getf (rfl : (pj lw).1 32 48 = some (.getfield 22, 3, 10))
theorem w32_51 {x : Int32} {l0 : Slot} : W (pj lw) 32 51 (l0 :: .val (.int x) :: L) S k n H Q ↔ W (pj lw) 32 52 (l0 :: .val (.int x) :: L) (.int x :: S) k n H Q := W_s (rfl : (pj lw).1 32 51 = some (.iload_n 1, 1, 0)) rfl rfl rfl
theorem w32_52 : W (pj lw) 32 52 L S k n H Q ↔ W (pj lw) 32 53 L (.int 3 :: S) k n H Q := W_s (rfl : (pj lw).1 32 52 = some (.iconst 3, 1, 0)) rfl rfl rfl
theorem w32_53 {x i : Int32} {a : Nat} : W (pj lw) 32 53 L (.int x :: .int i :: .ref a :: S) k n H Q ↔ (inAw H a .int i = true ∧ W (pj lw) 32 54 L S k n (wr H a i.toNatClampNeg (.int x)) Q) := W_iastore (rfl : (pj lw).1 32 53 = some (.iastore, 1, 0))
theorem w32_54 : W (pj lw) 32 54 L S k n H Q ↔ W (pj lw) 32 80 L S k n H Q := W_goto (rfl : (pj lw).1 32 54 = some (.goto 26, 3, 0)) rfl
theorem w32_57 {x : Nat} : W (pj lw) 32 57 (.val (.ref x) :: L) S k n H Q ↔ W (pj lw) 32 58 (.val (.ref x) :: L) (.ref x :: S) k n H Q := W_s (rfl : (pj lw).1 32 57 = some (.aload_n 0, 1, 0)) rfl rfl rfl
theorem w32_58 {x : Int32} {l0 : Slot} : W (pj lw) 32 58 (l0 :: .val (.int x) :: L) S k n H Q ↔ W (pj lw) 32 59 (l0 :: .val (.int x) :: L) (.int x :: S) k n H Q := W_s (rfl : (pj lw).1 32 58 = some (.iload_n 1, 1, 0)) rfl rfl rfl
theorem w32_59 {x : Int32} {l0 l1 : Slot} : W (pj lw) 32 59 (l0 :: l1 :: .val (.int x) :: L) S k n H Q ↔ W (pj lw) 32 60 (l0 :: l1 :: .val (.int x) :: L) (.int x :: S) k n H Q := W_s (rfl : (pj lw).1 32 59 = some (.iload_n 2, 1, 0)) rfl rfl rfl
theorem w32_60 {a : Nat} {x0 : Int32} {x1 : Int32} : W (pj lw) 32 60 L (.int x1 :: .int x0 :: .ref a :: S) k n H Q ↔ ((isO H a = true ∧ cs S + (6 + 11) + 57 ≤ 89) ∧ Cl (pj lw) 23 [.ref a, .int x0, .int x1] H (fun v H => W (pj lw) 32 63 L (v.toList ++ S) k n H Q)) := W_inst (as := [.int x0, .int x1]) (rfl : (pj lw).1 32 60 = some (.invokevirtual 104, 3, 23)) rfl rfl rfl (Nat.le_of_ble_eq_true rfl) (Nat.le_of_ble_eq_true rfl) ⟨rfl, rfl⟩
theorem w32_63 {x : Int32} : W (pj lw) 32 63 L (.int x :: S) k n H Q ↔ (if x = 0 then W (pj lw) 32 80 L S k n H Q else W (pj lw) 32 66 L S k n H Q) := W_if_eq (rfl : (pj lw).1 32 63 = some (.ifCond .eq 17, 3, 0)) rfl
theorem w32_66 {x : Nat} : W (pj lw) 32 66 (.val (.ref x) :: L) S k n H Q ↔ W (pj lw) 32 67 (.val (.ref x) :: L) (.ref x :: S) k n H Q := W_s (rfl : (pj lw).1 32 66 = some (.aload_n 0, 1, 0)) rfl rfl rfl
theorem w32_67 {a : Nat} : W (pj lw) 32 67 L (.ref a :: S) k n H Q ↔ (isO H a = true ∧ W (pj lw) 32 70 L (fld H a 7 :: S) k n H Q) := W_getf (rfl : (pj lw).1 32 67 = some (.getfield 13, 3, 7))
theorem w32_70 {x : Int32} {l0 : Slot} : W (pj lw) 32 70 (l0 :: .val (.int x) :: L) S k n H Q ↔ W (pj lw) 32 71 (l0 :: .val (.int x) :: L) (.int x :: S) k n H Q := W_s (rfl : (pj lw).1 32 70 = some (.iload_n 1, 1, 0)) rfl rfl rfl
theorem w32_71 : W (pj lw) 32 71 L S k n H Q ↔ W (pj lw) 32 72 L (.int 3 :: S) k n H Q := W_s (rfl : (pj lw).1 32 71 = some (.iconst 3, 1, 0)) rfl rfl rfl
theorem w32_72 {x i : Int32} {a : Nat} : W (pj lw) 32 72 L (.int x :: .int i :: .ref a :: S) k n H Q ↔ (inAw H a .int i = true ∧ W (pj lw) 32 73 L S k n (wr H a i.toNatClampNeg (.int x)) Q) := W_iastore (rfl : (pj lw).1 32 72 = some (.iastore, 1, 0))
theorem w32_73 {x : Nat} : W (pj lw) 32 73 (.val (.ref x) :: L) S k n H Q ↔ W (pj lw) 32 74 (.val (.ref x) :: L) (.ref x :: S) k n H Q := W_s (rfl : (pj lw).1 32 73 = some (.aload_n 0, 1, 0)) rfl rfl rfl
theorem w32_74 {a : Nat} : W (pj lw) 32 74 L (.ref a :: S) k n H Q ↔ (isO H a = true ∧ W (pj lw) 32 77 L (fld H a 10 :: S) k n H Q) := W_getf (rfl : (pj lw).1 32 74 = some (.getfield 22, 3, 10))
theorem w32_77 {x : Int32} {l0 : Slot} : W (pj lw) 32 77 (l0 :: .val (.int x) :: L) S k n H Q ↔ W (pj lw) 32 78 (l0 :: .val (.int x) :: L) (.int x :: S) k n H Q := W_s (rfl : (pj lw).1 32 77 = some (.iload_n 1, 1, 0)) rfl rfl rfl
theorem w32_78 : W (pj lw) 32 78 L S k n H Q ↔ W (pj lw) 32 79 L (.int 3 :: S) k n H Q := W_s (rfl : (pj lw).1 32 78 = some (.iconst 3, 1, 0)) rfl rfl rfl
theorem w32_79 {x i : Int32} {a : Nat} : W (pj lw) 32 79 L (.int x :: .int i :: .ref a :: S) k n H Q ↔ (inAw H a .int i = true ∧ W (pj lw) 32 80 L S k n (wr H a i.toNatClampNeg (.int x)) Q) := W_iastore (rfl : (pj lw).1 32 79 = some (.iastore, 1, 0))
theorem w32_80 : W (pj lw) 32 80 L [] k n H Q ↔ Q none H := W_r (rfl : (pj lw).1 32 80 = some (.return_, 1, 0)) rfl
theorem c33 {x0 : Nat} {x1 : Int32} : Cl (pj lw) 33 [.ref x0, .int x1] H Q ↔ W (pj lw) 33 0 [.val (.ref x0), .val (.int x1), .unset, .unset, .unset, .unset] [] 0 0 H Q := cl_unf rfl
theorem w33_0 {x : Nat} : W (pj lw) 33 0 (.val (.ref x) :: L) S k n H Q ↔ W (pj lw) 33 1 (.val (.ref x) :: L) (.ref x :: S) k n H Q := W_s (rfl : (pj lw).1 33 0 = some (.aload_n 0, 1, 0)) rfl rfl rfl
theorem w33_1 {a : Nat} : W (pj lw) 33 1 L (.ref a :: S) k n H Q ↔ (isO H a = true ∧ W (pj lw) 33 4 L (fld H a 10 :: S) k n H Q) := W_getf (rfl : (pj lw).1 33 1 = some (.getfield 22, 3, 10))
theorem w33_4 {x : Int32} {l0 : Slot} : W (pj lw) 33 4 (l0 :: .val (.int x) :: L) S k n H Q ↔ W (pj lw) 33 5 (l0 :: .val (.int x) :: L) (.int x :: S) k n H Q := W_s (rfl : (pj lw).1 33 4 = some (.iload_n 1, 1, 0)) rfl rfl rfl
theorem w33_5 {x : Nat} : W (pj lw) 33 5 (.val (.ref x) :: L) S k n H Q ↔ W (pj lw) 33 6 (.val (.ref x) :: L) (.ref x :: S) k n H Q := W_s (rfl : (pj lw).1 33 5 = some (.aload_n 0, 1, 0)) rfl rfl rfl
theorem w33_6 {a : Nat} : W (pj lw) 33 6 L (.ref a :: S) k n H Q ↔ (isO H a = true ∧ W (pj lw) 33 9 L (fld H a 10 :: S) k n H Q) := W_getf (rfl : (pj lw).1 33 6 = some (.getfield 22, 3, 10))
theorem w33_9 {x : Int32} {l0 : Slot} : W (pj lw) 33 9 (l0 :: .val (.int x) :: L) S k n H Q ↔ W (pj lw) 33 10 (l0 :: .val (.int x) :: L) (.int x :: S) k n H Q := W_s (rfl : (pj lw).1 33 9 = some (.iload_n 1, 1, 0)) rfl rfl rfl
theorem w33_10 {i : Int32} {a : Nat} : W (pj lw) 33 10 L (.int i :: .ref a :: S) k n H Q ↔ (inA H a .int i = true ∧ W (pj lw) 33 11 L (elt H a i :: S) k n H Q) := W_iaload (rfl : (pj lw).1 33 10 = some (.iaload, 1, 0))
theorem w33_11 : W (pj lw) 33 11 L S k n H Q ↔ W (pj lw) 33 12 L (.int 1 :: S) k n H Q := W_s (rfl : (pj lw).1 33 11 = some (.iconst 1, 1, 0)) rfl rfl rfl
theorem w33_12 {x y : Int32} : W (pj lw) 33 12 L (.int y :: .int x :: S) k n H Q ↔ W (pj lw) 33 13 L (.int (x - y) :: S) k n H Q := W_s (rfl : (pj lw).1 33 12 = some (.isub, 1, 0)) rfl rfl rfl
theorem w33_13 {x i : Int32} {a : Nat} : W (pj lw) 33 13 L (.int x :: .int i :: .ref a :: S) k n H Q ↔ (inAw H a .int i = true ∧ W (pj lw) 33 14 L S k n (wr H a i.toNatClampNeg (.int x)) Q) := W_iastore (rfl : (pj lw).1 33 13 = some (.iastore, 1, 0))
theorem w33_14 {x : Nat} : W (pj lw) 33 14 (.val (.ref x) :: L) S k n H Q ↔ W (pj lw) 33 15 (.val (.ref x) :: L) (.ref x :: S) k n H Q := W_s (rfl : (pj lw).1 33 14 = some (.aload_n 0, 1, 0)) rfl rfl rfl
theorem w33_15 {a : Nat} : W (pj lw) 33 15 L (.ref a :: S) k n H Q ↔ (isO H a = true ∧ W (pj lw) 33 18 L (fld H a 10 :: S) k n H Q) := W_getf (rfl : (pj lw).1 33 15 = some (.getfield 22, 3, 10))
theorem w33_18 {x : Int32} {l0 : Slot} : W (pj lw) 33 18 (l0 :: .val (.int x) :: L) S k n H Q ↔ W (pj lw) 33 19 (l0 :: .val (.int x) :: L) (.int x :: S) k n H Q := W_s (rfl : (pj lw).1 33 18 = some (.iload_n 1, 1, 0)) rfl rfl rfl
theorem w33_19 {i : Int32} {a : Nat} : W (pj lw) 33 19 L (.int i :: .ref a :: S) k n H Q ↔ (inA H a .int i = true ∧ W (pj lw) 33 20 L (elt H a i :: S) k n H Q) := W_iaload (rfl : (pj lw).1 33 19 = some (.iaload, 1, 0))
theorem w33_20 {x : Int32} : W (pj lw) 33 20 L (.int x :: S) k n H Q ↔ (if 0 < x then W (pj lw) 33 23 L S k n H Q else W (pj lw) 33 24 L S k n H Q) := W_if_le (rfl : (pj lw).1 33 20 = some (.ifCond .le 4, 3, 0)) rfl
theorem w33_23 : W (pj lw) 33 23 L [] k n H Q ↔ Q none H := W_r (rfl : (pj lw).1 33 23 = some (.return_, 1, 0)) rfl
theorem w33_24 {x : Nat} : W (pj lw) 33 24 (.val (.ref x) :: L) S k n H Q ↔ W (pj lw) 33 25 (.val (.ref x) :: L) (.ref x :: S) k n H Q := W_s (rfl : (pj lw).1 33 24 = some (.aload_n 0, 1, 0)) rfl rfl rfl
theorem w33_25 {a : Nat} : W (pj lw) 33 25 L (.ref a :: S) k n H Q ↔ (isO H a = true ∧ W (pj lw) 33 28 L (fld H a 8 :: S) k n H Q) := W_getf (rfl : (pj lw).1 33 25 = some (.getfield 16, 3, 8))
theorem w33_28 {x : Int32} {l0 : Slot} : W (pj lw) 33 28 (l0 :: .val (.int x) :: L) S k n H Q ↔ W (pj lw) 33 29 (l0 :: .val (.int x) :: L) (.int x :: S) k n H Q := W_s (rfl : (pj lw).1 33 28 = some (.iload_n 1, 1, 0)) rfl rfl rfl
theorem w33_29 {i : Int32} {a : Nat} : W (pj lw) 33 29 L (.int i :: .ref a :: S) k n H Q ↔ (inA H a .int i = true ∧ W (pj lw) 33 30 L (elt H a i :: S) k n H Q) := W_iaload (rfl : (pj lw).1 33 29 = some (.iaload, 1, 0))
theorem w33_30 {x : Int32} {l0 l1 : Slot} : W (pj lw) 33 30 (l0 :: l1 :: .unset :: L) (.int x :: S) k n H Q ↔ W (pj lw) 33 31 (l0 :: l1 :: .val (.int x) :: L) S k n H Q := W_istn (rfl : (pj lw).1 33 30 = some (.istore_n 2, 1, 0)) rfl rfl
theorem w33_31 {x : Nat} : W (pj lw) 33 31 (.val (.ref x) :: L) S k n H Q ↔ W (pj lw) 33 32 (.val (.ref x) :: L) (.ref x :: S) k n H Q := W_s (rfl : (pj lw).1 33 31 = some (.aload_n 0, 1, 0)) rfl rfl rfl
theorem w33_32 {a : Nat} : W (pj lw) 33 32 L (.ref a :: S) k n H Q ↔ (isO H a = true ∧ W (pj lw) 33 35 L (fld H a 6 :: S) k n H Q) := W_getf (rfl : (pj lw).1 33 32 = some (.getfield 7, 3, 6))
theorem w33_35 {x : Int32} {l0 : Slot} : W (pj lw) 33 35 (l0 :: .val (.int x) :: L) S k n H Q ↔ W (pj lw) 33 36 (l0 :: .val (.int x) :: L) (.int x :: S) k n H Q := W_s (rfl : (pj lw).1 33 35 = some (.iload_n 1, 1, 0)) rfl rfl rfl
theorem w33_36 {i : Int32} {a : Nat} : W (pj lw) 33 36 L (.int i :: .ref a :: S) k n H Q ↔ (inA H a .int i = true ∧ W (pj lw) 33 37 L (elt H a i :: S) k n H Q) := W_iaload (rfl : (pj lw).1 33 36 = some (.iaload, 1, 0))
theorem w33_37 {x : Int32} {l0 l1 : Slot} : W (pj lw) 33 37 (l0 :: l1 :: .val (.int x) :: L) S k n H Q ↔ W (pj lw) 33 38 (l0 :: l1 :: .val (.int x) :: L) (.int x :: S) k n H Q := W_s (rfl : (pj lw).1 33 37 = some (.iload_n 2, 1, 0)) rfl rfl rfl
theorem w33_38 {x y : Int32} : W (pj lw) 33 38 L (.int y :: .int x :: S) k n H Q ↔ W (pj lw) 33 39 L (.int (x + y) :: S) k n H Q := W_s (rfl : (pj lw).1 33 38 = some (.iadd, 1, 0)) rfl rfl rfl
theorem w33_39 {x : Int32} {l0 l1 l2 : Slot} : W (pj lw) 33 39 (l0 :: l1 :: l2 :: .unset :: L) (.int x :: S) k n H Q ↔ W (pj lw) 33 40 (l0 :: l1 :: l2 :: .val (.int x) :: L) S k n H Q := W_istn (rfl : (pj lw).1 33 39 = some (.istore_n 3, 1, 0)) rfl rfl
theorem w33_40 {x : Nat} : W (pj lw) 33 40 (.val (.ref x) :: L) S k n H Q ↔ W (pj lw) 33 41 (.val (.ref x) :: L) (.ref x :: S) k n H Q := W_s (rfl : (pj lw).1 33 40 = some (.aload_n 0, 1, 0)) rfl rfl rfl
theorem w33_41 {a : Nat} : W (pj lw) 33 41 L (.ref a :: S) k n H Q ↔ (isO H a = true ∧ W (pj lw) 33 44 L (fld H a 6 :: S) k n H Q) := W_getf (rfl : (pj lw).1 33 41 = some (.getfield 7, 3, 6))
theorem w33_44 {x : Int32} {l0 : Slot} : W (pj lw) 33 44 (l0 :: .val (.int x) :: L) S k n H Q ↔ W (pj lw) 33 45 (l0 :: .val (.int x) :: L) (.int x :: S) k n H Q := W_s (rfl : (pj lw).1 33 44 = some (.iload_n 1, 1, 0)) rfl rfl rfl
theorem w33_45 {x : Int32} {l0 l1 l2 : Slot} : W (pj lw) 33 45 (l0 :: l1 :: l2 :: .val (.int x) :: L) S k n H Q ↔ W (pj lw) 33 46 (l0 :: l1 :: l2 :: .val (.int x) :: L) (.int x :: S) k n H Q := W_s (rfl : (pj lw).1 33 45 = some (.iload_n 3, 1, 0)) rfl rfl rfl
theorem w33_46 {x i : Int32} {a : Nat} : W (pj lw) 33 46 L (.int x :: .int i :: .ref a :: S) k n H Q ↔ (inAw H a .int i = true ∧ W (pj lw) 33 47 L S k n (wr H a i.toNatClampNeg (.int x)) Q) := W_iastore (rfl : (pj lw).1 33 46 = some (.iastore, 1, 0))
theorem w33_47 {x : Nat} : W (pj lw) 33 47 (.val (.ref x) :: L) S k n H Q ↔ W (pj lw) 33 48 (.val (.ref x) :: L) (.ref x :: S) k n H Q := W_s (rfl : (pj lw).1 33 47 = some (.aload_n 0, 1, 0)) rfl rfl rfl
theorem w33_48 {x : Int32} {l0 : Slot} : W (pj lw) 33 48 (l0 :: .val (.int x) :: L) S k n H Q ↔ W (pj lw) 33 49 (l0 :: .val (.int x) :: L) (.int x :: S) k n H Q := W_s (rfl : (pj lw).1 33 48 = some (.iload_n 1, 1, 0)) rfl rfl rfl
theorem w33_49 {x : Int32} {l0 l1 : Slot} : W (pj lw) 33 49 (l0 :: l1 :: .val (.int x) :: L) S k n H Q ↔ W (pj lw) 33 50 (l0 :: l1 :: .val (.int x) :: L) (.int x :: S) k n H Q := W_s (rfl : (pj lw).1 33 49 = some (.iload_n 2, 1, 0)) rfl rfl rfl
theorem w33_50 {a : Nat} {x0 : Int32} {x1 : Int32} : W (pj lw) 33 50 L (.int x1 :: .int x0 :: .ref a :: S) k n H Q ↔ ((isO H a = true ∧ cs S + (6 + 11) + 57 ≤ 74) ∧ Cl (pj lw) 23 [.ref a, .int x0, .int x1] H (fun v H => W (pj lw) 33 53 L (v.toList ++ S) k n H Q)) := W_inst (as := [.int x0, .int x1]) (rfl : (pj lw).1 33 50 = some (.invokevirtual 104, 3, 23)) rfl rfl rfl (Nat.le_of_ble_eq_true rfl) (Nat.le_of_ble_eq_true rfl) ⟨rfl, rfl⟩
theorem w33_53 {x : Int32} {l0 l1 l2 l3 : Slot} : W (pj lw) 33 53 (l0 :: l1 :: l2 :: l3 :: .unset :: L) (.int x :: S) k n H Q ↔ W (pj lw) 33 55 (l0 :: l1 :: l2 :: l3 :: .val (.int x) :: L) S k n H Q := W_ist (rfl : (pj lw).1 33 53 = some (.istore 4, 2, 0)) rfl rfl
theorem w33_55 {x : Nat} : W (pj lw) 33 55 (.val (.ref x) :: L) S k n H Q ↔ W (pj lw) 33 56 (.val (.ref x) :: L) (.ref x :: S) k n H Q := W_s (rfl : (pj lw).1 33 55 = some (.aload_n 0, 1, 0)) rfl rfl rfl
theorem w33_56 {x : Int32} {l0 : Slot} : W (pj lw) 33 56 (l0 :: .val (.int x) :: L) S k n H Q ↔ W (pj lw) 33 57 (l0 :: .val (.int x) :: L) (.int x :: S) k n H Q := W_s (rfl : (pj lw).1 33 56 = some (.iload_n 1, 1, 0)) rfl rfl rfl
theorem w33_57 {x : Int32} {l0 l1 l2 : Slot} : W (pj lw) 33 57 (l0 :: l1 :: l2 :: .val (.int x) :: L) S k n H Q ↔ W (pj lw) 33 58 (l0 :: l1 :: l2 :: .val (.int x) :: L) (.int x :: S) k n H Q := W_s (rfl : (pj lw).1 33 57 = some (.iload_n 3, 1, 0)) rfl rfl rfl
theorem w33_58 {a : Nat} {x0 : Int32} {x1 : Int32} : W (pj lw) 33 58 L (.int x1 :: .int x0 :: .ref a :: S) k n H Q ↔ ((isO H a = true ∧ cs S + (4 + 11) + 0 ≤ 74) ∧ Cl (pj lw) 21 [.ref a, .int x0, .int x1] H (fun v H => W (pj lw) 33 61 L (v.toList ++ S) k n H Q)) := W_inst (as := [.int x0, .int x1]) (rfl : (pj lw).1 33 58 = some (.invokevirtual 94, 3, 21)) rfl rfl rfl (Nat.le_of_ble_eq_true rfl) (Nat.le_of_ble_eq_true rfl) ⟨rfl, rfl⟩
theorem w33_61 {x : Int32} : W (pj lw) 33 61 L (.int x :: S) k n H Q ↔ (if x = 0 then W (pj lw) 33 64 L S k n H Q else W (pj lw) 33 98 L S k n H Q) := W_if_ne (rfl : (pj lw).1 33 61 = some (.ifCond .ne 37, 3, 0)) rfl
theorem w33_64 {x : Nat} : W (pj lw) 33 64 (.val (.ref x) :: L) S k n H Q ↔ W (pj lw) 33 65 (.val (.ref x) :: L) (.ref x :: S) k n H Q := W_s (rfl : (pj lw).1 33 64 = some (.aload_n 0, 1, 0)) rfl rfl rfl
theorem w33_65 {x : Int32} {l0 : Slot} : W (pj lw) 33 65 (l0 :: .val (.int x) :: L) S k n H Q ↔ W (pj lw) 33 66 (l0 :: .val (.int x) :: L) (.int x :: S) k n H Q := W_s (rfl : (pj lw).1 33 65 = some (.iload_n 1, 1, 0)) rfl rfl rfl
theorem w33_66 {a : Nat} {x0 : Int32} : W (pj lw) 33 66 L (.int x0 :: .ref a :: S) k n H Q ↔ ((isO H a = true ∧ cs S + (2 + 11) + 0 ≤ 74) ∧ Cl (pj lw) 24 [.ref a, .int x0] H (fun v H => W (pj lw) 33 69 L (v.toList ++ S) k n H Q)) := W_inst (as := [.int x0]) (rfl : (pj lw).1 33 66 = some (.invokevirtual 139, 3, 24)) rfl rfl rfl (Nat.le_of_ble_eq_true rfl) (Nat.le_of_ble_eq_true rfl) ⟨rfl, rfl⟩
theorem w33_69 {x : Int32} : W (pj lw) 33 69 L (.int x :: S) k n H Q ↔ (if x = 0 then W (pj lw) 33 82 L S k n H Q else W (pj lw) 33 72 L S k n H Q) := W_if_eq (rfl : (pj lw).1 33 69 = some (.ifCond .eq 13, 3, 0)) rfl
theorem w33_72 {x : Nat} : W (pj lw) 33 72 (.val (.ref x) :: L) S k n H Q ↔ W (pj lw) 33 73 (.val (.ref x) :: L) (.ref x :: S) k n H Q := W_s (rfl : (pj lw).1 33 72 = some (.aload_n 0, 1, 0)) rfl rfl rfl
theorem w33_73 {x : Int32} {l0 l1 l2 : Slot} : W (pj lw) 33 73 (l0 :: l1 :: l2 :: .val (.int x) :: L) S k n H Q ↔ W (pj lw) 33 74 (l0 :: l1 :: l2 :: .val (.int x) :: L) (.int x :: S) k n H Q := W_s (rfl : (pj lw).1 33 73 = some (.iload_n 3, 1, 0)) rfl rfl rfl
theorem w33_74 {x : Int32} {l0 l1 : Slot} : W (pj lw) 33 74 (l0 :: l1 :: .val (.int x) :: L) S k n H Q ↔ W (pj lw) 33 75 (l0 :: l1 :: .val (.int x) :: L) (.int x :: S) k n H Q := W_s (rfl : (pj lw).1 33 74 = some (.iload_n 2, 1, 0)) rfl rfl rfl
theorem w33_75 {x : Int32} {l0 : Slot} : W (pj lw) 33 75 (l0 :: .val (.int x) :: L) S k n H Q ↔ W (pj lw) 33 76 (l0 :: .val (.int x) :: L) (.int x :: S) k n H Q := W_s (rfl : (pj lw).1 33 75 = some (.iload_n 1, 1, 0)) rfl rfl rfl
theorem w33_76 {a : Nat} {x0 : Int32} {x1 : Int32} {x2 : Int32} : W (pj lw) 33 76 L (.int x2 :: .int x1 :: .int x0 :: .ref a :: S) k n H Q ↔ ((isO H a = true ∧ cs S + (4 + 11) + 28 ≤ 74) ∧ Cl (pj lw) 20 [.ref a, .int x0, .int x1, .int x2] H (fun v H => W (pj lw) 33 79 L (v.toList ++ S) k n H Q)) := W_inst (as := [.int x0, .int x1, .int x2]) (rfl : (pj lw).1 33 76 = some (.invokevirtual 97, 3, 20)) rfl rfl rfl (Nat.le_of_ble_eq_true rfl) (Nat.le_of_ble_eq_true rfl) ⟨rfl, rfl⟩
theorem w33_79 {x : Int32} : W (pj lw) 33 79 L (.int x :: S) k n H Q ↔ (if x = 0 then W (pj lw) 33 82 L S k n H Q else W (pj lw) 33 98 L S k n H Q) := W_if_ne (rfl : (pj lw).1 33 79 = some (.ifCond .ne 19, 3, 0)) rfl
theorem w33_82 {x : Int32} {l0 l1 l2 l3 : Slot} : W (pj lw) 33 82 (l0 :: l1 :: l2 :: l3 :: .val (.int x) :: L) S k n H Q ↔ W (pj lw) 33 84 (l0 :: l1 :: l2 :: l3 :: .val (.int x) :: L) (.int x :: S) k n H Q := W_s (rfl : (pj lw).1 33 82 = some (.iload 4, 2, 0)) rfl rfl rfl
theorem w33_84 {x : Int32} : W (pj lw) 33 84 L (.int x :: S) k n H Q ↔ (if x = 0 then W (pj lw) 33 87 L S k n H Q else W (pj lw) 33 102 L S k n H Q) := W_if_ne (rfl : (pj lw).1 33 84 = some (.ifCond .ne 18, 3, 0)) rfl
theorem w33_87 {x : Nat} : W (pj lw) 33 87 (.val (.ref x) :: L) S k n H Q ↔ W (pj lw) 33 88 (.val (.ref x) :: L) (.ref x :: S) k n H Q := W_s (rfl : (pj lw).1 33 87 = some (.aload_n 0, 1, 0)) rfl rfl rfl
theorem w33_88 {x : Int32} {l0 l1 l2 : Slot} : W (pj lw) 33 88 (l0 :: l1 :: l2 :: .val (.int x) :: L) S k n H Q ↔ W (pj lw) 33 89 (l0 :: l1 :: l2 :: .val (.int x) :: L) (.int x :: S) k n H Q := W_s (rfl : (pj lw).1 33 88 = some (.iload_n 3, 1, 0)) rfl rfl rfl
theorem w33_89 {x : Int32} {l0 l1 : Slot} : W (pj lw) 33 89 (l0 :: l1 :: .val (.int x) :: L) S k n H Q ↔ W (pj lw) 33 90 (l0 :: l1 :: .val (.int x) :: L) (.int x :: S) k n H Q := W_s (rfl : (pj lw).1 33 89 = some (.iload_n 2, 1, 0)) rfl rfl rfl
theorem w33_90 {x : Int32} : W (pj lw) 33 90 L (.int x :: S) k n H Q ↔ W (pj lw) 33 91 L (.int (-x) :: S) k n H Q := W_s (rfl : (pj lw).1 33 90 = some (.ineg, 1, 0)) rfl rfl rfl
theorem w33_91 {x : Int32} {l0 : Slot} : W (pj lw) 33 91 (l0 :: .val (.int x) :: L) S k n H Q ↔ W (pj lw) 33 92 (l0 :: .val (.int x) :: L) (.int x :: S) k n H Q := W_s (rfl : (pj lw).1 33 91 = some (.iload_n 1, 1, 0)) rfl rfl rfl
theorem w33_92 {a : Nat} {x0 : Int32} {x1 : Int32} {x2 : Int32} : W (pj lw) 33 92 L (.int x2 :: .int x1 :: .int x0 :: .ref a :: S) k n H Q ↔ ((isO H a = true ∧ cs S + (4 + 11) + 28 ≤ 74) ∧ Cl (pj lw) 20 [.ref a, .int x0, .int x1, .int x2] H (fun v H => W (pj lw) 33 95 L (v.toList ++ S) k n H Q)) := W_inst (as := [.int x0, .int x1, .int x2]) (rfl : (pj lw).1 33 92 = some (.invokevirtual 97, 3, 20)) rfl rfl rfl (Nat.le_of_ble_eq_true rfl) (Nat.le_of_ble_eq_true rfl) ⟨rfl, rfl⟩
theorem w33_95 {x : Int32} : W (pj lw) 33 95 L (.int x :: S) k n H Q ↔ (if x = 0 then W (pj lw) 33 102 L S k n H Q else W (pj lw) 33 98 L S k n H Q) := W_if_eq (rfl : (pj lw).1 33 95 = some (.ifCond .eq 7, 3, 0)) rfl
theorem w33_98 : W (pj lw) 33 98 L S k n H Q ↔ W (pj lw) 33 99 L (.int 1 :: S) k n H Q := W_s (rfl : (pj lw).1 33 98 = some (.iconst 1, 1, 0)) rfl rfl rfl
theorem w33_99 : W (pj lw) 33 99 L S k n H Q ↔ W (pj lw) 33 103 L S k n H Q := W_goto (rfl : (pj lw).1 33 99 = some (.goto 4, 3, 0)) rfl
theorem w33_102 : W (pj lw) 33 102 L S k n H Q ↔ W (pj lw) 33 103 L (.int 0 :: S) k n H Q := W_s (rfl : (pj lw).1 33 102 = some (.iconst 0, 1, 0)) rfl rfl rfl
theorem w33_103 {x : Int32} {l0 l1 l2 l3 l4 : Slot} : W (pj lw) 33 103 (l0 :: l1 :: l2 :: l3 :: l4 :: .unset :: L) (.int x :: S) k n H Q ↔ W (pj lw) 33 105 (l0 :: l1 :: l2 :: l3 :: l4 :: .val (.int x) :: L) S k n H Q := W_ist (rfl : (pj lw).1 33 103 = some (.istore 5, 2, 0)) rfl rfl
theorem w33_105 {x : Int32} {l0 l1 l2 l3 l4 : Slot} : W (pj lw) 33 105 (l0 :: l1 :: l2 :: l3 :: l4 :: .val (.int x) :: L) S k n H Q ↔ W (pj lw) 33 107 (l0 :: l1 :: l2 :: l3 :: l4 :: .val (.int x) :: L) (.int x :: S) k n H Q := W_s (rfl : (pj lw).1 33 105 = some (.iload 5, 2, 0)) rfl rfl rfl
theorem w33_107 {x : Int32} : W (pj lw) 33 107 L (.int x :: S) k n H Q ↔ (if x = 0 then W (pj lw) 33 127 L S k n H Q else W (pj lw) 33 110 L S k n H Q) := W_if_eq (rfl : (pj lw).1 33 107 = some (.ifCond .eq 20, 3, 0)) rfl
theorem w33_110 {x : Nat} : W (pj lw) 33 110 (.val (.ref x) :: L) S k n H Q ↔ W (pj lw) 33 111 (.val (.ref x) :: L) (.ref x :: S) k n H Q := W_s (rfl : (pj lw).1 33 110 = some (.aload_n 0, 1, 0)) rfl rfl rfl
theorem w33_111 {a : Nat} : W (pj lw) 33 111 L (.ref a :: S) k n H Q ↔ (isO H a = true ∧ W (pj lw) 33 114 L (fld H a 7 :: S) k n H Q) := W_getf (rfl : (pj lw).1 33 111 = some (.getfield 13, 3, 7))
theorem w33_114 {x : Int32} {l0 : Slot} : W (pj lw) 33 114 (l0 :: .val (.int x) :: L) S k n H Q ↔ W (pj lw) 33 115 (l0 :: .val (.int x) :: L) (.int x :: S) k n H Q := W_s (rfl : (pj lw).1 33 114 = some (.iload_n 1, 1, 0)) rfl rfl rfl
theorem w33_115 : W (pj lw) 33 115 L S k n H Q ↔ W (pj lw) 33 116 L (.int 1 :: S) k n H Q := W_s (rfl : (pj lw).1 33 115 = some (.iconst 1, 1, 0)) rfl rfl rfl
theorem w33_116 {x i : Int32} {a : Nat} : W (pj lw) 33 116 L (.int x :: .int i :: .ref a :: S) k n H Q ↔ (inAw H a .int i = true ∧ W (pj lw) 33 117 L S k n (wr H a i.toNatClampNeg (.int x)) Q) := W_iastore (rfl : (pj lw).1 33 116 = some (.iastore, 1, 0))
theorem w33_117 {x : Nat} : W (pj lw) 33 117 (.val (.ref x) :: L) S k n H Q ↔ W (pj lw) 33 118 (.val (.ref x) :: L) (.ref x :: S) k n H Q := W_s (rfl : (pj lw).1 33 117 = some (.aload_n 0, 1, 0)) rfl rfl rfl
theorem w33_118 {a : Nat} : W (pj lw) 33 118 L (.ref a :: S) k n H Q ↔ (isO H a = true ∧ W (pj lw) 33 121 L (fld H a 10 :: S) k n H Q) := W_getf (rfl : (pj lw).1 33 118 = some (.getfield 22, 3, 10))
theorem w33_121 {x : Int32} {l0 : Slot} : W (pj lw) 33 121 (l0 :: .val (.int x) :: L) S k n H Q ↔ W (pj lw) 33 122 (l0 :: .val (.int x) :: L) (.int x :: S) k n H Q := W_s (rfl : (pj lw).1 33 121 = some (.iload_n 1, 1, 0)) rfl rfl rfl
theorem w33_122 : W (pj lw) 33 122 L S k n H Q ↔ W (pj lw) 33 123 L (.int 3 :: S) k n H Q := W_s (rfl : (pj lw).1 33 122 = some (.iconst 3, 1, 0)) rfl rfl rfl
theorem w33_123 {x i : Int32} {a : Nat} : W (pj lw) 33 123 L (.int x :: .int i :: .ref a :: S) k n H Q ↔ (inAw H a .int i = true ∧ W (pj lw) 33 124 L S k n (wr H a i.toNatClampNeg (.int x)) Q) := W_iastore (rfl : (pj lw).1 33 123 = some (.iastore, 1, 0))
theorem w33_124 : W (pj lw) 33 124 L S k n H Q ↔ W (pj lw) 33 156 L S k n H Q := W_goto (rfl : (pj lw).1 33 124 = some (.goto 32, 3, 0)) rfl
theorem w33_127 {x : Int32} {l0 l1 l2 l3 : Slot} : W (pj lw) 33 127 (l0 :: l1 :: l2 :: l3 :: .val (.int x) :: L) S k n H Q ↔ W (pj lw) 33 129 (l0 :: l1 :: l2 :: l3 :: .val (.int x) :: L) (.int x :: S) k n H Q := W_s (rfl : (pj lw).1 33 127 = some (.iload 4, 2, 0)) rfl rfl rfl
theorem w33_129 {x : Int32} : W (pj lw) 33 129 L (.int x :: S) k n H Q ↔ (if x = 0 then W (pj lw) 33 142 L S k n H Q else W (pj lw) 33 132 L S k n H Q) := W_if_eq (rfl : (pj lw).1 33 129 = some (.ifCond .eq 13, 3, 0)) rfl
theorem w33_132 {x : Nat} : W (pj lw) 33 132 (.val (.ref x) :: L) S k n H Q ↔ W (pj lw) 33 133 (.val (.ref x) :: L) (.ref x :: S) k n H Q := W_s (rfl : (pj lw).1 33 132 = some (.aload_n 0, 1, 0)) rfl rfl rfl
theorem w33_133 {a : Nat} : W (pj lw) 33 133 L (.ref a :: S) k n H Q ↔ (isO H a = true ∧ W (pj lw) 33 136 L (fld H a 10 :: S) k n H Q) := W_getf (rfl : (pj lw).1 33 133 = some (.getfield 22, 3, 10))
theorem w33_136 {x : Int32} {l0 : Slot} : W (pj lw) 33 136 (l0 :: .val (.int x) :: L) S k n H Q ↔ W (pj lw) 33 137 (l0 :: .val (.int x) :: L) (.int x :: S) k n H Q := W_s (rfl : (pj lw).1 33 136 = some (.iload_n 1, 1, 0)) rfl rfl rfl
theorem w33_137 : W (pj lw) 33 137 L S k n H Q ↔ W (pj lw) 33 138 L (.int 2 :: S) k n H Q := W_s (rfl : (pj lw).1 33 137 = some (.iconst 2, 1, 0)) rfl rfl rfl
theorem w33_138 {x i : Int32} {a : Nat} : W (pj lw) 33 138 L (.int x :: .int i :: .ref a :: S) k n H Q ↔ (inAw H a .int i = true ∧ W (pj lw) 33 139 L S k n (wr H a i.toNatClampNeg (.int x)) Q) := W_iastore (rfl : (pj lw).1 33 138 = some (.iastore, 1, 0))
theorem w33_139 : W (pj lw) 33 139 L S k n H Q ↔ W (pj lw) 33 156 L S k n H Q := W_goto (rfl : (pj lw).1 33 139 = some (.goto 17, 3, 0)) rfl
theorem w33_142 {x : Nat} : W (pj lw) 33 142 (.val (.ref x) :: L) S k n H Q ↔ W (pj lw) 33 143 (.val (.ref x) :: L) (.ref x :: S) k n H Q := W_s (rfl : (pj lw).1 33 142 = some (.aload_n 0, 1, 0)) rfl rfl rfl
theorem w33_143 {a : Nat} : W (pj lw) 33 143 L (.ref a :: S) k n H Q ↔ (isO H a = true ∧ W (pj lw) 33 146 L (fld H a 7 :: S) k n H Q) := W_getf (rfl : (pj lw).1 33 143 = some (.getfield 13, 3, 7))
theorem w33_146 {x : Int32} {l0 : Slot} : W (pj lw) 33 146 (l0 :: .val (.int x) :: L) S k n H Q ↔ W (pj lw) 33 147 (l0 :: .val (.int x) :: L) (.int x :: S) k n H Q := W_s (rfl : (pj lw).1 33 146 = some (.iload_n 1, 1, 0)) rfl rfl rfl
theorem w33_147 : W (pj lw) 33 147 L S k n H Q ↔ W (pj lw) 33 148 L (.int 0 :: S) k n H Q := W_s (rfl : (pj lw).1 33 147 = some (.iconst 0, 1, 0)) rfl rfl rfl
theorem w33_148 {x i : Int32} {a : Nat} : W (pj lw) 33 148 L (.int x :: .int i :: .ref a :: S) k n H Q ↔ (inAw H a .int i = true ∧ W (pj lw) 33 149 L S k n (wr H a i.toNatClampNeg (.int x)) Q) := W_iastore (rfl : (pj lw).1 33 148 = some (.iastore, 1, 0))
theorem w33_149 {x : Nat} : W (pj lw) 33 149 (.val (.ref x) :: L) S k n H Q ↔ W (pj lw) 33 150 (.val (.ref x) :: L) (.ref x :: S) k n H Q := W_s (rfl : (pj lw).1 33 149 = some (.aload_n 0, 1, 0)) rfl rfl rfl
theorem w33_150 {a : Nat} : W (pj lw) 33 150 L (.ref a :: S) k n H Q ↔ (isO H a = true ∧ W (pj lw) 33 153 L (fld H a 10 :: S) k n H Q) := W_getf (rfl : (pj lw).1 33 150 = some (.getfield 22, 3, 10))
theorem w33_153 {x : Int32} {l0 : Slot} : W (pj lw) 33 153 (l0 :: .val (.int x) :: L) S k n H Q ↔ W (pj lw) 33 154 (l0 :: .val (.int x) :: L) (.int x :: S) k n H Q := W_s (rfl : (pj lw).1 33 153 = some (.iload_n 1, 1, 0)) rfl rfl rfl
theorem w33_154 : W (pj lw) 33 154 L S k n H Q ↔ W (pj lw) 33 155 L (.int 0 :: S) k n H Q := W_s (rfl : (pj lw).1 33 154 = some (.iconst 0, 1, 0)) rfl rfl rfl
theorem w33_155 {x i : Int32} {a : Nat} : W (pj lw) 33 155 L (.int x :: .int i :: .ref a :: S) k n H Q ↔ (inAw H a .int i = true ∧ W (pj lw) 33 156 L S k n (wr H a i.toNatClampNeg (.int x)) Q) := W_iastore (rfl : (pj lw).1 33 155 = some (.iastore, 1, 0))
theorem w33_156 : W (pj lw) 33 156 L [] k n H Q ↔ Q none H := W_r (rfl : (pj lw).1 33 156 = some (.return_, 1, 0)) rfl
theorem c34 {x0 : Nat} {x1 : Int32} : Cl (pj lw) 34 [.ref x0, .int x1] H Q ↔ W (pj lw) 34 0 [.val (.ref x0), .val (.int x1), .unset, .unset, .unset] [] 0 0 H Q := cl_unf rfl
theorem w34_0 {x : Nat} : W (pj lw) 34 0 (.val (.ref x) :: L) S k n H Q ↔ W (pj lw) 34 1 (.val (.ref x) :: L) (.ref x :: S) k n H Q := W_s (rfl : (pj lw).1 34 0 = some (.aload_n 0, 1, 0)) rfl rfl rfl
theorem w34_1 {x : Int32} {l0 : Slot} : W (pj lw) 34 1 (l0 :: .val (.int x) :: L) S k n H Q ↔ W (pj lw) 34 2 (l0 :: .val (.int x) :: L) (.int x :: S) k n H Q := W_s (rfl : (pj lw).1 34 1 = some (.iload_n 1, 1, 0)) rfl rfl rfl
theorem w34_2 {a : Nat} {x0 : Int32} : W (pj lw) 34 2 L (.int x0 :: .ref a :: S) k n H Q ↔ ((isO H a = true ∧ cs S + (5 + 11) + 0 ≤ 89) ∧ Cl (pj lw) 35 [.ref a, .int x0] H (fun v H => W (pj lw) 34 5 L (v.toList ++ S) k n H Q)) := W_inst (as := [.int x0]) (rfl : (pj lw).1 34 2 = some (.invokevirtual 143, 3, 35)) rfl rfl rfl (Nat.le_of_ble_eq_true rfl) (Nat.le_of_ble_eq_true rfl) ⟨rfl, rfl⟩
theorem w34_5 {x : Int32} {l0 l1 : Slot} : W (pj lw) 34 5 (l0 :: l1 :: .unset :: L) (.int x :: S) k n H Q ↔ W (pj lw) 34 6 (l0 :: l1 :: .val (.int x) :: L) S k n H Q := W_istn (rfl : (pj lw).1 34 5 = some (.istore_n 2, 1, 0)) rfl rfl
theorem w34_6 {x : Nat} : W (pj lw) 34 6 (.val (.ref x) :: L) S k n H Q ↔ W (pj lw) 34 7 (.val (.ref x) :: L) (.ref x :: S) k n H Q := W_s (rfl : (pj lw).1 34 6 = some (.aload_n 0, 1, 0)) rfl rfl rfl
theorem w34_7 {x : Int32} {l0 : Slot} : W (pj lw) 34 7 (l0 :: .val (.int x) :: L) S k n H Q ↔ W (pj lw) 34 8 (l0 :: .val (.int x) :: L) (.int x :: S) k n H Q := W_s (rfl : (pj lw).1 34 7 = some (.iload_n 1, 1, 0)) rfl rfl rfl
theorem w34_8 {a : Nat} {x0 : Int32} : W (pj lw) 34 8 L (.int x0 :: .ref a :: S) k n H Q ↔ ((isO H a = true ∧ cs S + (4 + 11) + 74 ≤ 89) ∧ Cl (pj lw) 25 [.ref a, .int x0] H (fun v H => W (pj lw) 34 11 L (v.toList ++ S) k n H Q)) := W_inst (as := [.int x0]) (rfl : (pj lw).1 34 8 = some (.invokevirtual 136, 3, 25)) rfl rfl rfl (Nat.le_of_ble_eq_true rfl) (Nat.le_of_ble_eq_true rfl) ⟨rfl, rfl⟩
theorem w34_11 {x : Int32} {l0 l1 l2 : Slot} : W (pj lw) 34 11 (l0 :: l1 :: l2 :: .unset :: L) (.int x :: S) k n H Q ↔ W (pj lw) 34 12 (l0 :: l1 :: l2 :: .val (.int x) :: L) S k n H Q := W_istn (rfl : (pj lw).1 34 11 = some (.istore_n 3, 1, 0)) rfl rfl
theorem w34_12 {x : Nat} : W (pj lw) 34 12 (.val (.ref x) :: L) S k n H Q ↔ W (pj lw) 34 13 (.val (.ref x) :: L) (.ref x :: S) k n H Q := W_s (rfl : (pj lw).1 34 12 = some (.aload_n 0, 1, 0)) rfl rfl rfl
theorem w34_13 {a : Nat} : W (pj lw) 34 13 L (.ref a :: S) k n H Q ↔ (isO H a = true ∧ W (pj lw) 34 16 L (fld H a 8 :: S) k n H Q) := W_getf (rfl : (pj lw).1 34 13 = some (.getfield 16, 3, 8))
theorem w34_16 {x : Int32} {l0 : Slot} : W (pj lw) 34 16 (l0 :: .val (.int x) :: L) S k n H Q ↔ W (pj lw) 34 17 (l0 :: .val (.int x) :: L) (.int x :: S) k n H Q := W_s (rfl : (pj lw).1 34 16 = some (.iload_n 1, 1, 0)) rfl rfl rfl
theorem w34_17 {x : Int32} {l0 l1 l2 : Slot} : W (pj lw) 34 17 (l0 :: l1 :: l2 :: .val (.int x) :: L) S k n H Q ↔ W (pj lw) 34 18 (l0 :: l1 :: l2 :: .val (.int x) :: L) (.int x :: S) k n H Q := W_s (rfl : (pj lw).1 34 17 = some (.iload_n 3, 1, 0)) rfl rfl rfl
theorem w34_18 {x i : Int32} {a : Nat} : W (pj lw) 34 18 L (.int x :: .int i :: .ref a :: S) k n H Q ↔ (inAw H a .int i = true ∧ W (pj lw) 34 19 L S k n (wr H a i.toNatClampNeg (.int x)) Q) := W_iastore (rfl : (pj lw).1 34 18 = some (.iastore, 1, 0))
theorem w34_19 {x : Int32} {l0 l1 l2 : Slot} : W (pj lw) 34 19 (l0 :: l1 :: l2 :: .val (.int x) :: L) S k n H Q ↔ W (pj lw) 34 20 (l0 :: l1 :: l2 :: .val (.int x) :: L) (.int x :: S) k n H Q := W_s (rfl : (pj lw).1 34 19 = some (.iload_n 3, 1, 0)) rfl rfl rfl
theorem w34_20 {x : Int32} : W (pj lw) 34 20 L (.int x :: S) k n H Q ↔ (if x = 0 then W (pj lw) 34 46 L S k n H Q else W (pj lw) 34 23 L S k n H Q) := W_if_eq (rfl : (pj lw).1 34 20 = some (.ifCond .eq 26, 3, 0)) rfl
theorem w34_23 {x : Nat} : W (pj lw) 34 23 (.val (.ref x) :: L) S k n H Q ↔ W (pj lw) 34 24 (.val (.ref x) :: L) (.ref x :: S) k n H Q := W_s (rfl : (pj lw).1 34 23 = some (.aload_n 0, 1, 0)) rfl rfl rfl
theorem w34_24 {x : Int32} {l0 : Slot} : W (pj lw) 34 24 (l0 :: .val (.int x) :: L) S k n H Q ↔ W (pj lw) 34 25 (l0 :: .val (.int x) :: L) (.int x :: S) k n H Q := W_s (rfl : (pj lw).1 34 24 = some (.iload_n 1, 1, 0)) rfl rfl rfl
theorem w34_25 {x : Int32} {l0 l1 l2 : Slot} : W (pj lw) 34 25 (l0 :: l1 :: l2 :: .val (.int x) :: L) S k n H Q ↔ W (pj lw) 34 26 (l0 :: l1 :: l2 :: .val (.int x) :: L) (.int x :: S) k n H Q := W_s (rfl : (pj lw).1 34 25 = some (.iload_n 3, 1, 0)) rfl rfl rfl
theorem w34_26 {a : Nat} {x0 : Int32} {x1 : Int32} : W (pj lw) 34 26 L (.int x1 :: .int x0 :: .ref a :: S) k n H Q ↔ ((isO H a = true ∧ cs S + (6 + 11) + 13 ≤ 89) ∧ Cl (pj lw) 36 [.ref a, .int x0, .int x1] H (fun v H => W (pj lw) 34 29 L (v.toList ++ S) k n H Q)) := W_inst (as := [.int x0, .int x1]) (rfl : (pj lw).1 34 26 = some (.invokevirtual 146, 3, 36)) rfl rfl rfl (Nat.le_of_ble_eq_true rfl) (Nat.le_of_ble_eq_true rfl) ⟨rfl, rfl⟩
theorem w34_29 {x : Int32} {l0 l1 l2 l3 : Slot} : W (pj lw) 34 29 (l0 :: l1 :: l2 :: l3 :: .unset :: L) (.int x :: S) k n H Q ↔ W (pj lw) 34 31 (l0 :: l1 :: l2 :: l3 :: .val (.int x) :: L) S k n H Q := W_ist (rfl : (pj lw).1 34 29 = some (.istore 4, 2, 0)) rfl rfl
theorem w34_31 {x : Int32} {l0 l1 : Slot} : W (pj lw) 34 31 (l0 :: l1 :: .val (.int x) :: L) S k n H Q ↔ W (pj lw) 34 32 (l0 :: l1 :: .val (.int x) :: L) (.int x :: S) k n H Q := W_s (rfl : (pj lw).1 34 31 = some (.iload_n 2, 1, 0)) rfl rfl rfl
theorem w34_32 {x : Int32} : W (pj lw) 34 32 L (.int x :: S) k n H Q ↔ (if x = 0 then W (pj lw) 34 35 L S k n H Q else W (pj lw) 34 40 L S k n H Q) := W_if_ne (rfl : (pj lw).1 34 32 = some (.ifCond .ne 8, 3, 0)) rfl
theorem w34_35 {x : Int32} {l0 l1 l2 l3 : Slot} : W (pj lw) 34 35 (l0 :: l1 :: l2 :: l3 :: .val (.int x) :: L) S k n H Q ↔ W (pj lw) 34 37 (l0 :: l1 :: l2 :: l3 :: .val (.int x) :: L) (.int x :: S) k n H Q := W_s (rfl : (pj lw).1 34 35 = some (.iload 4, 2, 0)) rfl rfl rfl
theorem w34_37 {x : Int32} : W (pj lw) 34 37 L (.int x :: S) k n H Q ↔ (if x = 0 then W (pj lw) 34 44 L S k n H Q else W (pj lw) 34 40 L S k n H Q) := W_if_eq (rfl : (pj lw).1 34 37 = some (.ifCond .eq 7, 3, 0)) rfl
theorem w34_40 : W (pj lw) 34 40 L S k n H Q ↔ W (pj lw) 34 41 L (.int 1 :: S) k n H Q := W_s (rfl : (pj lw).1 34 40 = some (.iconst 1, 1, 0)) rfl rfl rfl
theorem w34_41 : W (pj lw) 34 41 L S k n H Q ↔ W (pj lw) 34 45 L S k n H Q := W_goto (rfl : (pj lw).1 34 41 = some (.goto 4, 3, 0)) rfl
theorem w34_44 : W (pj lw) 34 44 L S k n H Q ↔ W (pj lw) 34 45 L (.int 0 :: S) k n H Q := W_s (rfl : (pj lw).1 34 44 = some (.iconst 0, 1, 0)) rfl rfl rfl
theorem w34_45i {y : Int32} {x : Int32} {l0 l1 : Slot} : W (pj lw) 34 45 (l0 :: l1 :: .val (.int y) :: L) (.int x :: S) k n H Q ↔ W (pj lw) 34 46 (l0 :: l1 :: .val (.int x) :: L) S k n H Q := W_istn (rfl : (pj lw).1 34 45 = some (.istore_n 2, 1, 0)) rfl rfl
theorem w34_46 {x : Int32} {l0 l1 : Slot} : W (pj lw) 34 46 (l0 :: l1 :: .val (.int x) :: L) S k n H Q ↔ W (pj lw) 34 47 (l0 :: l1 :: .val (.int x) :: L) (.int x :: S) k n H Q := W_s (rfl : (pj lw).1 34 46 = some (.iload_n 2, 1, 0)) rfl rfl rfl
theorem w34_47 {x : Int32} : W (pj lw) 34 47 L (.int x :: S) k n H Q ↔ (if x = 0 then W (pj lw) 34 60 L S k n H Q else W (pj lw) 34 50 L S k n H Q) := W_if_eq (rfl : (pj lw).1 34 47 = some (.ifCond .eq 13, 3, 0)) rfl
theorem w34_50 {x : Nat} : W (pj lw) 34 50 (.val (.ref x) :: L) S k n H Q ↔ W (pj lw) 34 51 (.val (.ref x) :: L) (.ref x :: S) k n H Q := W_s (rfl : (pj lw).1 34 50 = some (.aload_n 0, 1, 0)) rfl rfl rfl
theorem w34_51 {a : Nat} : W (pj lw) 34 51 L (.ref a :: S) k n H Q ↔ (isO H a = true ∧ W (pj lw) 34 54 L (fld H a 10 :: S) k n H Q) := W_getf (rfl : (pj lw).1 34 51 = some (.getfield 22, 3, 10))
theorem w34_54 {x : Int32} {l0 : Slot} : W (pj lw) 34 54 (l0 :: .val (.int x) :: L) S k n H Q ↔ W (pj lw) 34 55 (l0 :: .val (.int x) :: L) (.int x :: S) k n H Q := W_s (rfl : (pj lw).1 34 54 = some (.iload_n 1, 1, 0)) rfl rfl rfl
theorem w34_55 : W (pj lw) 34 55 L S k n H Q ↔ W (pj lw) 34 56 L (.int 3 :: S) k n H Q := W_s (rfl : (pj lw).1 34 55 = some (.iconst 3, 1, 0)) rfl rfl rfl
theorem w34_56 {x i : Int32} {a : Nat} : W (pj lw) 34 56 L (.int x :: .int i :: .ref a :: S) k n H Q ↔ (inAw H a .int i = true ∧ W (pj lw) 34 57 L S k n (wr H a i.toNatClampNeg (.int x)) Q) := W_iastore (rfl : (pj lw).1 34 56 = some (.iastore, 1, 0))
theorem w34_57 : W (pj lw) 34 57 L S k n H Q ↔ W (pj lw) 34 90 L S k n H Q := W_goto (rfl : (pj lw).1 34 57 = some (.goto 33, 3, 0)) rfl
theorem w34_60 {x : Nat} : W (pj lw) 34 60 (.val (.ref x) :: L) S k n H Q ↔ W (pj lw) 34 61 (.val (.ref x) :: L) (.ref x :: S) k n H Q := W_s (rfl : (pj lw).1 34 60 = some (.aload_n 0, 1, 0)) rfl rfl rfl
theorem w34_61 {a : Nat} : W (pj lw) 34 61 L (.ref a :: S) k n H Q ↔ (isO H a = true ∧ W (pj lw) 34 64 L (fld H a 10 :: S) k n H Q) := W_getf (rfl : (pj lw).1 34 61 = some (.getfield 22, 3, 10))
theorem w34_64 {x : Int32} {l0 : Slot} : W (pj lw) 34 64 (l0 :: .val (.int x) :: L) S k n H Q ↔ W (pj lw) 34 65 (l0 :: .val (.int x) :: L) (.int x :: S) k n H Q := W_s (rfl : (pj lw).1 34 64 = some (.iload_n 1, 1, 0)) rfl rfl rfl
theorem w34_65 {x : Nat} : W (pj lw) 34 65 (.val (.ref x) :: L) S k n H Q ↔ W (pj lw) 34 66 (.val (.ref x) :: L) (.ref x :: S) k n H Q := W_s (rfl : (pj lw).1 34 65 = some (.aload_n 0, 1, 0)) rfl rfl rfl
theorem w34_66 {a : Nat} : W (pj lw) 34 66 L (.ref a :: S) k n H Q ↔ (isO H a = true ∧ W (pj lw) 34 69 L (fld H a 10 :: S) k n H Q) := W_getf (rfl : (pj lw).1 34 66 = some (.getfield 22, 3, 10))
theorem w34_69 {x : Int32} {l0 : Slot} : W (pj lw) 34 69 (l0 :: .val (.int x) :: L) S k n H Q ↔ W (pj lw) 34 70 (l0 :: .val (.int x) :: L) (.int x :: S) k n H Q := W_s (rfl : (pj lw).1 34 69 = some (.iload_n 1, 1, 0)) rfl rfl rfl
theorem w34_70 {i : Int32} {a : Nat} : W (pj lw) 34 70 L (.int i :: .ref a :: S) k n H Q ↔ (inA H a .int i = true ∧ W (pj lw) 34 71 L (elt H a i :: S) k n H Q) := W_iaload (rfl : (pj lw).1 34 70 = some (.iaload, 1, 0))
theorem w34_71 : W (pj lw) 34 71 L S k n H Q ↔ W (pj lw) 34 72 L (.int 1 :: S) k n H Q := W_s (rfl : (pj lw).1 34 71 = some (.iconst 1, 1, 0)) rfl rfl rfl
theorem w34_72 {x y : Int32} : W (pj lw) 34 72 L (.int y :: .int x :: S) k n H Q ↔ W (pj lw) 34 73 L (.int (x - y) :: S) k n H Q := W_s (rfl : (pj lw).1 34 72 = some (.isub, 1, 0)) rfl rfl rfl
theorem w34_73 {x i : Int32} {a : Nat} : W (pj lw) 34 73 L (.int x :: .int i :: .ref a :: S) k n H Q ↔ (inAw H a .int i = true ∧ W (pj lw) 34 74 L S k n (wr H a i.toNatClampNeg (.int x)) Q) := W_iastore (rfl : (pj lw).1 34 73 = some (.iastore, 1, 0))
theorem w34_74 {x : Nat} : W (pj lw) 34 74 (.val (.ref x) :: L) S k n H Q ↔ W (pj lw) 34 75 (.val (.ref x) :: L) (.ref x :: S) k n H Q := W_s (rfl : (pj lw).1 34 74 = some (.aload_n 0, 1, 0)) rfl rfl rfl
theorem w34_75 {a : Nat} : W (pj lw) 34 75 L (.ref a :: S) k n H Q ↔ (isO H a = true ∧ W (pj lw) 34 78 L (fld H a 10 :: S) k n H Q) := W_getf (rfl : (pj lw).1 34 75 = some (.getfield 22, 3, 10))
theorem w34_78 {x : Int32} {l0 : Slot} : W (pj lw) 34 78 (l0 :: .val (.int x) :: L) S k n H Q ↔ W (pj lw) 34 79 (l0 :: .val (.int x) :: L) (.int x :: S) k n H Q := W_s (rfl : (pj lw).1 34 78 = some (.iload_n 1, 1, 0)) rfl rfl rfl
theorem w34_79 {i : Int32} {a : Nat} : W (pj lw) 34 79 L (.int i :: .ref a :: S) k n H Q ↔ (inA H a .int i = true ∧ W (pj lw) 34 80 L (elt H a i :: S) k n H Q) := W_iaload (rfl : (pj lw).1 34 79 = some (.iaload, 1, 0))
theorem w34_80 {x : Int32} : W (pj lw) 34 80 L (.int x :: S) k n H Q ↔ (if x = 0 then W (pj lw) 34 83 L S k n H Q else W (pj lw) 34 90 L S k n H Q) := W_if_ne (rfl : (pj lw).1 34 80 = some (.ifCond .ne 10, 3, 0)) rfl
theorem w34_83 {x : Nat} : W (pj lw) 34 83 (.val (.ref x) :: L) S k n H Q ↔ W (pj lw) 34 84 (.val (.ref x) :: L) (.ref x :: S) k n H Q := W_s (rfl : (pj lw).1 34 83 = some (.aload_n 0, 1, 0)) rfl rfl rfl
theorem w34_84 {a : Nat} : W (pj lw) 34 84 L (.ref a :: S) k n H Q ↔ (isO H a = true ∧ W (pj lw) 34 87 L (fld H a 7 :: S) k n H Q) := W_getf (rfl : (pj lw).1 34 84 = some (.getfield 13, 3, 7))
theorem w34_87 {x : Int32} {l0 : Slot} : W (pj lw) 34 87 (l0 :: .val (.int x) :: L) S k n H Q ↔ W (pj lw) 34 88 (l0 :: .val (.int x) :: L) (.int x :: S) k n H Q := W_s (rfl : (pj lw).1 34 87 = some (.iload_n 1, 1, 0)) rfl rfl rfl
theorem w34_88 : W (pj lw) 34 88 L S k n H Q ↔ W (pj lw) 34 89 L (.int 2 :: S) k n H Q := W_s (rfl : (pj lw).1 34 88 = some (.iconst 2, 1, 0)) rfl rfl rfl
theorem w34_89 {x i : Int32} {a : Nat} : W (pj lw) 34 89 L (.int x :: .int i :: .ref a :: S) k n H Q ↔ (inAw H a .int i = true ∧ W (pj lw) 34 90 L S k n (wr H a i.toNatClampNeg (.int x)) Q) := W_iastore (rfl : (pj lw).1 34 89 = some (.iastore, 1, 0))
theorem w34_90 : W (pj lw) 34 90 L [] k n H Q ↔ Q none H := W_r (rfl : (pj lw).1 34 90 = some (.return_, 1, 0)) rfl
theorem c35 {x0 : Nat} {x1 : Int32} : Cl (pj lw) 35 [.ref x0, .int x1] H Q ↔ W (pj lw) 35 0 [.val (.ref x0), .val (.int x1), .unset, .unset, .unset] [] 0 0 H Q := cl_unf rfl
theorem w35_0 {x : Nat} : W (pj lw) 35 0 (.val (.ref x) :: L) S k n H Q ↔ W (pj lw) 35 1 (.val (.ref x) :: L) (.ref x :: S) k n H Q := W_s (rfl : (pj lw).1 35 0 = some (.aload_n 0, 1, 0)) rfl rfl rfl
theorem w35_1 {a : Nat} : W (pj lw) 35 1 L (.ref a :: S) k n H Q ↔ (isO H a = true ∧ W (pj lw) 35 4 L (fld H a 6 :: S) k n H Q) := W_getf (rfl : (pj lw).1 35 1 = some (.getfield 7, 3, 6))
theorem w35_4 {x : Int32} {l0 : Slot} : W (pj lw) 35 4 (l0 :: .val (.int x) :: L) S k n H Q ↔ W (pj lw) 35 5 (l0 :: .val (.int x) :: L) (.int x :: S) k n H Q := W_s (rfl : (pj lw).1 35 4 = some (.iload_n 1, 1, 0)) rfl rfl rfl
theorem w35_5 {i : Int32} {a : Nat} : W (pj lw) 35 5 L (.int i :: .ref a :: S) k n H Q ↔ (inA H a .int i = true ∧ W (pj lw) 35 6 L (elt H a i :: S) k n H Q) := W_iaload (rfl : (pj lw).1 35 5 = some (.iaload, 1, 0))
theorem w35_6 {x : Int32} {l0 l1 : Slot} : W (pj lw) 35 6 (l0 :: l1 :: .unset :: L) (.int x :: S) k n H Q ↔ W (pj lw) 35 7 (l0 :: l1 :: .val (.int x) :: L) S k n H Q := W_istn (rfl : (pj lw).1 35 6 = some (.istore_n 2, 1, 0)) rfl rfl
theorem w35_7 : W (pj lw) 35 7 L S k n H Q ↔ W (pj lw) 35 8 L (.int 0 :: S) k n H Q := W_s (rfl : (pj lw).1 35 7 = some (.iconst 0, 1, 0)) rfl rfl rfl
theorem w35_8 {x : Int32} {l0 l1 l2 : Slot} : W (pj lw) 35 8 (l0 :: l1 :: l2 :: .unset :: L) (.int x :: S) k n H Q ↔ W (pj lw) 35 9 (l0 :: l1 :: l2 :: .val (.int x) :: L) S k n H Q := W_istn (rfl : (pj lw).1 35 8 = some (.istore_n 3, 1, 0)) rfl rfl
theorem w35_9 : W (pj lw) 35 9 L S k n H Q ↔ W (pj lw) 35 10 L (.int 0 :: S) k n H Q := W_s (rfl : (pj lw).1 35 9 = some (.iconst 0, 1, 0)) rfl rfl rfl
theorem w35_10 {x : Int32} {l0 l1 l2 l3 : Slot} : W (pj lw) 35 10 (l0 :: l1 :: l2 :: l3 :: .unset :: L) (.int x :: S) k n H Q ↔ W (pj lw) 35 12 (l0 :: l1 :: l2 :: l3 :: .val (.int x) :: L) S k n H Q := W_ist (rfl : (pj lw).1 35 10 = some (.istore 4, 2, 0)) rfl rfl
theorem w35_12 {x : Int32} {l0 l1 l2 l3 : Slot} : W (pj lw) 35 12 (l0 :: l1 :: l2 :: l3 :: .val (.int x) :: L) S k n H Q ↔ W (pj lw) 35 14 (l0 :: l1 :: l2 :: l3 :: .val (.int x) :: L) (.int x :: S) k n H Q := W_s (rfl : (pj lw).1 35 12 = some (.iload 4, 2, 0)) rfl rfl rfl
theorem w35_14 {x : Nat} : W (pj lw) 35 14 (.val (.ref x) :: L) S k n H Q ↔ W (pj lw) 35 15 (.val (.ref x) :: L) (.ref x :: S) k n H Q := W_s (rfl : (pj lw).1 35 14 = some (.aload_n 0, 1, 0)) rfl rfl rfl
theorem w35_15 {a : Nat} : W (pj lw) 35 15 L (.ref a :: S) k n H Q ↔ (isO H a = true ∧ W (pj lw) 35 18 L (fld H a 4 :: S) k n H Q) := W_getf (rfl : (pj lw).1 35 15 = some (.getfield 63, 3, 4))
theorem w35_18 {x y : Int32} : W (pj lw) 35 18 L (.int y :: .int x :: S) k n H Q ↔ (if x < y then W (pj lw) 35 21 L S k n H Q else W (pj lw) 35 105 L S k n H Q) := W_icmp_ge (rfl : (pj lw).1 35 18 = some (.if_icmp .ge 87, 3, 0)) rfl
theorem w35_21 {x : Nat} : W (pj lw) 35 21 (.val (.ref x) :: L) S k n H Q ↔ W (pj lw) 35 22 (.val (.ref x) :: L) (.ref x :: S) k n H Q := W_s (rfl : (pj lw).1 35 21 = some (.aload_n 0, 1, 0)) rfl rfl rfl
theorem w35_22 {a : Nat} : W (pj lw) 35 22 L (.ref a :: S) k n H Q ↔ (isO H a = true ∧ W (pj lw) 35 25 L (fld H a 11 :: S) k n H Q) := W_getf (rfl : (pj lw).1 35 22 = some (.getfield 25, 3, 11))
theorem w35_25 {x : Int32} {l0 l1 l2 l3 : Slot} : W (pj lw) 35 25 (l0 :: l1 :: l2 :: l3 :: .val (.int x) :: L) S k n H Q ↔ W (pj lw) 35 27 (l0 :: l1 :: l2 :: l3 :: .val (.int x) :: L) (.int x :: S) k n H Q := W_s (rfl : (pj lw).1 35 25 = some (.iload 4, 2, 0)) rfl rfl rfl
theorem w35_27 {i : Int32} {a : Nat} : W (pj lw) 35 27 L (.int i :: .ref a :: S) k n H Q ↔ (inA H a .int i = true ∧ W (pj lw) 35 28 L (elt H a i :: S) k n H Q) := W_iaload (rfl : (pj lw).1 35 27 = some (.iaload, 1, 0))
theorem w35_28 : W (pj lw) 35 28 L S k n H Q ↔ W (pj lw) 35 29 L (.int 2 :: S) k n H Q := W_s (rfl : (pj lw).1 35 28 = some (.iconst 2, 1, 0)) rfl rfl rfl
theorem w35_29 {x y : Int32} : W (pj lw) 35 29 L (.int y :: .int x :: S) k n H Q ↔ (if x = y then W (pj lw) 35 32 L S k n H Q else W (pj lw) 35 99 L S k n H Q) := W_icmp_ne (rfl : (pj lw).1 35 29 = some (.if_icmp .ne 70, 3, 0)) rfl
theorem w35_32 {x : Nat} : W (pj lw) 35 32 (.val (.ref x) :: L) S k n H Q ↔ W (pj lw) 35 33 (.val (.ref x) :: L) (.ref x :: S) k n H Q := W_s (rfl : (pj lw).1 35 32 = some (.aload_n 0, 1, 0)) rfl rfl rfl
theorem w35_33 {a : Nat} : W (pj lw) 35 33 L (.ref a :: S) k n H Q ↔ (isO H a = true ∧ W (pj lw) 35 36 L (fld H a 17 :: S) k n H Q) := W_getf (rfl : (pj lw).1 35 33 = some (.getfield 43, 3, 17))
theorem w35_36 {x : Int32} {l0 l1 l2 l3 : Slot} : W (pj lw) 35 36 (l0 :: l1 :: l2 :: l3 :: .val (.int x) :: L) S k n H Q ↔ W (pj lw) 35 38 (l0 :: l1 :: l2 :: l3 :: .val (.int x) :: L) (.int x :: S) k n H Q := W_s (rfl : (pj lw).1 35 36 = some (.iload 4, 2, 0)) rfl rfl rfl
theorem w35_38 {i : Int32} {a : Nat} : W (pj lw) 35 38 L (.int i :: .ref a :: S) k n H Q ↔ (inA H a .int i = true ∧ W (pj lw) 35 39 L (elt H a i :: S) k n H Q) := W_iaload (rfl : (pj lw).1 35 38 = some (.iaload, 1, 0))
theorem w35_39 {x : Int32} {l0 : Slot} : W (pj lw) 35 39 (l0 :: .val (.int x) :: L) S k n H Q ↔ W (pj lw) 35 40 (l0 :: .val (.int x) :: L) (.int x :: S) k n H Q := W_s (rfl : (pj lw).1 35 39 = some (.iload_n 1, 1, 0)) rfl rfl rfl
theorem w35_40 {x y : Int32} : W (pj lw) 35 40 L (.int y :: .int x :: S) k n H Q ↔ (if x = y then W (pj lw) 35 43 L S k n H Q else W (pj lw) 35 99 L S k n H Q) := W_icmp_ne (rfl : (pj lw).1 35 40 = some (.if_icmp .ne 59, 3, 0)) rfl
theorem w35_43 {x : Nat} : W (pj lw) 35 43 (.val (.ref x) :: L) S k n H Q ↔ W (pj lw) 35 44 (.val (.ref x) :: L) (.ref x :: S) k n H Q := W_s (rfl : (pj lw).1 35 43 = some (.aload_n 0, 1, 0)) rfl rfl rfl
theorem w35_44 {a : Nat} : W (pj lw) 35 44 L (.ref a :: S) k n H Q ↔ (isO H a = true ∧ W (pj lw) 35 47 L (fld H a 13 :: S) k n H Q) := W_getf (rfl : (pj lw).1 35 44 = some (.getfield 31, 3, 13))
theorem w35_47 {x : Int32} {l0 l1 l2 l3 : Slot} : W (pj lw) 35 47 (l0 :: l1 :: l2 :: l3 :: .val (.int x) :: L) S k n H Q ↔ W (pj lw) 35 49 (l0 :: l1 :: l2 :: l3 :: .val (.int x) :: L) (.int x :: S) k n H Q := W_s (rfl : (pj lw).1 35 47 = some (.iload 4, 2, 0)) rfl rfl rfl
theorem w35_49 {i : Int32} {a : Nat} : W (pj lw) 35 49 L (.int i :: .ref a :: S) k n H Q ↔ (inA H a .int i = true ∧ W (pj lw) 35 50 L (elt H a i :: S) k n H Q) := W_iaload (rfl : (pj lw).1 35 49 = some (.iaload, 1, 0))
theorem w35_50 {x : Int32} {l0 l1 : Slot} : W (pj lw) 35 50 (l0 :: l1 :: .val (.int x) :: L) S k n H Q ↔ W (pj lw) 35 51 (l0 :: l1 :: .val (.int x) :: L) (.int x :: S) k n H Q := W_s (rfl : (pj lw).1 35 50 = some (.iload_n 2, 1, 0)) rfl rfl rfl
theorem w35_51 {x y : Int32} : W (pj lw) 35 51 L (.int y :: .int x :: S) k n H Q ↔ (if x = y then W (pj lw) 35 54 L S k n H Q else W (pj lw) 35 99 L S k n H Q) := W_icmp_ne (rfl : (pj lw).1 35 51 = some (.if_icmp .ne 48, 3, 0)) rfl
theorem w35_54 {x : Nat} : W (pj lw) 35 54 (.val (.ref x) :: L) S k n H Q ↔ W (pj lw) 35 55 (.val (.ref x) :: L) (.ref x :: S) k n H Q := W_s (rfl : (pj lw).1 35 54 = some (.aload_n 0, 1, 0)) rfl rfl rfl
theorem w35_55 {a : Nat} : W (pj lw) 35 55 L (.ref a :: S) k n H Q ↔ (isO H a = true ∧ W (pj lw) 35 58 L (fld H a 11 :: S) k n H Q) := W_getf (rfl : (pj lw).1 35 55 = some (.getfield 25, 3, 11))
theorem w35_58 {x : Int32} {l0 l1 l2 l3 : Slot} : W (pj lw) 35 58 (l0 :: l1 :: l2 :: l3 :: .val (.int x) :: L) S k n H Q ↔ W (pj lw) 35 60 (l0 :: l1 :: l2 :: l3 :: .val (.int x) :: L) (.int x :: S) k n H Q := W_s (rfl : (pj lw).1 35 58 = some (.iload 4, 2, 0)) rfl rfl rfl
theorem w35_60 : W (pj lw) 35 60 L S k n H Q ↔ W (pj lw) 35 61 L (.int 3 :: S) k n H Q := W_s (rfl : (pj lw).1 35 60 = some (.iconst 3, 1, 0)) rfl rfl rfl
theorem w35_61 {x i : Int32} {a : Nat} : W (pj lw) 35 61 L (.int x :: .int i :: .ref a :: S) k n H Q ↔ (inAw H a .int i = true ∧ W (pj lw) 35 62 L S k n (wr H a i.toNatClampNeg (.int x)) Q) := W_iastore (rfl : (pj lw).1 35 61 = some (.iastore, 1, 0))
theorem w35_62 {x : Nat} : W (pj lw) 35 62 (.val (.ref x) :: L) S k n H Q ↔ W (pj lw) 35 63 (.val (.ref x) :: L) (.ref x :: S) k n H Q := W_s (rfl : (pj lw).1 35 62 = some (.aload_n 0, 1, 0)) rfl rfl rfl
theorem w35_63 {a : Nat} : W (pj lw) 35 63 L (.ref a :: S) k n H Q ↔ (isO H a = true ∧ W (pj lw) 35 66 L (fld H a 16 :: S) k n H Q) := W_getf (rfl : (pj lw).1 35 63 = some (.getfield 40, 3, 16))
theorem w35_66 {x : Int32} {l0 l1 l2 l3 : Slot} : W (pj lw) 35 66 (l0 :: l1 :: l2 :: l3 :: .val (.int x) :: L) S k n H Q ↔ W (pj lw) 35 68 (l0 :: l1 :: l2 :: l3 :: .val (.int x) :: L) (.int x :: S) k n H Q := W_s (rfl : (pj lw).1 35 66 = some (.iload 4, 2, 0)) rfl rfl rfl
theorem w35_68 {x : Nat} : W (pj lw) 35 68 (.val (.ref x) :: L) S k n H Q ↔ W (pj lw) 35 69 (.val (.ref x) :: L) (.ref x :: S) k n H Q := W_s (rfl : (pj lw).1 35 68 = some (.aload_n 0, 1, 0)) rfl rfl rfl
theorem w35_69 {a : Nat} : W (pj lw) 35 69 L (.ref a :: S) k n H Q ↔ (isO H a = true ∧ W (pj lw) 35 72 L (fld H a 3 :: S) k n H Q) := W_getf (rfl : (pj lw).1 35 69 = some (.getfield 66, 3, 3))
theorem w35_72 {x i : Int32} {a : Nat} : W (pj lw) 35 72 L (.int x :: .int i :: .ref a :: S) k n H Q ↔ (inAw H a .int i = true ∧ W (pj lw) 35 73 L S k n (wr H a i.toNatClampNeg (.int x)) Q) := W_iastore (rfl : (pj lw).1 35 72 = some (.iastore, 1, 0))
theorem w35_73 {x : Nat} : W (pj lw) 35 73 (.val (.ref x) :: L) S k n H Q ↔ W (pj lw) 35 74 (.val (.ref x) :: L) (.ref x :: S) k n H Q := W_s (rfl : (pj lw).1 35 73 = some (.aload_n 0, 1, 0)) rfl rfl rfl
theorem w35_74 {a : Nat} : W (pj lw) 35 74 L (.ref a :: S) k n H Q ↔ (isO H a = true ∧ W (pj lw) 35 77 L (fld H a 9 :: S) k n H Q) := W_getf (rfl : (pj lw).1 35 74 = some (.getfield 19, 3, 9))
theorem w35_77 {x : Int32} {l0 : Slot} : W (pj lw) 35 77 (l0 :: .val (.int x) :: L) S k n H Q ↔ W (pj lw) 35 78 (l0 :: .val (.int x) :: L) (.int x :: S) k n H Q := W_s (rfl : (pj lw).1 35 77 = some (.iload_n 1, 1, 0)) rfl rfl rfl
theorem w35_78 {x : Nat} : W (pj lw) 35 78 (.val (.ref x) :: L) S k n H Q ↔ W (pj lw) 35 79 (.val (.ref x) :: L) (.ref x :: S) k n H Q := W_s (rfl : (pj lw).1 35 78 = some (.aload_n 0, 1, 0)) rfl rfl rfl
theorem w35_79 {a : Nat} : W (pj lw) 35 79 L (.ref a :: S) k n H Q ↔ (isO H a = true ∧ W (pj lw) 35 82 L (fld H a 9 :: S) k n H Q) := W_getf (rfl : (pj lw).1 35 79 = some (.getfield 19, 3, 9))
theorem w35_82 {x : Int32} {l0 : Slot} : W (pj lw) 35 82 (l0 :: .val (.int x) :: L) S k n H Q ↔ W (pj lw) 35 83 (l0 :: .val (.int x) :: L) (.int x :: S) k n H Q := W_s (rfl : (pj lw).1 35 82 = some (.iload_n 1, 1, 0)) rfl rfl rfl
theorem w35_83 {i : Int32} {a : Nat} : W (pj lw) 35 83 L (.int i :: .ref a :: S) k n H Q ↔ (inA H a .int i = true ∧ W (pj lw) 35 84 L (elt H a i :: S) k n H Q) := W_iaload (rfl : (pj lw).1 35 83 = some (.iaload, 1, 0))
theorem w35_84 : W (pj lw) 35 84 L S k n H Q ↔ W (pj lw) 35 85 L (.int 1 :: S) k n H Q := W_s (rfl : (pj lw).1 35 84 = some (.iconst 1, 1, 0)) rfl rfl rfl
theorem w35_85 {x y : Int32} : W (pj lw) 35 85 L (.int y :: .int x :: S) k n H Q ↔ W (pj lw) 35 86 L (.int (x - y) :: S) k n H Q := W_s (rfl : (pj lw).1 35 85 = some (.isub, 1, 0)) rfl rfl rfl
theorem w35_86 {x i : Int32} {a : Nat} : W (pj lw) 35 86 L (.int x :: .int i :: .ref a :: S) k n H Q ↔ (inAw H a .int i = true ∧ W (pj lw) 35 87 L S k n (wr H a i.toNatClampNeg (.int x)) Q) := W_iastore (rfl : (pj lw).1 35 86 = some (.iastore, 1, 0))
theorem w35_87 {x : Nat} : W (pj lw) 35 87 (.val (.ref x) :: L) S k n H Q ↔ W (pj lw) 35 88 (.val (.ref x) :: L) (.ref x :: S) k n H Q := W_s (rfl : (pj lw).1 35 87 = some (.aload_n 0, 1, 0)) rfl rfl rfl
theorem w35_88 {x : Nat} : W (pj lw) 35 88 L (.ref x :: S) k n H Q ↔ W (pj lw) 35 89 L (.ref x :: .ref x :: S) k n H Q := W_s (rfl : (pj lw).1 35 88 = some (.dup, 1, 0)) rfl rfl rfl
theorem w35_89 {a : Nat} : W (pj lw) 35 89 L (.ref a :: S) k n H Q ↔ (isO H a = true ∧ W (pj lw) 35 92 L (fld H a 5 :: S) k n H Q) := W_getf (rfl : (pj lw).1 35 89 = some (.getfield 73, 3, 5))
theorem w35_92 : W (pj lw) 35 92 L S k n H Q ↔ W (pj lw) 35 93 L (.int 1 :: S) k n H Q := W_s (rfl : (pj lw).1 35 92 = some (.iconst 1, 1, 0)) rfl rfl rfl
theorem w35_93 {x y : Int32} : W (pj lw) 35 93 L (.int y :: .int x :: S) k n H Q ↔ W (pj lw) 35 94 L (.int (x + y) :: S) k n H Q := W_s (rfl : (pj lw).1 35 93 = some (.iadd, 1, 0)) rfl rfl rfl
theorem w35_94 {a : Nat} {v : Value} : W (pj lw) 35 94 L (v :: .ref a :: S) k n H Q ↔ ((isOw H a = true ∧ okv (.int) v = true) ∧ W (pj lw) 35 97 L S k n (wr H a 5 v) Q) := W_putf (rfl : (pj lw).1 35 94 = some (.putfield 73, 3, 5))
theorem w35_97 : W (pj lw) 35 97 L S k n H Q ↔ W (pj lw) 35 98 L (.int 1 :: S) k n H Q := W_s (rfl : (pj lw).1 35 97 = some (.iconst 1, 1, 0)) rfl rfl rfl
theorem w35_98i {y : Int32} {x : Int32} {l0 l1 l2 : Slot} : W (pj lw) 35 98 (l0 :: l1 :: l2 :: .val (.int y) :: L) (.int x :: S) k n H Q ↔ W (pj lw) 35 99 (l0 :: l1 :: l2 :: .val (.int x) :: L) S k n H Q := W_istn (rfl : (pj lw).1 35 98 = some (.istore_n 3, 1, 0)) rfl rfl
theorem w35_99 {x : Int32} {l0 l1 l2 l3 : Slot} : W (pj lw) 35 99 (l0 :: l1 :: l2 :: l3 :: .val (.int x) :: L) S k n H Q ↔ W (pj lw) 35 102 (l0 :: l1 :: l2 :: l3 :: .val (.int (x + 1)) :: L) S k n H Q := W_s (rfl : (pj lw).1 35 99 = some (.iinc 4 1, 3, 0)) rfl rfl rfl
theorem w35_102 : W (pj lw) 35 102 L S k n H Q ↔ W (pj lw) 35 12 L S k n H Q := W_goto (rfl : (pj lw).1 35 102 = some (.goto (-90), 3, 0)) rfl
theorem w35_105 {x : Int32} {l0 l1 l2 : Slot} : W (pj lw) 35 105 (l0 :: l1 :: l2 :: .val (.int x) :: L) S k n H Q ↔ W (pj lw) 35 106 (l0 :: l1 :: l2 :: .val (.int x) :: L) (.int x :: S) k n H Q := W_s (rfl : (pj lw).1 35 105 = some (.iload_n 3, 1, 0)) rfl rfl rfl
theorem w35_106 {x : Int32} : W (pj lw) 35 106 L (.int x :: S) k n H Q ↔ ((x = 0 ∨ x = 1) ∧ Q (some (.int x)) H) := W_rz (rfl : (pj lw).1 35 106 = some (.ireturn, 1, 0)) rfl
theorem c36 {x0 : Nat} {x1 : Int32} {x2 : Int32} : Cl (pj lw) 36 [.ref x0, .int x1, .int x2] H Q ↔ W (pj lw) 36 0 [.val (.ref x0), .val (.int x1), .val (.int x2), .unset, .unset, .unset] [] 0 0 H Q := cl_unf rfl
theorem w36_0 {x : Nat} : W (pj lw) 36 0 (.val (.ref x) :: L) S k n H Q ↔ W (pj lw) 36 1 (.val (.ref x) :: L) (.ref x :: S) k n H Q := W_s (rfl : (pj lw).1 36 0 = some (.aload_n 0, 1, 0)) rfl rfl rfl
theorem w36_1 {a : Nat} : W (pj lw) 36 1 L (.ref a :: S) k n H Q ↔ (isO H a = true ∧ W (pj lw) 36 4 L (fld H a 6 :: S) k n H Q) := W_getf (rfl : (pj lw).1 36 1 = some (.getfield 7, 3, 6))
theorem w36_4 {x : Int32} {l0 : Slot} : W (pj lw) 36 4 (l0 :: .val (.int x) :: L) S k n H Q ↔ W (pj lw) 36 5 (l0 :: .val (.int x) :: L) (.int x :: S) k n H Q := W_s (rfl : (pj lw).1 36 4 = some (.iload_n 1, 1, 0)) rfl rfl rfl
theorem w36_5 {i : Int32} {a : Nat} : W (pj lw) 36 5 L (.int i :: .ref a :: S) k n H Q ↔ (inA H a .int i = true ∧ W (pj lw) 36 6 L (elt H a i :: S) k n H Q) := W_iaload (rfl : (pj lw).1 36 5 = some (.iaload, 1, 0))
theorem w36_6 {x : Int32} {l0 l1 l2 : Slot} : W (pj lw) 36 6 (l0 :: l1 :: l2 :: .unset :: L) (.int x :: S) k n H Q ↔ W (pj lw) 36 7 (l0 :: l1 :: l2 :: .val (.int x) :: L) S k n H Q := W_istn (rfl : (pj lw).1 36 6 = some (.istore_n 3, 1, 0)) rfl rfl
theorem w36_7 : W (pj lw) 36 7 L S k n H Q ↔ W (pj lw) 36 8 L (.int 0 :: S) k n H Q := W_s (rfl : (pj lw).1 36 7 = some (.iconst 0, 1, 0)) rfl rfl rfl
theorem w36_8 {x : Int32} {l0 l1 l2 l3 : Slot} : W (pj lw) 36 8 (l0 :: l1 :: l2 :: l3 :: .unset :: L) (.int x :: S) k n H Q ↔ W (pj lw) 36 10 (l0 :: l1 :: l2 :: l3 :: .val (.int x) :: L) S k n H Q := W_ist (rfl : (pj lw).1 36 8 = some (.istore 4, 2, 0)) rfl rfl
theorem w36_10 : W (pj lw) 36 10 L S k n H Q ↔ W (pj lw) 36 11 L (.int 0 :: S) k n H Q := W_s (rfl : (pj lw).1 36 10 = some (.iconst 0, 1, 0)) rfl rfl rfl
theorem w36_11 {x : Int32} {l0 l1 l2 l3 l4 : Slot} : W (pj lw) 36 11 (l0 :: l1 :: l2 :: l3 :: l4 :: .unset :: L) (.int x :: S) k n H Q ↔ W (pj lw) 36 13 (l0 :: l1 :: l2 :: l3 :: l4 :: .val (.int x) :: L) S k n H Q := W_ist (rfl : (pj lw).1 36 11 = some (.istore 5, 2, 0)) rfl rfl
theorem w36_13 {x : Int32} {l0 l1 l2 l3 l4 : Slot} : W (pj lw) 36 13 (l0 :: l1 :: l2 :: l3 :: l4 :: .val (.int x) :: L) S k n H Q ↔ W (pj lw) 36 15 (l0 :: l1 :: l2 :: l3 :: l4 :: .val (.int x) :: L) (.int x :: S) k n H Q := W_s (rfl : (pj lw).1 36 13 = some (.iload 5, 2, 0)) rfl rfl rfl
theorem w36_15 {x : Nat} : W (pj lw) 36 15 (.val (.ref x) :: L) S k n H Q ↔ W (pj lw) 36 16 (.val (.ref x) :: L) (.ref x :: S) k n H Q := W_s (rfl : (pj lw).1 36 15 = some (.aload_n 0, 1, 0)) rfl rfl rfl
theorem w36_16 {a : Nat} : W (pj lw) 36 16 L (.ref a :: S) k n H Q ↔ (isO H a = true ∧ W (pj lw) 36 19 L (fld H a 4 :: S) k n H Q) := W_getf (rfl : (pj lw).1 36 16 = some (.getfield 63, 3, 4))
theorem w36_19 {x y : Int32} : W (pj lw) 36 19 L (.int y :: .int x :: S) k n H Q ↔ (if x < y then W (pj lw) 36 22 L S k n H Q else W (pj lw) 36 115 L S k n H Q) := W_icmp_ge (rfl : (pj lw).1 36 19 = some (.if_icmp .ge 96, 3, 0)) rfl
theorem w36_22 {x : Nat} : W (pj lw) 36 22 (.val (.ref x) :: L) S k n H Q ↔ W (pj lw) 36 23 (.val (.ref x) :: L) (.ref x :: S) k n H Q := W_s (rfl : (pj lw).1 36 22 = some (.aload_n 0, 1, 0)) rfl rfl rfl
theorem w36_23 {x : Int32} {l0 : Slot} : W (pj lw) 36 23 (l0 :: .val (.int x) :: L) S k n H Q ↔ W (pj lw) 36 24 (l0 :: .val (.int x) :: L) (.int x :: S) k n H Q := W_s (rfl : (pj lw).1 36 23 = some (.iload_n 1, 1, 0)) rfl rfl rfl
theorem w36_24 {a : Nat} {x0 : Int32} : W (pj lw) 36 24 L (.int x0 :: .ref a :: S) k n H Q ↔ ((isO H a = true ∧ cs S + (2 + 11) + 0 ≤ 13) ∧ Cl (pj lw) 24 [.ref a, .int x0] H (fun v H => W (pj lw) 36 27 L (v.toList ++ S) k n H Q)) := W_inst (as := [.int x0]) (rfl : (pj lw).1 36 24 = some (.invokevirtual 139, 3, 24)) rfl rfl rfl (Nat.le_of_ble_eq_true rfl) (Nat.le_of_ble_eq_true rfl) ⟨rfl, rfl⟩
theorem w36_27 {x : Int32} : W (pj lw) 36 27 L (.int x :: S) k n H Q ↔ (if x = 0 then W (pj lw) 36 30 L S k n H Q else W (pj lw) 36 33 L S k n H Q) := W_if_ne (rfl : (pj lw).1 36 27 = some (.ifCond .ne 6, 3, 0)) rfl
theorem w36_30 : W (pj lw) 36 30 L S k n H Q ↔ W (pj lw) 36 115 L S k n H Q := W_goto (rfl : (pj lw).1 36 30 = some (.goto 85, 3, 0)) rfl
theorem w36_33 {x : Nat} : W (pj lw) 36 33 (.val (.ref x) :: L) S k n H Q ↔ W (pj lw) 36 34 (.val (.ref x) :: L) (.ref x :: S) k n H Q := W_s (rfl : (pj lw).1 36 33 = some (.aload_n 0, 1, 0)) rfl rfl rfl
theorem w36_34 {a : Nat} : W (pj lw) 36 34 L (.ref a :: S) k n H Q ↔ (isO H a = true ∧ W (pj lw) 36 37 L (fld H a 11 :: S) k n H Q) := W_getf (rfl : (pj lw).1 36 34 = some (.getfield 25, 3, 11))
theorem w36_37 {x : Int32} {l0 l1 l2 l3 l4 : Slot} : W (pj lw) 36 37 (l0 :: l1 :: l2 :: l3 :: l4 :: .val (.int x) :: L) S k n H Q ↔ W (pj lw) 36 39 (l0 :: l1 :: l2 :: l3 :: l4 :: .val (.int x) :: L) (.int x :: S) k n H Q := W_s (rfl : (pj lw).1 36 37 = some (.iload 5, 2, 0)) rfl rfl rfl
theorem w36_39 {i : Int32} {a : Nat} : W (pj lw) 36 39 L (.int i :: .ref a :: S) k n H Q ↔ (inA H a .int i = true ∧ W (pj lw) 36 40 L (elt H a i :: S) k n H Q) := W_iaload (rfl : (pj lw).1 36 39 = some (.iaload, 1, 0))
theorem w36_40 : W (pj lw) 36 40 L S k n H Q ↔ W (pj lw) 36 41 L (.int 1 :: S) k n H Q := W_s (rfl : (pj lw).1 36 40 = some (.iconst 1, 1, 0)) rfl rfl rfl
theorem w36_41 {x y : Int32} : W (pj lw) 36 41 L (.int y :: .int x :: S) k n H Q ↔ (if x = y then W (pj lw) 36 44 L S k n H Q else W (pj lw) 36 109 L S k n H Q) := W_icmp_ne (rfl : (pj lw).1 36 41 = some (.if_icmp .ne 68, 3, 0)) rfl
theorem w36_44 {x : Nat} : W (pj lw) 36 44 (.val (.ref x) :: L) S k n H Q ↔ W (pj lw) 36 45 (.val (.ref x) :: L) (.ref x :: S) k n H Q := W_s (rfl : (pj lw).1 36 44 = some (.aload_n 0, 1, 0)) rfl rfl rfl
theorem w36_45 {a : Nat} : W (pj lw) 36 45 L (.ref a :: S) k n H Q ↔ (isO H a = true ∧ W (pj lw) 36 48 L (fld H a 12 :: S) k n H Q) := W_getf (rfl : (pj lw).1 36 45 = some (.getfield 28, 3, 12))
theorem w36_48 {x : Int32} {l0 l1 l2 l3 l4 : Slot} : W (pj lw) 36 48 (l0 :: l1 :: l2 :: l3 :: l4 :: .val (.int x) :: L) S k n H Q ↔ W (pj lw) 36 50 (l0 :: l1 :: l2 :: l3 :: l4 :: .val (.int x) :: L) (.int x :: S) k n H Q := W_s (rfl : (pj lw).1 36 48 = some (.iload 5, 2, 0)) rfl rfl rfl
theorem w36_50 {i : Int32} {a : Nat} : W (pj lw) 36 50 L (.int i :: .ref a :: S) k n H Q ↔ (inA H a .int i = true ∧ W (pj lw) 36 51 L (elt H a i :: S) k n H Q) := W_iaload (rfl : (pj lw).1 36 50 = some (.iaload, 1, 0))
theorem w36_51 {x : Int32} {l0 l1 l2 : Slot} : W (pj lw) 36 51 (l0 :: l1 :: l2 :: .val (.int x) :: L) S k n H Q ↔ W (pj lw) 36 52 (l0 :: l1 :: l2 :: .val (.int x) :: L) (.int x :: S) k n H Q := W_s (rfl : (pj lw).1 36 51 = some (.iload_n 3, 1, 0)) rfl rfl rfl
theorem w36_52 {x y : Int32} : W (pj lw) 36 52 L (.int y :: .int x :: S) k n H Q ↔ (if x = y then W (pj lw) 36 55 L S k n H Q else W (pj lw) 36 109 L S k n H Q) := W_icmp_ne (rfl : (pj lw).1 36 52 = some (.if_icmp .ne 57, 3, 0)) rfl
theorem w36_55 {x : Nat} : W (pj lw) 36 55 (.val (.ref x) :: L) S k n H Q ↔ W (pj lw) 36 56 (.val (.ref x) :: L) (.ref x :: S) k n H Q := W_s (rfl : (pj lw).1 36 55 = some (.aload_n 0, 1, 0)) rfl rfl rfl
theorem w36_56 {x : Int32} {l0 l1 l2 l3 l4 : Slot} : W (pj lw) 36 56 (l0 :: l1 :: l2 :: l3 :: l4 :: .val (.int x) :: L) S k n H Q ↔ W (pj lw) 36 58 (l0 :: l1 :: l2 :: l3 :: l4 :: .val (.int x) :: L) (.int x :: S) k n H Q := W_s (rfl : (pj lw).1 36 56 = some (.iload 5, 2, 0)) rfl rfl rfl
theorem w36_58 {a : Nat} {x0 : Int32} : W (pj lw) 36 58 L (.int x0 :: .ref a :: S) k n H Q ↔ ((isO H a = true ∧ cs S + (2 + 11) + 0 ≤ 13) ∧ Cl (pj lw) 17 [.ref a, .int x0] H (fun v H => W (pj lw) 36 61 L (v.toList ++ S) k n H Q)) := W_inst (as := [.int x0]) (rfl : (pj lw).1 36 58 = some (.invokevirtual 91, 3, 17)) rfl rfl rfl (Nat.le_of_ble_eq_true rfl) (Nat.le_of_ble_eq_true rfl) ⟨rfl, rfl⟩
theorem w36_61 {x : Int32} {l0 l1 : Slot} : W (pj lw) 36 61 (l0 :: l1 :: .val (.int x) :: L) S k n H Q ↔ W (pj lw) 36 62 (l0 :: l1 :: .val (.int x) :: L) (.int x :: S) k n H Q := W_s (rfl : (pj lw).1 36 61 = some (.iload_n 2, 1, 0)) rfl rfl rfl
theorem w36_62 {x y : Int32} : W (pj lw) 36 62 L (.int y :: .int x :: S) k n H Q ↔ (if x = y then W (pj lw) 36 65 L S k n H Q else W (pj lw) 36 109 L S k n H Q) := W_icmp_ne (rfl : (pj lw).1 36 62 = some (.if_icmp .ne 47, 3, 0)) rfl
theorem w36_65 {x : Nat} : W (pj lw) 36 65 (.val (.ref x) :: L) S k n H Q ↔ W (pj lw) 36 66 (.val (.ref x) :: L) (.ref x :: S) k n H Q := W_s (rfl : (pj lw).1 36 65 = some (.aload_n 0, 1, 0)) rfl rfl rfl
theorem w36_66 {a : Nat} : W (pj lw) 36 66 L (.ref a :: S) k n H Q ↔ (isO H a = true ∧ W (pj lw) 36 69 L (fld H a 11 :: S) k n H Q) := W_getf (rfl : (pj lw).1 36 66 = some (.getfield 25, 3, 11))
theorem w36_69 {x : Int32} {l0 l1 l2 l3 l4 : Slot} : W (pj lw) 36 69 (l0 :: l1 :: l2 :: l3 :: l4 :: .val (.int x) :: L) S k n H Q ↔ W (pj lw) 36 71 (l0 :: l1 :: l2 :: l3 :: l4 :: .val (.int x) :: L) (.int x :: S) k n H Q := W_s (rfl : (pj lw).1 36 69 = some (.iload 5, 2, 0)) rfl rfl rfl
theorem w36_71 : W (pj lw) 36 71 L S k n H Q ↔ W (pj lw) 36 72 L (.int 2 :: S) k n H Q := W_s (rfl : (pj lw).1 36 71 = some (.iconst 2, 1, 0)) rfl rfl rfl
theorem w36_72 {x i : Int32} {a : Nat} : W (pj lw) 36 72 L (.int x :: .int i :: .ref a :: S) k n H Q ↔ (inAw H a .int i = true ∧ W (pj lw) 36 73 L S k n (wr H a i.toNatClampNeg (.int x)) Q) := W_iastore (rfl : (pj lw).1 36 72 = some (.iastore, 1, 0))
theorem w36_73 {x : Nat} : W (pj lw) 36 73 (.val (.ref x) :: L) S k n H Q ↔ W (pj lw) 36 74 (.val (.ref x) :: L) (.ref x :: S) k n H Q := W_s (rfl : (pj lw).1 36 73 = some (.aload_n 0, 1, 0)) rfl rfl rfl
theorem w36_74 {a : Nat} : W (pj lw) 36 74 L (.ref a :: S) k n H Q ↔ (isO H a = true ∧ W (pj lw) 36 77 L (fld H a 15 :: S) k n H Q) := W_getf (rfl : (pj lw).1 36 74 = some (.getfield 37, 3, 15))
theorem w36_77 {x : Int32} {l0 l1 l2 l3 l4 : Slot} : W (pj lw) 36 77 (l0 :: l1 :: l2 :: l3 :: l4 :: .val (.int x) :: L) S k n H Q ↔ W (pj lw) 36 79 (l0 :: l1 :: l2 :: l3 :: l4 :: .val (.int x) :: L) (.int x :: S) k n H Q := W_s (rfl : (pj lw).1 36 77 = some (.iload 5, 2, 0)) rfl rfl rfl
theorem w36_79 {x : Nat} : W (pj lw) 36 79 (.val (.ref x) :: L) S k n H Q ↔ W (pj lw) 36 80 (.val (.ref x) :: L) (.ref x :: S) k n H Q := W_s (rfl : (pj lw).1 36 79 = some (.aload_n 0, 1, 0)) rfl rfl rfl
theorem w36_80 {a : Nat} : W (pj lw) 36 80 L (.ref a :: S) k n H Q ↔ (isO H a = true ∧ W (pj lw) 36 83 L (fld H a 3 :: S) k n H Q) := W_getf (rfl : (pj lw).1 36 80 = some (.getfield 66, 3, 3))
theorem w36_83 {x i : Int32} {a : Nat} : W (pj lw) 36 83 L (.int x :: .int i :: .ref a :: S) k n H Q ↔ (inAw H a .int i = true ∧ W (pj lw) 36 84 L S k n (wr H a i.toNatClampNeg (.int x)) Q) := W_iastore (rfl : (pj lw).1 36 83 = some (.iastore, 1, 0))
theorem w36_84 {x : Nat} : W (pj lw) 36 84 (.val (.ref x) :: L) S k n H Q ↔ W (pj lw) 36 85 (.val (.ref x) :: L) (.ref x :: S) k n H Q := W_s (rfl : (pj lw).1 36 84 = some (.aload_n 0, 1, 0)) rfl rfl rfl
theorem w36_85 {a : Nat} : W (pj lw) 36 85 L (.ref a :: S) k n H Q ↔ (isO H a = true ∧ W (pj lw) 36 88 L (fld H a 17 :: S) k n H Q) := W_getf (rfl : (pj lw).1 36 85 = some (.getfield 43, 3, 17))
theorem w36_88 {x : Int32} {l0 l1 l2 l3 l4 : Slot} : W (pj lw) 36 88 (l0 :: l1 :: l2 :: l3 :: l4 :: .val (.int x) :: L) S k n H Q ↔ W (pj lw) 36 90 (l0 :: l1 :: l2 :: l3 :: l4 :: .val (.int x) :: L) (.int x :: S) k n H Q := W_s (rfl : (pj lw).1 36 88 = some (.iload 5, 2, 0)) rfl rfl rfl
theorem w36_90 {x : Int32} {l0 : Slot} : W (pj lw) 36 90 (l0 :: .val (.int x) :: L) S k n H Q ↔ W (pj lw) 36 91 (l0 :: .val (.int x) :: L) (.int x :: S) k n H Q := W_s (rfl : (pj lw).1 36 90 = some (.iload_n 1, 1, 0)) rfl rfl rfl
theorem w36_91 {x i : Int32} {a : Nat} : W (pj lw) 36 91 L (.int x :: .int i :: .ref a :: S) k n H Q ↔ (inAw H a .int i = true ∧ W (pj lw) 36 92 L S k n (wr H a i.toNatClampNeg (.int x)) Q) := W_iastore (rfl : (pj lw).1 36 91 = some (.iastore, 1, 0))
theorem w36_92 {x : Nat} : W (pj lw) 36 92 (.val (.ref x) :: L) S k n H Q ↔ W (pj lw) 36 93 (.val (.ref x) :: L) (.ref x :: S) k n H Q := W_s (rfl : (pj lw).1 36 92 = some (.aload_n 0, 1, 0)) rfl rfl rfl
theorem w36_93 {a : Nat} : W (pj lw) 36 93 L (.ref a :: S) k n H Q ↔ (isO H a = true ∧ W (pj lw) 36 96 L (fld H a 9 :: S) k n H Q) := W_getf (rfl : (pj lw).1 36 93 = some (.getfield 19, 3, 9))
theorem w36_96 {x : Int32} {l0 : Slot} : W (pj lw) 36 96 (l0 :: .val (.int x) :: L) S k n H Q ↔ W (pj lw) 36 97 (l0 :: .val (.int x) :: L) (.int x :: S) k n H Q := W_s (rfl : (pj lw).1 36 96 = some (.iload_n 1, 1, 0)) rfl rfl rfl
theorem w36_97 {x : Nat} : W (pj lw) 36 97 (.val (.ref x) :: L) S k n H Q ↔ W (pj lw) 36 98 (.val (.ref x) :: L) (.ref x :: S) k n H Q := W_s (rfl : (pj lw).1 36 97 = some (.aload_n 0, 1, 0)) rfl rfl rfl
theorem w36_98 {a : Nat} : W (pj lw) 36 98 L (.ref a :: S) k n H Q ↔ (isO H a = true ∧ W (pj lw) 36 101 L (fld H a 9 :: S) k n H Q) := W_getf (rfl : (pj lw).1 36 98 = some (.getfield 19, 3, 9))
theorem w36_101 {x : Int32} {l0 : Slot} : W (pj lw) 36 101 (l0 :: .val (.int x) :: L) S k n H Q ↔ W (pj lw) 36 102 (l0 :: .val (.int x) :: L) (.int x :: S) k n H Q := W_s (rfl : (pj lw).1 36 101 = some (.iload_n 1, 1, 0)) rfl rfl rfl
theorem w36_102 {i : Int32} {a : Nat} : W (pj lw) 36 102 L (.int i :: .ref a :: S) k n H Q ↔ (inA H a .int i = true ∧ W (pj lw) 36 103 L (elt H a i :: S) k n H Q) := W_iaload (rfl : (pj lw).1 36 102 = some (.iaload, 1, 0))
theorem w36_103 : W (pj lw) 36 103 L S k n H Q ↔ W (pj lw) 36 104 L (.int 1 :: S) k n H Q := W_s (rfl : (pj lw).1 36 103 = some (.iconst 1, 1, 0)) rfl rfl rfl
theorem w36_104 {x y : Int32} : W (pj lw) 36 104 L (.int y :: .int x :: S) k n H Q ↔ W (pj lw) 36 105 L (.int (x + y) :: S) k n H Q := W_s (rfl : (pj lw).1 36 104 = some (.iadd, 1, 0)) rfl rfl rfl
theorem w36_105 {x i : Int32} {a : Nat} : W (pj lw) 36 105 L (.int x :: .int i :: .ref a :: S) k n H Q ↔ (inAw H a .int i = true ∧ W (pj lw) 36 106 L S k n (wr H a i.toNatClampNeg (.int x)) Q) := W_iastore (rfl : (pj lw).1 36 105 = some (.iastore, 1, 0))
theorem w36_106 : W (pj lw) 36 106 L S k n H Q ↔ W (pj lw) 36 107 L (.int 1 :: S) k n H Q := W_s (rfl : (pj lw).1 36 106 = some (.iconst 1, 1, 0)) rfl rfl rfl
theorem w36_107i {y : Int32} {x : Int32} {l0 l1 l2 l3 : Slot} : W (pj lw) 36 107 (l0 :: l1 :: l2 :: l3 :: .val (.int y) :: L) (.int x :: S) k n H Q ↔ W (pj lw) 36 109 (l0 :: l1 :: l2 :: l3 :: .val (.int x) :: L) S k n H Q := W_ist (rfl : (pj lw).1 36 107 = some (.istore 4, 2, 0)) rfl rfl
theorem w36_109 {x : Int32} {l0 l1 l2 l3 l4 : Slot} : W (pj lw) 36 109 (l0 :: l1 :: l2 :: l3 :: l4 :: .val (.int x) :: L) S k n H Q ↔ W (pj lw) 36 112 (l0 :: l1 :: l2 :: l3 :: l4 :: .val (.int (x + 1)) :: L) S k n H Q := W_s (rfl : (pj lw).1 36 109 = some (.iinc 5 1, 3, 0)) rfl rfl rfl
theorem w36_112 : W (pj lw) 36 112 L S k n H Q ↔ W (pj lw) 36 13 L S k n H Q := W_goto (rfl : (pj lw).1 36 112 = some (.goto (-99), 3, 0)) rfl
theorem w36_115 {x : Int32} {l0 l1 l2 l3 : Slot} : W (pj lw) 36 115 (l0 :: l1 :: l2 :: l3 :: .val (.int x) :: L) S k n H Q ↔ W (pj lw) 36 117 (l0 :: l1 :: l2 :: l3 :: .val (.int x) :: L) (.int x :: S) k n H Q := W_s (rfl : (pj lw).1 36 115 = some (.iload 4, 2, 0)) rfl rfl rfl
theorem w36_117 {x : Int32} : W (pj lw) 36 117 L (.int x :: S) k n H Q ↔ ((x = 0 ∨ x = 1) ∧ Q (some (.int x)) H) := W_rz (rfl : (pj lw).1 36 117 = some (.ireturn, 1, 0)) rfl
theorem c37 {x0 : Nat} {x1 : Int32} : Cl (pj lw) 37 [.ref x0, .int x1] H Q ↔ W (pj lw) 37 0 [.val (.ref x0), .val (.int x1), .unset] [] 0 0 H Q := cl_unf rfl
theorem w37_0 {x : Nat} : W (pj lw) 37 0 (.val (.ref x) :: L) S k n H Q ↔ W (pj lw) 37 1 (.val (.ref x) :: L) (.ref x :: S) k n H Q := W_s (rfl : (pj lw).1 37 0 = some (.aload_n 0, 1, 0)) rfl rfl rfl
theorem w37_1 {x : Int32} {l0 : Slot} : W (pj lw) 37 1 (l0 :: .val (.int x) :: L) S k n H Q ↔ W (pj lw) 37 2 (l0 :: .val (.int x) :: L) (.int x :: S) k n H Q := W_s (rfl : (pj lw).1 37 1 = some (.iload_n 1, 1, 0)) rfl rfl rfl
theorem w37_2 {a : Nat} {x0 : Int32} : W (pj lw) 37 2 L (.int x0 :: .ref a :: S) k n H Q ↔ ((isO H a = true ∧ cs S + (4 + 11) + 74 ≤ 89) ∧ Cl (pj lw) 25 [.ref a, .int x0] H (fun v H => W (pj lw) 37 5 L (v.toList ++ S) k n H Q)) := W_inst (as := [.int x0]) (rfl : (pj lw).1 37 2 = some (.invokevirtual 136, 3, 25)) rfl rfl rfl (Nat.le_of_ble_eq_true rfl) (Nat.le_of_ble_eq_true rfl) ⟨rfl, rfl⟩
theorem w37_5 {x : Int32} {l0 l1 : Slot} : W (pj lw) 37 5 (l0 :: l1 :: .unset :: L) (.int x :: S) k n H Q ↔ W (pj lw) 37 6 (l0 :: l1 :: .val (.int x) :: L) S k n H Q := W_istn (rfl : (pj lw).1 37 5 = some (.istore_n 2, 1, 0)) rfl rfl
theorem w37_6 {x : Nat} : W (pj lw) 37 6 (.val (.ref x) :: L) S k n H Q ↔ W (pj lw) 37 7 (.val (.ref x) :: L) (.ref x :: S) k n H Q := W_s (rfl : (pj lw).1 37 6 = some (.aload_n 0, 1, 0)) rfl rfl rfl
theorem w37_7 {a : Nat} : W (pj lw) 37 7 L (.ref a :: S) k n H Q ↔ (isO H a = true ∧ W (pj lw) 37 10 L (fld H a 8 :: S) k n H Q) := W_getf (rfl : (pj lw).1 37 7 = some (.getfield 16, 3, 8))
theorem w37_10 {x : Int32} {l0 : Slot} : W (pj lw) 37 10 (l0 :: .val (.int x) :: L) S k n H Q ↔ W (pj lw) 37 11 (l0 :: .val (.int x) :: L) (.int x :: S) k n H Q := W_s (rfl : (pj lw).1 37 10 = some (.iload_n 1, 1, 0)) rfl rfl rfl
theorem w37_11 {x : Int32} {l0 l1 : Slot} : W (pj lw) 37 11 (l0 :: l1 :: .val (.int x) :: L) S k n H Q ↔ W (pj lw) 37 12 (l0 :: l1 :: .val (.int x) :: L) (.int x :: S) k n H Q := W_s (rfl : (pj lw).1 37 11 = some (.iload_n 2, 1, 0)) rfl rfl rfl
theorem w37_12 {x i : Int32} {a : Nat} : W (pj lw) 37 12 L (.int x :: .int i :: .ref a :: S) k n H Q ↔ (inAw H a .int i = true ∧ W (pj lw) 37 13 L S k n (wr H a i.toNatClampNeg (.int x)) Q) := W_iastore (rfl : (pj lw).1 37 12 = some (.iastore, 1, 0))
theorem w37_13 {x : Int32} {l0 l1 : Slot} : W (pj lw) 37 13 (l0 :: l1 :: .val (.int x) :: L) S k n H Q ↔ W (pj lw) 37 14 (l0 :: l1 :: .val (.int x) :: L) (.int x :: S) k n H Q := W_s (rfl : (pj lw).1 37 13 = some (.iload_n 2, 1, 0)) rfl rfl rfl
theorem w37_14 {x : Int32} : W (pj lw) 37 14 L (.int x :: S) k n H Q ↔ (if x = 0 then W (pj lw) 37 56 L S k n H Q else W (pj lw) 37 17 L S k n H Q) := W_if_eq (rfl : (pj lw).1 37 14 = some (.ifCond .eq 42, 3, 0)) rfl
theorem w37_17 {x : Nat} : W (pj lw) 37 17 (.val (.ref x) :: L) S k n H Q ↔ W (pj lw) 37 18 (.val (.ref x) :: L) (.ref x :: S) k n H Q := W_s (rfl : (pj lw).1 37 17 = some (.aload_n 0, 1, 0)) rfl rfl rfl
theorem w37_18 {x : Int32} {l0 : Slot} : W (pj lw) 37 18 (l0 :: .val (.int x) :: L) S k n H Q ↔ W (pj lw) 37 19 (l0 :: .val (.int x) :: L) (.int x :: S) k n H Q := W_s (rfl : (pj lw).1 37 18 = some (.iload_n 1, 1, 0)) rfl rfl rfl
theorem w37_19 {a : Nat} {x0 : Int32} : W (pj lw) 37 19 L (.int x0 :: .ref a :: S) k n H Q ↔ ((isO H a = true ∧ cs S + (2 + 11) + 0 ≤ 89) ∧ Cl (pj lw) 24 [.ref a, .int x0] H (fun v H => W (pj lw) 37 22 L (v.toList ++ S) k n H Q)) := W_inst (as := [.int x0]) (rfl : (pj lw).1 37 19 = some (.invokevirtual 139, 3, 24)) rfl rfl rfl (Nat.le_of_ble_eq_true rfl) (Nat.le_of_ble_eq_true rfl) ⟨rfl, rfl⟩
theorem w37_22 {x : Int32} : W (pj lw) 37 22 L (.int x :: S) k n H Q ↔ (if x = 0 then W (pj lw) 37 56 L S k n H Q else W (pj lw) 37 25 L S k n H Q) := W_if_eq (rfl : (pj lw).1 37 22 = some (.ifCond .eq 34, 3, 0)) rfl
theorem w37_25 {x : Nat} : W (pj lw) 37 25 (.val (.ref x) :: L) S k n H Q ↔ W (pj lw) 37 26 (.val (.ref x) :: L) (.ref x :: S) k n H Q := W_s (rfl : (pj lw).1 37 25 = some (.aload_n 0, 1, 0)) rfl rfl rfl
theorem w37_26 {x : Nat} : W (pj lw) 37 26 (.val (.ref x) :: L) S k n H Q ↔ W (pj lw) 37 27 (.val (.ref x) :: L) (.ref x :: S) k n H Q := W_s (rfl : (pj lw).1 37 26 = some (.aload_n 0, 1, 0)) rfl rfl rfl
theorem w37_27 {a : Nat} : W (pj lw) 37 27 L (.ref a :: S) k n H Q ↔ (isO H a = true ∧ W (pj lw) 37 30 L (fld H a 6 :: S) k n H Q) := W_getf (rfl : (pj lw).1 37 27 = some (.getfield 7, 3, 6))
theorem w37_30 {x : Int32} {l0 : Slot} : W (pj lw) 37 30 (l0 :: .val (.int x) :: L) S k n H Q ↔ W (pj lw) 37 31 (l0 :: .val (.int x) :: L) (.int x :: S) k n H Q := W_s (rfl : (pj lw).1 37 30 = some (.iload_n 1, 1, 0)) rfl rfl rfl
theorem w37_31 {i : Int32} {a : Nat} : W (pj lw) 37 31 L (.int i :: .ref a :: S) k n H Q ↔ (inA H a .int i = true ∧ W (pj lw) 37 32 L (elt H a i :: S) k n H Q) := W_iaload (rfl : (pj lw).1 37 31 = some (.iaload, 1, 0))
theorem w37_32 {x : Int32} {l0 l1 : Slot} : W (pj lw) 37 32 (l0 :: l1 :: .val (.int x) :: L) S k n H Q ↔ W (pj lw) 37 33 (l0 :: l1 :: .val (.int x) :: L) (.int x :: S) k n H Q := W_s (rfl : (pj lw).1 37 32 = some (.iload_n 2, 1, 0)) rfl rfl rfl
theorem w37_33 {a : Nat} {x0 : Int32} {x1 : Int32} : W (pj lw) 37 33 L (.int x1 :: .int x0 :: .ref a :: S) k n H Q ↔ ((isO H a = true ∧ cs S + (4 + 11) + 13 ≤ 89) ∧ Cl (pj lw) 19 [.ref a, .int x0, .int x1] H (fun v H => W (pj lw) 37 36 L (v.toList ++ S) k n H Q)) := W_inst (as := [.int x0, .int x1]) (rfl : (pj lw).1 37 33 = some (.invokevirtual 79, 3, 19)) rfl rfl rfl (Nat.le_of_ble_eq_true rfl) (Nat.le_of_ble_eq_true rfl) ⟨rfl, rfl⟩
theorem w37_36 {x : Int32} : W (pj lw) 37 36 L (.int x :: S) k n H Q ↔ (if x = 0 then W (pj lw) 37 56 L S k n H Q else W (pj lw) 37 39 L S k n H Q) := W_if_eq (rfl : (pj lw).1 37 36 = some (.ifCond .eq 20, 3, 0)) rfl
theorem w37_39 {x : Nat} : W (pj lw) 37 39 (.val (.ref x) :: L) S k n H Q ↔ W (pj lw) 37 40 (.val (.ref x) :: L) (.ref x :: S) k n H Q := W_s (rfl : (pj lw).1 37 39 = some (.aload_n 0, 1, 0)) rfl rfl rfl
theorem w37_40 {a : Nat} : W (pj lw) 37 40 L (.ref a :: S) k n H Q ↔ (isO H a = true ∧ W (pj lw) 37 43 L (fld H a 7 :: S) k n H Q) := W_getf (rfl : (pj lw).1 37 40 = some (.getfield 13, 3, 7))
theorem w37_43 {x : Int32} {l0 : Slot} : W (pj lw) 37 43 (l0 :: .val (.int x) :: L) S k n H Q ↔ W (pj lw) 37 44 (l0 :: .val (.int x) :: L) (.int x :: S) k n H Q := W_s (rfl : (pj lw).1 37 43 = some (.iload_n 1, 1, 0)) rfl rfl rfl
theorem w37_44 : W (pj lw) 37 44 L S k n H Q ↔ W (pj lw) 37 45 L (.int 1 :: S) k n H Q := W_s (rfl : (pj lw).1 37 44 = some (.iconst 1, 1, 0)) rfl rfl rfl
theorem w37_45 {x i : Int32} {a : Nat} : W (pj lw) 37 45 L (.int x :: .int i :: .ref a :: S) k n H Q ↔ (inAw H a .int i = true ∧ W (pj lw) 37 46 L S k n (wr H a i.toNatClampNeg (.int x)) Q) := W_iastore (rfl : (pj lw).1 37 45 = some (.iastore, 1, 0))
theorem w37_46 {x : Nat} : W (pj lw) 37 46 (.val (.ref x) :: L) S k n H Q ↔ W (pj lw) 37 47 (.val (.ref x) :: L) (.ref x :: S) k n H Q := W_s (rfl : (pj lw).1 37 46 = some (.aload_n 0, 1, 0)) rfl rfl rfl
theorem w37_47 {a : Nat} : W (pj lw) 37 47 L (.ref a :: S) k n H Q ↔ (isO H a = true ∧ W (pj lw) 37 50 L (fld H a 10 :: S) k n H Q) := W_getf (rfl : (pj lw).1 37 47 = some (.getfield 22, 3, 10))
theorem w37_50 {x : Int32} {l0 : Slot} : W (pj lw) 37 50 (l0 :: .val (.int x) :: L) S k n H Q ↔ W (pj lw) 37 51 (l0 :: .val (.int x) :: L) (.int x :: S) k n H Q := W_s (rfl : (pj lw).1 37 50 = some (.iload_n 1, 1, 0)) rfl rfl rfl
theorem w37_51 : W (pj lw) 37 51 L S k n H Q ↔ W (pj lw) 37 52 L (.int 3 :: S) k n H Q := W_s (rfl : (pj lw).1 37 51 = some (.iconst 3, 1, 0)) rfl rfl rfl
theorem w37_52 {x i : Int32} {a : Nat} : W (pj lw) 37 52 L (.int x :: .int i :: .ref a :: S) k n H Q ↔ (inAw H a .int i = true ∧ W (pj lw) 37 53 L S k n (wr H a i.toNatClampNeg (.int x)) Q) := W_iastore (rfl : (pj lw).1 37 52 = some (.iastore, 1, 0))
theorem w37_53 : W (pj lw) 37 53 L S k n H Q ↔ W (pj lw) 37 70 L S k n H Q := W_goto (rfl : (pj lw).1 37 53 = some (.goto 17, 3, 0)) rfl
theorem w37_56 {x : Nat} : W (pj lw) 37 56 (.val (.ref x) :: L) S k n H Q ↔ W (pj lw) 37 57 (.val (.ref x) :: L) (.ref x :: S) k n H Q := W_s (rfl : (pj lw).1 37 56 = some (.aload_n 0, 1, 0)) rfl rfl rfl
theorem w37_57 {a : Nat} : W (pj lw) 37 57 L (.ref a :: S) k n H Q ↔ (isO H a = true ∧ W (pj lw) 37 60 L (fld H a 7 :: S) k n H Q) := W_getf (rfl : (pj lw).1 37 57 = some (.getfield 13, 3, 7))
theorem w37_60 {x : Int32} {l0 : Slot} : W (pj lw) 37 60 (l0 :: .val (.int x) :: L) S k n H Q ↔ W (pj lw) 37 61 (l0 :: .val (.int x) :: L) (.int x :: S) k n H Q := W_s (rfl : (pj lw).1 37 60 = some (.iload_n 1, 1, 0)) rfl rfl rfl
theorem w37_61 : W (pj lw) 37 61 L S k n H Q ↔ W (pj lw) 37 62 L (.int 0 :: S) k n H Q := W_s (rfl : (pj lw).1 37 61 = some (.iconst 0, 1, 0)) rfl rfl rfl
theorem w37_62 {x i : Int32} {a : Nat} : W (pj lw) 37 62 L (.int x :: .int i :: .ref a :: S) k n H Q ↔ (inAw H a .int i = true ∧ W (pj lw) 37 63 L S k n (wr H a i.toNatClampNeg (.int x)) Q) := W_iastore (rfl : (pj lw).1 37 62 = some (.iastore, 1, 0))
theorem w37_63 {x : Nat} : W (pj lw) 37 63 (.val (.ref x) :: L) S k n H Q ↔ W (pj lw) 37 64 (.val (.ref x) :: L) (.ref x :: S) k n H Q := W_s (rfl : (pj lw).1 37 63 = some (.aload_n 0, 1, 0)) rfl rfl rfl
theorem w37_64 {a : Nat} : W (pj lw) 37 64 L (.ref a :: S) k n H Q ↔ (isO H a = true ∧ W (pj lw) 37 67 L (fld H a 10 :: S) k n H Q) := W_getf (rfl : (pj lw).1 37 64 = some (.getfield 22, 3, 10))
theorem w37_67 {x : Int32} {l0 : Slot} : W (pj lw) 37 67 (l0 :: .val (.int x) :: L) S k n H Q ↔ W (pj lw) 37 68 (l0 :: .val (.int x) :: L) (.int x :: S) k n H Q := W_s (rfl : (pj lw).1 37 67 = some (.iload_n 1, 1, 0)) rfl rfl rfl
theorem w37_68 : W (pj lw) 37 68 L S k n H Q ↔ W (pj lw) 37 69 L (.int 0 :: S) k n H Q := W_s (rfl : (pj lw).1 37 68 = some (.iconst 0, 1, 0)) rfl rfl rfl
theorem w37_69 {x i : Int32} {a : Nat} : W (pj lw) 37 69 L (.int x :: .int i :: .ref a :: S) k n H Q ↔ (inAw H a .int i = true ∧ W (pj lw) 37 70 L S k n (wr H a i.toNatClampNeg (.int x)) Q) := W_iastore (rfl : (pj lw).1 37 69 = some (.iastore, 1, 0))
theorem w37_70 : W (pj lw) 37 70 L [] k n H Q ↔ Q none H := W_r (rfl : (pj lw).1 37 70 = some (.return_, 1, 0)) rfl
end Pc
section A
variable {lw : LW} {H : AH} {p j : Nat} {s : St} {Q : Option Value → AH → Prop} {a b c d : Int32} {h : Nat → Cel} {k n : Nat}
theorem t15 : Cl (pj lw) 15 [.ref p, .int a, .int b, .int c] H Q ↔ Q (some (.int (cl b c a))) H := by
  rw [c15]
  by_cases h1 : a < b <;> by_cases h2 : c < a <;> simp +decide only [w15_0, w15_1, w15_2, w15_5, w15_6, w15_7, w15_8, w15_9, w15_12, w15_13, w15_14, w15_15, ↓reduceIte, h1, h2, cl]
theorem l1 (m : Nat) : ∀ (i : Int32) (s : St), i.toInt = 32 - m → m ≤ 32 → (W (pj lw) 1 141 [.val (.ref p), .val (.int a), .val (.int b), .val (.int c), .val (.int i)] [] k n (ob H p s) Q ↔ Q none (ob H p (fA s 13 i.toNatClampNeg 32 (-1)))) := by
  induction m with
  | zero =>
    intro i s hi _
    have h1 : ¬ i < 32 := by rw [lt32]; simp only [Int32.reduceToInt]; omega
    rw [w1_141]; simp +decide only [w1_143, w1_145, w1_162, ↓reduceIte, h1]
    rw [fA_nil (by rw [cln]; omega)]
  | succ m ih =>
    intro i s hi hm
    have h1 : i < 32 := by rw [lt32]; simp only [Int32.reduceToInt]; omega
    have h2 : (i + 1).toInt = i.toInt + 1 := ia (by simp only [Int32.reduceToInt]; omega) (by simp only [Int32.reduceToInt]; omega)
    have h3 : 0 ≤ i.toInt ∧ i.toInt < 32 := by omega
    rw [w1_141]; simp +decide only [w1_143, w1_145, w1_148, w1_149, w1_152, w1_154, w1_155, w1_156, w1_159, isO_put, true_and, and_true, ↓reduceIte, g18, aw13, as13, h1, h3]
    rw [ih (i + 1) _ (by omega) (by omega)]
    have h4 : (i + 1).toNatClampNeg = i.toNatClampNeg + 1 := by rw [cln, cln]; omega
    rw [h4, fA_step (by rw [cln]; omega)]
def ini0 (a b c : Int32) : St := fA (uI (uI (uI z0 0 (cl 1 4 a)) 1 (cl 2 16 b)) 2 (cl 1 8 c)) 13 0 32 (-1)
set_option maxRecDepth 100000 in
theorem t1 : Cl (pj lw) 1 [.ref p, .int a, .int b, .int c] (put lay 0 (p + 1, h) p z0) Q ↔ Q none (ob (p + 14, h) p (ini0 a b c)) := by
  rw [c1]; simp +decide only [w1_0, w1_1, w1_4, w1_5, w1_6, w1_8, w1_11, w1_12, w1_13, w1_15, w1_18, w1_19, w1_20, w1_22, w1_25, w1_26, w1_27, w1_29, w1_32, w1_33, w1_34, w1_36, w1_39, w1_40, w1_42, w1_44, w1_47, w1_48, w1_50, w1_52, w1_55, w1_56, w1_58, w1_60, w1_63, w1_64, w1_66, w1_68, w1_71, w1_72, w1_74, w1_76, w1_79, w1_80, w1_82, w1_84, w1_87, w1_88, w1_90, w1_92, w1_95, w1_96, w1_98, w1_100, w1_103, w1_104, w1_105, w1_106, w1_107, w1_108, w1_111, w1_114, w1_115, w1_116, w1_117, w1_118, w1_120, w1_123, w1_126, w1_127, w1_128, w1_129, w1_130, w1_132, w1_135, w1_138, w1_139, zr_z0, isO_put, isOw_put, put_fst, okv_int, okv_ref, cs_nil, cs_ref, Option.toList_some, List.cons_append, List.nil_append, true_and, and_true, Nat.reduceAdd, Int32.reduceAdd, Int64.reduceAdd, Nat.add_zero, Nat.zero_add, Nat.le_refl, s0, s1, s2, mk1, io1, mk2, io2, mk3, io3, mk4, io4, mk5, io5, mk6, io6, mk7, io7, mk8, io8, mk9, io9, mk10, io10, mk11, io11, mk12, io12, mk13, io13, t15]
  rw [l1 32 0 _ (by decide) (by decide)]
  simp only [ini0, Int32.reduceToNatClampNeg]
end A

section B
variable {lw : LW} {H : AH} {p j : Nat} {s s' : St} {Q : Option Value → AH → Prop} {a b c d : Int32} {h : Nat → Cel} {k n : Nat}
def bz (x : Bool) : Int32 := if x = true then 1 else 0
theorem bz_t : bz true = 1 := rfl
theorem bz_f : bz false = 0 := rfl
def Ev (s : St) : Prop := (1 ≤ (sI s 0).toInt ∧ (sI s 0).toInt ≤ 4) ∧ (2 ≤ (sI s 1).toInt ∧ (sI s 1).toInt ≤ 16) ∧ (0 ≤ (sI s 4).toInt ∧ (sI s 4).toInt ≤ 32)
theorem Ev.of (h : Ev s) (h0 : sI s' 0 = sI s 0) (h1 : sI s' 1 = sI s 1) (h4 : sI s' 4 = sI s 4) : Ev s' := by unfold Ev; rw [h0, h1, h4]; exact h
def pc (s : St) : Nat := (sI s 4).toInt.toNat
def anyN (f : Nat → Bool) : Nat → Nat → Bool
  | _, 0 => false
  | j, k + 1 => if f j = true then true else anyN f (j + 1) k
def drn (s : St) (i : Nat) : Int32 := if sA s 7 i < sA s 8 i then 1 else -1
theorem t17 (h1 : 0 ≤ a.toInt ∧ a.toInt < 32) : Cl (pj lw) 17 [.ref p, .int a] (ob H p s) Q ↔ Q (some (.int (drn s a.toNatClampNeg))) (ob H p s) := by
  rw [c17]; unfold drn
  by_cases e : sA s 7 a.toNatClampNeg < sA s 8 a.toNatClampNeg <;> simp +decide only [w17_0, w17_1, w17_4, w17_5, w17_6, w17_7, w17_10, w17_11, w17_12, w17_15, w17_16, w17_19, w17_20, isO_put, true_and, and_true, ↓reduceIte, g12, g13, ai7, ae7, ai8, ae8, h1, e]
def slI (f x : Int32) : Int32 := f * 2 + (if x = 1 then 0 else 1)
theorem t18 : Cl (pj lw) 18 [.ref p, .int a, .int b] (ob H p s) Q ↔ Q (some (.int (slI a b))) (ob H p s) := by
  rw [c18]; unfold slI
  by_cases e : b = 1 <;> simp +decide only [w18_0, w18_1, w18_2, w18_3, w18_4, w18_5, w18_8, w18_9, w18_12, w18_13, w18_14, ↓reduceIte, e]
def wdF (s : St) (f x : Int32) (i : Nat) : Bool := decide (sA s 6 i = 1 ∧ sA s 7 i = f ∧ drn s i = x)
def wd (s : St) (f x : Int32) : Bool := anyN (wdF s f x) 0 (pc s)
def rdF (s : St) (c g : Int32) (i : Nat) : Bool := decide (sA s 6 i = 2 ∧ sA s 12 i = c ∧ sA s 8 i = g)
def rd (s : St) (c g : Int32) : Bool := anyN (rdF s c g) 0 (pc s)
theorem l19 (m : Nat) : ∀ (i : Int32), (sI s 4).toInt ≤ 32 → i.toInt = (sI s 4).toInt - m → 0 ≤ i.toInt →
    (W (pj lw) 19 2 [.val (.ref p), .val (.int a), .val (.int b), .val (.int i)] [] k n (ob H p s) Q ↔ Q (some (.int (bz (anyN (wdF s a b) i.toNatClampNeg m)))) (ob H p s)) := by
  induction m with
  | zero =>
    intro i hn hi h0
    have h1 : ¬ i < sI s 4 := by rw [lt32]; omega
    rw [w19_2]; simp +decide only [w19_3, w19_4, w19_7, w19_47, w19_48, isO_put, true_and, ↓reduceIte, g4, h1, anyN, bz_f]
  | succ m ih =>
    intro i hn hi h0
    have h1 : i < sI s 4 := by rw [lt32]; omega
    have h2 : (i + 1).toInt = i.toInt + 1 := ia (by simp only [Int32.reduceToInt]; omega) (by simp only [Int32.reduceToInt]; omega)
    have h3 : 0 ≤ i.toInt ∧ i.toInt < 32 := by omega
    have h4 : (i + 1).toNatClampNeg = i.toNatClampNeg + 1 := by rw [cln, cln]; omega
    have key := ih (i + 1) hn (by omega) (by omega)
    rw [h4] at key
    rw [anyN, w19_2]
    rcases Classical.propComplete (sA s 6 i.toNatClampNeg = 1) with e1 | e1 <;> rcases Classical.propComplete (sA s 7 i.toNatClampNeg = a) with e2 | e2 <;> rcases Classical.propComplete (drn s i.toNatClampNeg = b) with e3 | e3 <;>
    simp +decide only [w19_3, w19_4, w19_7, w19_10, w19_11, w19_14, w19_15, w19_16, w19_17, w19_20, w19_21, w19_24, w19_25, w19_26, w19_27, w19_30, w19_31, w19_32, w19_35, w19_36, w19_39, w19_40, w19_41, w19_44, isO_put, Option.toList_some, List.cons_append, List.nil_append, true_and, and_true, and_false, ↓reduceIte, g4, g11, g12, ai6, ae6, ai7, ae7, h1, h3, t17 h3, e1, e2, e3, key, bz_t, wdF, and_true, and_false, true_and, decide_true, decide_false, and_self]
theorem t19 (hE : Ev s) : Cl (pj lw) 19 [.ref p, .int a, .int b] (ob H p s) Q ↔ Q (some (.int (bz (wd s a b)))) (ob H p s) := by
  rw [c19]; simp +decide only [w19_0, w19_1]
  rw [l19 (pc s) 0 hE.2.2.2 (by unfold pc; simp only [Int32.reduceToInt]; have := hE.2.2; omega) (by decide)]; rfl
theorem l21 (m : Nat) : ∀ (i : Int32), (sI s 4).toInt ≤ 32 → i.toInt = (sI s 4).toInt - m → 0 ≤ i.toInt →
    (W (pj lw) 21 2 [.val (.ref p), .val (.int a), .val (.int b), .val (.int i)] [] k n (ob H p s) Q ↔ Q (some (.int (bz (anyN (rdF s a b) i.toNatClampNeg m)))) (ob H p s)) := by
  induction m with
  | zero =>
    intro i hn hi h0
    have h1 : ¬ i < sI s 4 := by rw [lt32]; omega
    rw [w21_2]; simp +decide only [w21_3, w21_4, w21_7, w21_48, w21_49, isO_put, true_and, ↓reduceIte, g4, h1, anyN, bz_f]
  | succ m ih =>
    intro i hn hi h0
    have h1 : i < sI s 4 := by rw [lt32]; omega
    have h2 : (i + 1).toInt = i.toInt + 1 := ia (by simp only [Int32.reduceToInt]; omega) (by simp only [Int32.reduceToInt]; omega)
    have h3 : 0 ≤ i.toInt ∧ i.toInt < 32 := by omega
    have h4 : (i + 1).toNatClampNeg = i.toNatClampNeg + 1 := by rw [cln, cln]; omega
    have key := ih (i + 1) hn (by omega) (by omega)
    rw [h4] at key
    rw [anyN, w21_2]
    rcases Classical.propComplete (sA s 6 i.toNatClampNeg = 2) with e1 | e1 <;> rcases Classical.propComplete (sA s 12 i.toNatClampNeg = a) with e2 | e2 <;> rcases Classical.propComplete (sA s 8 i.toNatClampNeg = b) with e3 | e3 <;>
    simp +decide only [w21_3, w21_4, w21_7, w21_10, w21_11, w21_14, w21_15, w21_16, w21_17, w21_20, w21_21, w21_24, w21_25, w21_26, w21_27, w21_30, w21_31, w21_34, w21_35, w21_36, w21_37, w21_40, w21_41, w21_42, w21_45, isO_put, true_and, and_true, and_false, ↓reduceIte, g4, g11, g13, g17, ai6, ae6, ai8, ae8, ai12, ae12, h1, h3, e1, e2, e3, key, bz_t, rdF, and_true, and_false, true_and, decide_true, decide_false, and_self]
theorem t21 (hE : Ev s) : Cl (pj lw) 21 [.ref p, .int a, .int b] (ob H p s) Q ↔ Q (some (.int (bz (rd s a b)))) (ob H p s) := by
  rw [c21]; simp +decide only [w21_0, w21_1]
  rw [l21 (pc s) 0 hE.2.2.2 (by unfold pc; simp only [Int32.reduceToInt]; have := hE.2.2; omega) (by decide)]; rfl
def asg (s : St) (f x c : Int32) : Bool := decide (¬ f < 0 ∧ f < sI s 1) && (wd s f x && decide (sA s 13 (slI f x).toNatClampNeg = c))
theorem slI_rg (hE : Ev s) (h1 : ¬ a < 0) (h2 : a < sI s 1) : 0 ≤ (slI a b).toInt ∧ (slI a b).toInt < 32 := by
  rw [lt32] at h1 h2; simp only [Int32.reduceToInt] at h1
  have := hE.2.1
  have e : (a * 2).toInt = a.toInt * 2 := im (by simp only [Int32.reduceToInt]; omega) (by simp only [Int32.reduceToInt]; omega)
  unfold slI; split
  · rw [ia (by rw [e]; simp only [Int32.reduceToInt]; omega) (by rw [e]; simp only [Int32.reduceToInt]; omega), e]; simp only [Int32.reduceToInt]; omega
  · rw [ia (by rw [e]; simp only [Int32.reduceToInt]; omega) (by rw [e]; simp only [Int32.reduceToInt]; omega), e]; simp only [Int32.reduceToInt]; omega
theorem t20 (hE : Ev s) : Cl (pj lw) 20 [.ref p, .int a, .int b, .int c] (ob H p s) Q ↔ Q (some (.int (bz (asg s a b c)))) (ob H p s) := by
  rw [c20]; unfold asg
  by_cases e1 : a < 0
  · simp +decide only [w20_0, w20_1, w20_12, w20_13, true_and, false_and, not_true_eq_false, ↓reduceIte, e1, decide_false, Bool.false_and, bz_f]
  by_cases e2 : a < sI s 1
  · have h3 := slI_rg (b := b) hE e1 e2
    cases e3 : wd s a b
    · simp +decide only [w20_0, w20_1, w20_4, w20_5, w20_6, w20_9, w20_14, w20_15, w20_16, w20_17, w20_20, w20_23, w20_24, isO_put, Option.toList_some, List.cons_append, List.nil_append, true_and, and_true, false_and, not_false_eq_true, ↓reduceIte, g1, e1, e2, e3, t19 hE, bz_f, decide_true, Bool.true_and, Bool.false_and]
    · rcases Classical.propComplete (sA s 13 (slI a b).toNatClampNeg = c) with e4 | e4 <;>
      simp +decide only [w20_0, w20_1, w20_4, w20_5, w20_6, w20_9, w20_14, w20_15, w20_16, w20_17, w20_20, w20_25, w20_26, w20_29, w20_30, w20_31, w20_32, w20_35, w20_36, w20_37, w20_40, w20_41, w20_44, w20_45, isO_put, cs_nil, cs_ref, Option.toList_some, List.cons_append, List.nil_append, true_and, and_true, not_false_eq_true, ↓reduceIte, Nat.reduceAdd, Nat.reduceLeDiff, Int32.reduceAdd, Int64.reduceAdd, Nat.add_zero, g1, g18, ai13, ae13, e1, e2, e3, e4, t19 hE, t18, h3, bz_t, bz_f, decide_true, decide_false, Bool.true_and]
  · simp +decide only [w20_0, w20_1, w20_4, w20_5, w20_6, w20_9, w20_12, w20_13, isO_put, true_and, false_and, and_false, not_false_eq_true, ↓reduceIte, g1, e1, e2, decide_false, Bool.false_and, bz_f]
def tg (s : St) (c g : Int32) : Bool := rd s c g || (asg s g 1 c || asg s g (-1) c)
theorem t22 (hE : Ev s) : Cl (pj lw) 22 [.ref p, .int a, .int b] (ob H p s) Q ↔ Q (some (.int (bz (tg s a b)))) (ob H p s) := by
  rw [c22]; unfold tg
  cases e1 : rd s a b <;> cases e2 : asg s b 1 a <;> cases e3 : asg s b (-1) a <;>
  simp +decide only [w22_0, w22_1, w22_2, w22_3, w22_6, w22_9, w22_10, w22_11, w22_12, w22_13, w22_16, w22_19, w22_20, w22_21, w22_22, w22_23, w22_26, w22_29, w22_30, w22_33, w22_34, isO_put, Option.toList_some, List.cons_append, List.nil_append, true_and, and_true, or_false, or_true, ↓reduceIte, t21 hE, t20 hE, e1, e2, e3, bz_t, bz_f, Bool.or_true, Bool.or_false]
def byF (s : St) (c x : Int32) (g : Nat) : Bool := decide ((x = 1 ∧ sA s 1 c.toNatClampNeg < Int32.ofNat g) ∨ (x = -1 ∧ Int32.ofNat g < sA s 1 c.toNatClampNeg)) && tg s c (Int32.ofNat g)
def byd (s : St) (c x : Int32) : Bool := anyN (byF s c x) 0 (sI s 1).toInt.toNat
theorem l23 (hE : Ev s) (m : Nat) : ∀ (i : Int32), i.toInt = (sI s 1).toInt - m → 0 ≤ i.toInt → ∀ l5 : Slot, (l5 = .unset ∨ ∃ v, l5 = .val (.int v)) →
    (W (pj lw) 23 10 [.val (.ref p), .val (.int a), .val (.int b), .val (.int (sA s 1 a.toNatClampNeg)), .val (.int i), l5] [] k n (ob H p s) Q ↔ Q (some (.int (bz (anyN (byF s a b) i.toNatClampNeg m)))) (ob H p s)) := by
  have hb := hE.2.1
  induction m with
  | zero =>
    intro i hi h0 l5 hl
    have h1 : ¬ i < sI s 1 := by rw [lt32]; omega
    rw [w23_10]; simp +decide only [w23_12, w23_13, w23_16, w23_71, w23_72, isO_put, true_and, ↓reduceIte, g1, h1, anyN, bz_f]
  | succ m ih =>
    intro i hi h0 l5 hl
    have h1 : i < sI s 1 := by rw [lt32]; omega
    have h2 : (i + 1).toInt = i.toInt + 1 := ia (by simp only [Int32.reduceToInt]; omega) (by simp only [Int32.reduceToInt]; omega)
    have h4 : (i + 1).toNatClampNeg = i.toNatClampNeg + 1 := by rw [cln, cln]; omega
    have hof : Int32.ofNat i.toNatClampNeg = i := by rw [eq32, Int32.toInt_ofNat_of_lt (by rw [cln]; omega), cln]; omega
    have key := fun v => ih (i + 1) (by omega) (by omega) (.val (.int v)) (Or.inr ⟨v, rfl⟩)
    rw [h4] at key
    rw [anyN, w23_10]
    simp only [byF, hof]
    rcases hl with rfl | ⟨v, rfl⟩
    all_goals
      cases e5 : tg s a i <;> rcases Classical.propComplete (b = 1) with e1 | e1 <;> rcases Classical.propComplete (b = -1) with e2 | e2 <;> rcases Classical.propComplete (sA s 1 a.toNatClampNeg < i) with e3 | e3 <;> rcases Classical.propComplete (i < sA s 1 a.toNatClampNeg) with e4 | e4 <;>
      simp +decide only [w23_12, w23_13, w23_16, w23_19, w23_20, w23_21, w23_24, w23_26, w23_27, w23_30, w23_31, w23_32, w23_35, w23_37, w23_38, w23_41, w23_42, w23_45, w23_46i, w23_46, w23_48, w23_50, w23_53, w23_54, w23_55, w23_57, w23_60, w23_63, w23_64, w23_65, w23_68, isO_put, Option.toList_some, List.cons_append, List.nil_append, true_and, and_true, and_false, or_false, or_true, ↓reduceIte, g1, h1, t22 hE, e1, e2, e3, e4, e5, key, bz_t, bz_f, and_true, and_false, true_and, or_true, or_false, decide_true, decide_false, Bool.true_and, Bool.and_true, Bool.and_false]
theorem t23 (hE : Ev s) (ha : 0 ≤ a.toInt ∧ a.toInt < 4) : Cl (pj lw) 23 [.ref p, .int a, .int b] (ob H p s) Q ↔ Q (some (.int (bz (byd s a b)))) (ob H p s) := by
  rw [c23]; simp +decide only [w23_0, w23_1, w23_4, w23_5, w23_6, w23_7, w23_8, isO_put, true_and, and_true, g6, ai1, ae1, ha]
  rw [l23 hE (sI s 1).toInt.toNat 0 (by simp only [Int32.reduceToInt]; have := hE.2.1; omega) (by decide) .unset (Or.inl rfl)]; rfl
def rmm (s : St) (c : Int32) : Bool := decide (sA s 4 c.toNatClampNeg < sI s 2)
theorem t24 (ha : 0 ≤ a.toInt ∧ a.toInt < 4) : Cl (pj lw) 24 [.ref p, .int a] (ob H p s) Q ↔ Q (some (.int (bz (rmm s a)))) (ob H p s) := by
  rw [c24]; unfold rmm
  by_cases e : sA s 4 a.toNatClampNeg < sI s 2 <;> simp +decide only [w24_0, w24_1, w24_4, w24_5, w24_6, w24_7, w24_10, w24_13, w24_14, w24_17, w24_18, isO_put, true_and, and_true, ↓reduceIte, g2, g9, ai4, ae4, ha, e, bz_t, bz_f, decide_true, decide_false]
def sdr (s : St) (c : Int32) : Int32 := if sA s 3 c.toNatClampNeg = 0 then 1 else sA s 3 c.toNatClampNeg
def chs (s : St) (c : Int32) : Int32 :=
  if (byd s c (sdr s c) || wd s (sA s 1 c.toNatClampNeg) (sdr s c)) = true then sdr s c
  else if (byd s c (-(sdr s c)) || wd s (sA s 1 c.toNatClampNeg) (-(sdr s c))) = true then -(sdr s c) else 0
theorem t25 (hE : Ev s) (ha : 0 ≤ a.toInt ∧ a.toInt < 4) : Cl (pj lw) 25 [.ref p, .int a] (ob H p s) Q ↔ Q (some (.int (chs s a))) (ob H p s) := by
  rw [c25]; unfold chs
  have go : ∀ d : Int32, (W (pj lw) 25 19 [.val (.ref p), .val (.int a), .unset, .unset] [.int d] 0 0 (ob H p s) Q ↔ Q (some (.int (if (byd s a d || wd s (sA s 1 a.toNatClampNeg) d) = true then d else if (byd s a (-d) || wd s (sA s 1 a.toNatClampNeg) (-d)) = true then -d else 0))) (ob H p s)) := by
    intro d
    cases e1 : byd s a d <;> cases e2 : wd s (sA s 1 a.toNatClampNeg) d <;> cases e3 : byd s a (-d) <;> cases e4 : wd s (sA s 1 a.toNatClampNeg) (-d) <;>
    simp +decide only [w25_19, w25_20, w25_21, w25_24, w25_25, w25_26, w25_27, w25_28, w25_29, w25_30, w25_33, w25_36, w25_37, w25_38, w25_39, w25_42, w25_45, w25_46, w25_47, w25_48, w25_49, w25_50, w25_51, w25_54, w25_57, w25_58, w25_59, w25_60, w25_61, w25_64, w25_67, w25_68, w25_69, w25_70, w25_71, isO_put, Option.toList_some, List.cons_append, List.nil_append, true_and, and_true, ↓reduceIte, g6, ai1, ae1, ha, t23 hE ha, t19 hE, e1, e2, e3, e4, bz_t, bz_f]
  unfold sdr
  by_cases e : sA s 3 a.toNatClampNeg = 0
  · simp +decide only [w25_0, w25_1, w25_4, w25_5, w25_6, w25_18, isO_put, true_and, and_true, ↓reduceIte, g8, ai3, ae3, ha, e, go]
  · simp +decide only [w25_0, w25_1, w25_4, w25_5, w25_6, w25_9, w25_10, w25_13, w25_14, w25_15, isO_put, true_and, and_true, ↓reduceIte, g8, ai3, ae3, ha, e, go]
def eQ (s : St) (c : Nat) : Int32 := if sA s 2 c = 3 then sA s 1 c + sA s 3 c else sA s 1 c
def eD (s : St) (c : Nat) (f x : Int32) : Int32 :=
  if sA s 3 c = 1 then (if x = 1 ∧ ¬ f < eQ s c then f - eQ s c else if x = -1 then (sI s 1 - 1 - eQ s c) + (sI s 1 - 1 - f) else (sI s 1 - 1 - eQ s c) + (sI s 1 - 1) + f)
  else if sA s 3 c = -1 then (if x = -1 ∧ ¬ eQ s c < f then eQ s c - f else if x = 1 then eQ s c + f else eQ s c + (sI s 1 - 1) + (sI s 1 - 1 - f))
  else (if ¬ f < eQ s c then f - eQ s c else eQ s c - f)
def etS (s : St) (c : Nat) (f x : Int32) : Int32 := if sA s 4 c = sI s 2 then 2 * eD s c f x + 64 else 2 * eD s c f x
set_option maxRecDepth 100000 in
theorem t30 (ha : 0 ≤ a.toInt ∧ a.toInt < 4) : Cl (pj lw) 30 [.ref p, .int a, .int b, .int c] (ob H p s) Q ↔ Q (some (.int (etS s a.toNatClampNeg b c))) (ob H p s) := by
  have fin : ∀ (l4 l5 l6 l7 : Slot) (d : Int32), W (pj lw) 30 181 [.val (.ref p), .val (.int a), .val (.int b), .val (.int c), l4, l5, l6, l7, .val (.int d), .unset] [] 0 0 (ob H p s) Q ↔ Q (some (.int (if sA s 4 a.toNatClampNeg = sI s 2 then 2 * d + 64 else 2 * d))) (ob H p s) := by
    intro l4 l5 l6 l7 d
    rcases Classical.propComplete (sA s 4 a.toNatClampNeg = sI s 2) with e | e <;> simp +decide only [w30_181, w30_182, w30_184, w30_185, w30_187, w30_188, w30_191, w30_192, w30_193, w30_194, w30_197, w30_200, w30_203, w30_205, isO_put, true_and, and_true, ↓reduceIte, g2, g9, ai4, ae4, ha, e]
  have mid : ∀ q : Int32, W (pj lw) 30 36 [.val (.ref p), .val (.int a), .val (.int b), .val (.int c), .val (.int (sA s 1 a.toNatClampNeg)), .val (.int (sA s 3 a.toNatClampNeg)), .unset, .unset, .unset, .unset] [.int q] 0 0 (ob H p s) Q ↔ Q (some (.int (if sA s 4 a.toNatClampNeg = sI s 2 then 2 * (if sA s 3 a.toNatClampNeg = 1 then (if c = 1 ∧ ¬ b < q then b - q else if c = -1 then (sI s 1 - 1 - q) + (sI s 1 - 1 - b) else (sI s 1 - 1 - q) + (sI s 1 - 1) + b)
      else if sA s 3 a.toNatClampNeg = -1 then (if c = -1 ∧ ¬ q < b then q - b else if c = 1 then q + b else q + (sI s 1 - 1) + (sI s 1 - 1 - b))
      else (if ¬ b < q then b - q else q - b)) + 64 else 2 * (if sA s 3 a.toNatClampNeg = 1 then (if c = 1 ∧ ¬ b < q then b - q else if c = -1 then (sI s 1 - 1 - q) + (sI s 1 - 1 - b) else (sI s 1 - 1 - q) + (sI s 1 - 1) + b)
      else if sA s 3 a.toNatClampNeg = -1 then (if c = -1 ∧ ¬ q < b then q - b else if c = 1 then q + b else q + (sI s 1 - 1) + (sI s 1 - 1 - b))
      else (if ¬ b < q then b - q else q - b))))) (ob H p s) := by
    intro q
    rcases Classical.propComplete (sA s 3 a.toNatClampNeg = 1) with e1 | e1 <;> rcases Classical.propComplete (sA s 3 a.toNatClampNeg = -1) with e2 | e2 <;> rcases Classical.propComplete (c = 1) with e3 | e3 <;> rcases Classical.propComplete (c = -1) with e4 | e4 <;> rcases Classical.propComplete (b < q) with e5 | e5 <;> rcases Classical.propComplete (q < b) with e6 | e6 <;>
    simp +decide only [w30_36, w30_38, w30_39, w30_42, w30_43, w30_44, w30_46, w30_48, w30_49, w30_52, w30_53, w30_54, w30_57, w30_58, w30_60, w30_63, w30_64, w30_66, w30_67, w30_69, w30_72, w30_73, w30_74, w30_77, w30_79, w30_81, w30_82, w30_84, w30_85, w30_86, w30_87, w30_89, w30_92, w30_94, w30_96, w30_97, w30_99, w30_100, w30_101, w30_102, w30_104, w30_107, w30_109, w30_110, w30_113, w30_114, w30_115, w30_118, w30_119, w30_121, w30_124, w30_126, w30_127, w30_128, w30_130, w30_133, w30_134, w30_135, w30_138, w30_140, w30_141, w30_142, w30_144, w30_147, w30_149, w30_151, w30_152, w30_154, w30_155, w30_156, w30_157, w30_159, w30_162, w30_163, w30_165, w30_168, w30_169, w30_171, w30_172, w30_175, w30_177, w30_178, w30_179, isO_put, true_and, and_true, and_false, not_true_eq_false, not_false_eq_true, ↓reduceIte, g1, e1, e2, e3, e4, e5, e6, fin]
  rw [c30]; unfold etS eD eQ
  rcases Classical.propComplete (sA s 2 a.toNatClampNeg = 3) with e | e <;> simp +decide only [w30_0, w30_1, w30_4, w30_5, w30_6, w30_8, w30_9, w30_12, w30_13, w30_14, w30_16, w30_17, w30_20, w30_21, w30_22, w30_23, w30_26, w30_28, w30_30, w30_31, w30_34, isO_put, true_and, and_true, ↓reduceIte, g6, g7, g8, ai1, ae1, ai2, ae2, ai3, ae3, ha, e, mid]
end B

section C
variable {lw : LW} {H : AH} {p j : Nat} {s s' : St} {Q : Option Value → AH → Prop} {a b c d : Int32} {h : Nat → Cel} {k n : Nat}
def itF (f : St → Nat → St) : Nat → Nat → St → St
  | 0, _, s => s
  | m + 1, e, s => itF f m (e + 1) (f s e)
theorem itF_inv {f : St → Nat → St} {I : St → Prop} (hf : ∀ s e, I s → I (f s e)) : ∀ (m e : Nat) (s : St), I s → I (itF f m e s)
  | 0, _, _, h => h
  | m + 1, e, s, h => itF_inv hf m (e + 1) (f s e) (hf s e h)
theorem itF_ind {f : St → Nat → St} {I : St → Prop} : ∀ (m e : Nat) (s : St), (∀ s k, e ≤ k → k < e + m → I s → I (f s k)) → I s → I (itF f m e s)
  | 0, _, _, _, h => h
  | m + 1, e, s, hf, h => itF_ind m (e + 1) (f s e) (fun s k a b => hf s k (by omega) (by omega)) (hf s e (Nat.le_refl _) (by omega) h)
theorem ofn {i : Int32} (h : 0 ≤ i.toInt ∧ i.toInt < 1000) : Int32.ofNat i.toNatClampNeg = i := by rw [eq32, Int32.toInt_ofNat_of_lt (by rw [cln]; omega), cln]; omega
def bsF (s : St) (f x : Int32) : Nat → Nat → Int32 → Int32 → Int32 × Int32
  | 0, _, b, e => (b, e)
  | m + 1, c, b, e => if b = -1 ∨ etS s c f x < e then bsF s f x m (c + 1) (Int32.ofNat c) (etS s c f x) else bsF s f x m (c + 1) b e
def asB0 (s : St) (f x : Int32) (be : Int32 × Int32) : Int32 :=
  if (¬ sA s 13 (slI f x).toNatClampNeg < 0 ∧ sA s 13 (slI f x).toNatClampNeg < sI s 0) ∧ etS s (sA s 13 (slI f x).toNatClampNeg).toNatClampNeg f x = be.2 then sA s 13 (slI f x).toNatClampNeg else be.1
def asB (s : St) (f x : Int32) : Int32 := asB0 s f x (bsF s f x (sI s 0).toInt.toNat 0 (-1) 0)
def asS (s : St) (f x : Int32) : St := if wd s f x = true then uA s 13 (slI f x).toNatClampNeg (asB s f x) else uA s 13 (slI f x).toNatClampNeg (-1)
theorem f29 (hE : Ev s) (hi : 0 ≤ (slI a b).toInt ∧ (slI a b).toInt < 32) {l6 l7 : Slot} (h6 : ∃ v, l6 = .val (.int v)) (hl : l7 = .unset ∨ ∃ v, l7 = .val (.int v)) :
    W (pj lw) 29 79 [.val (.ref p), .val (.int a), .val (.int b), .val (.int (slI a b)), .val (.int c), .val (.int d), l6, l7] [] k n (ob H p s) Q ↔ Q none (ob H p (uA s 13 (slI a b).toNatClampNeg (asB0 s a b (c, d)))) := by
  obtain ⟨v6, rfl⟩ := h6
  unfold asB0
  by_cases e1 : sA s 13 (slI a b).toNatClampNeg < 0
  · rcases hl with rfl | ⟨v, rfl⟩ <;> simp +decide only [w29_79, w29_80, w29_83, w29_84, w29_85i, w29_87, w29_89, w29_122, w29_123, w29_126, w29_127, w29_129, w29_130, isO_put, true_and, and_true, false_and, not_true_eq_false, ↓reduceIte, g18, ai13, aw13, ae13, as13, hi, e1]
  by_cases e2 : sA s 13 (slI a b).toNatClampNeg < sI s 0
  · have h4 : 0 ≤ (sA s 13 (slI a b).toNatClampNeg).toInt ∧ (sA s 13 (slI a b).toNatClampNeg).toInt < 4 := by
      rw [lt32] at e1 e2; simp only [Int32.reduceToInt] at e1; have := hE.1; omega
    rcases hl with rfl | ⟨v, rfl⟩ <;> rcases Classical.propComplete (etS s (sA s 13 (slI a b).toNatClampNeg).toNatClampNeg a b = d) with e3 | e3 <;> simp +decide only [w29_79, w29_80, w29_83, w29_84, w29_85i, w29_87, w29_89, w29_92, w29_94, w29_95, w29_98, w29_101, w29_102, w29_104, w29_105, w29_106, w29_109i, w29_109, w29_111, w29_113, w29_115, w29_118, w29_120i, w29_122, w29_123, w29_126, w29_127, w29_129, w29_130, isO_put, Option.toList_some, List.cons_append, List.nil_append, true_and, and_true, and_false, not_false_eq_true, ↓reduceIte, g0, g18, ai13, aw13, ae13, as13, hi, e1, e2, e3, t30 h4]
  · rcases hl with rfl | ⟨v, rfl⟩ <;> simp +decide only [w29_79, w29_80, w29_83, w29_84, w29_85i, w29_87, w29_89, w29_92, w29_94, w29_95, w29_98, w29_122, w29_123, w29_126, w29_127, w29_129, w29_130, isO_put, true_and, and_true, false_and, and_false, not_false_eq_true, ↓reduceIte, g0, g18, ai13, aw13, ae13, as13, hi, e1, e2]
theorem l29 (hE : Ev s) (hx : 0 ≤ (slI a b).toInt ∧ (slI a b).toInt < 32) (m : Nat) : ∀ (i c d : Int32), i.toInt = (sI s 0).toInt - m → 0 ≤ i.toInt → ∀ l7 : Slot, (l7 = .unset ∨ ∃ v, l7 = .val (.int v)) →
     (W (pj lw) 29 33 [.val (.ref p), .val (.int a), .val (.int b), .val (.int (slI a b)), .val (.int c), .val (.int d), .val (.int i), l7] [] k n (ob H p s) Q ↔ Q none (ob H p (uA s 13 (slI a b).toNatClampNeg (asB0 s a b (bsF s a b m i.toNatClampNeg c d))))) := by
  have hb := hE.1
  induction m with
  | zero =>
    intro i c d hi h0 l7 hl
    have h1 : ¬ i < sI s 0 := by rw [lt32]; omega
    rw [w29_33]; simp +decide only [w29_35, w29_36, w29_39, isO_put, true_and, ↓reduceIte, g0, h1]
    rw [f29 hE hx ⟨_, rfl⟩ hl, bsF]
  | succ m ih =>
    intro i c d hi h0 l7 hl
    have h1 : i < sI s 0 := by rw [lt32]; omega
    have h2 : (i + 1).toInt = i.toInt + 1 := ia (by simp only [Int32.reduceToInt]; omega) (by simp only [Int32.reduceToInt]; omega)
    have h3 : 0 ≤ i.toInt ∧ i.toInt < 4 := by omega
    have h4 : (i + 1).toNatClampNeg = i.toNatClampNeg + 1 := by rw [cln, cln]; omega
    have hof := ofn (i := i) (by omega)
    have key := fun c d v => ih (i + 1) c d (by omega) (by omega) (.val (.int v)) (Or.inr ⟨v, rfl⟩)
    rw [h4] at key
    rw [bsF, w29_33]
    rcases hl with rfl | ⟨v, rfl⟩ <;> rcases Classical.propComplete (c = -1) with e1 | e1 <;> rcases Classical.propComplete (etS s i.toNatClampNeg a b < d) with e2 | e2 <;>
    simp +decide only [w29_35, w29_36, w29_39, w29_42, w29_43, w29_45, w29_46, w29_47, w29_50i, w29_50, w29_52, w29_54, w29_55, w29_58, w29_60, w29_62, w29_65, w29_67i, w29_69, w29_71i, w29_73, w29_76, isO_put, Option.toList_some, List.cons_append, List.nil_append, true_and, and_true, or_false, or_true, ↓reduceIte, g0, h1, h3, t30 h3, e1, e2, key, hof]
theorem t29 (hE : Ev s) (h1 : ¬ a < 0) (h2 : a < sI s 1) : Cl (pj lw) 29 [.ref p, .int a, .int b] (ob H p s) Q ↔ Q none (ob H p (asS s a b)) := by
  have hx := slI_rg (b := b) hE h1 h2
  rw [c29]; unfold asS asB
  cases e : wd s a b
  · simp +decide only [w29_0, w29_1, w29_2, w29_3, w29_6, w29_7, w29_8, w29_9, w29_10, w29_13, w29_16, w29_17, w29_20, w29_21, w29_22, w29_23, isO_put, Option.toList_some, List.cons_append, List.nil_append, true_and, and_true, ↓reduceIte, g18, aw13, as13, hx, t18, t19 hE, e, bz_f]
  · simp +decide only [w29_0, w29_1, w29_2, w29_3, w29_6, w29_7, w29_8, w29_9, w29_10, w29_13, w29_24, w29_25, w29_27, w29_28, w29_30, w29_31, isO_put, Option.toList_some, List.cons_append, List.nil_append, true_and, and_true, ↓reduceIte, t18, t19 hE, e, bz_t]
    rw [l29 hE hx (sI s 0).toInt.toNat 0 (-1) 0 (by simp only [Int32.reduceToInt]; have := hE.1; omega) (by decide) .unset (Or.inl rfl)]
    simp only [Int32.reduceToNatClampNeg]
theorem asS_I {x : Nat} : sI (asS s a b) x = sI s x := by unfold asS; split <;> rw [sI_uA]
theorem Ev_as (h : Ev s) : Ev (asS s a b) := h.of asS_I asS_I asS_I
def dpF (s : St) (g : Nat) : St := asS (asS s (Int32.ofNat g) 1) (Int32.ofNat g) (-1)
theorem dpF_I {x g : Nat} : sI (dpF s g) x = sI s x := by unfold dpF; rw [asS_I, asS_I]
def dpS (s : St) : St := itF dpF (sI s 1).toInt.toNat 0 s
theorem dpS_I {x : Nat} : sI (dpS s) x = sI s x := itF_inv (I := fun v => sI v x = sI s x) (fun v e g => by rw [dpF_I]; exact g) _ _ _ rfl
theorem l28 (m : Nat) : ∀ (i : Int32) (s : St), Ev s → i.toInt = (sI s 1).toInt - m → 0 ≤ i.toInt → ∀ l2 l3 : Slot, ((l2 = .unset ∧ l3 = .unset) ∨ ∃ u v, l2 = .val (.int u) ∧ l3 = .val (.int v)) →
    (W (pj lw) 28 2 [.val (.ref p), .val (.int i), l2, l3] [] k n (ob H p s) Q ↔ Q none (ob H p (itF dpF m i.toNatClampNeg s))) := by
  induction m with
  | zero =>
    intro i s hE hi h0 l2 l3 hl
    have h1 : ¬ i < sI s 1 := by rw [lt32]; omega
    rw [w28_2]; simp +decide only [w28_3, w28_4, w28_7, w28_45, isO_put, true_and, ↓reduceIte, g1, h1, itF]
  | succ m ih =>
    intro i s hE hi h0 l2 l3 hl
    have hb := hE.2.1
    have h1 : i < sI s 1 := by rw [lt32]; omega
    have n0 : ¬ i < 0 := by rw [lt32]; simp only [Int32.reduceToInt]; omega
    have h2 : (i + 1).toInt = i.toInt + 1 := ia (by simp only [Int32.reduceToInt]; omega) (by simp only [Int32.reduceToInt]; omega)
    have h4 : (i + 1).toNatClampNeg = i.toNatClampNeg + 1 := by rw [cln, cln]; omega
    have hof := ofn (i := i) (by omega)
    have key := fun u v => ih (i + 1) (dpF s i.toNatClampNeg) (hE.of dpF_I dpF_I dpF_I) (by rw [dpF_I]; omega) (by omega) (.val (.int u)) (.val (.int v)) (Or.inr ⟨u, v, rfl, rfl⟩)
    rw [h4] at key
    have A1 := fun (Q : Option Value → AH → Prop) => t29 (lw := lw) (H := H) (p := p) (Q := Q) (b := 1) hE n0 h1
    have A2 := fun (Q : Option Value → AH → Prop) => t29 (lw := lw) (H := H) (p := p) (Q := Q) (b := -1) (Ev_as (a := i) (b := 1) hE) n0 (by rw [asS_I]; exact h1)
    rw [itF, w28_2]
    unfold dpF at key ⊢
    rw [hof] at key ⊢
    rcases hl with ⟨rfl, rfl⟩ | ⟨u, v, rfl, rfl⟩ <;>
    simp +decide only [w28_3, w28_4, w28_7, w28_10, w28_11i, w28_11, w28_13, w28_14, w28_17, w28_18, w28_21, w28_22, w28_25, w28_26i, w28_26, w28_27, w28_28, w28_29, w28_30, w28_33, w28_36, w28_39, w28_42, w28_12, isO_put, Option.toList_none, List.nil_append, true_and, and_true, ↓reduceIte, Nat.reduceAdd, Nat.reduceLeDiff, Int32.reduceAdd, Int64.reduceAdd, g1, h1, A1, A2, key]
theorem t28 (hE : Ev s) : Cl (pj lw) 28 [.ref p] (ob H p s) Q ↔ Q none (ob H p (dpS s)) := by
  rw [c28]; simp +decide only [w28_0, w28_1]
  rw [l28 (sI s 1).toInt.toNat 0 s hE (by simp only [Int32.reduceToInt]; have := hE.2.1; omega) (by decide) .unset .unset (Or.inl ⟨rfl, rfl⟩)]
  simp only [Int32.reduceToNatClampNeg, dpS]
def arF (s : St) (i : Nat) : St := if sA s 6 i = 0 ∧ sA s 9 i = sI s 3 then uA s 6 i 1 else s
theorem arF_I {x g : Nat} : sI (arF s g) x = sI s x := by unfold arF; split <;> simp only [sI_uA]
def arS (s : St) : St := itF arF (pc s) 0 s
theorem arS_I {x : Nat} : sI (arS s) x = sI s x := itF_inv (I := fun v => sI v x = sI s x) (fun v e g => by rw [arF_I]; exact g) _ _ _ rfl
theorem l27 (m : Nat) : ∀ (i : Int32) (s : St), (sI s 4).toInt ≤ 32 → i.toInt = (sI s 4).toInt - m → 0 ≤ i.toInt →
    (W (pj lw) 27 2 [.val (.ref p), .val (.int i)] [] k n (ob H p s) Q ↔ Q none (ob H p (itF arF m i.toNatClampNeg s))) := by
  induction m with
  | zero =>
    intro i s hE hi h0
    have h1 : ¬ i < sI s 4 := by rw [lt32]; omega
    rw [w27_2]; simp +decide only [w27_3, w27_4, w27_7, w27_45, isO_put, true_and, ↓reduceIte, g4, h1, itF]
  | succ m ih =>
    intro i s hE hi h0
    have h1 : i < sI s 4 := by rw [lt32]; omega
    have h2 : (i + 1).toInt = i.toInt + 1 := ia (by simp only [Int32.reduceToInt]; omega) (by simp only [Int32.reduceToInt]; omega)
    have h3 : 0 ≤ i.toInt ∧ i.toInt < 32 := by omega
    have h4 : (i + 1).toNatClampNeg = i.toNatClampNeg + 1 := by rw [cln, cln]; omega
    have key := ih (i + 1) (arF s i.toNatClampNeg) (by rw [arF_I]; omega) (by rw [arF_I]; omega) (by omega)
    rw [h4] at key
    rw [itF, w27_2, ← key]
    unfold arF
    rcases Classical.propComplete (sA s 6 i.toNatClampNeg = 0) with e1 | e1 <;> rcases Classical.propComplete (sA s 9 i.toNatClampNeg = sI s 3) with e2 | e2 <;>
    simp +decide only [w27_3, w27_4, w27_7, w27_10, w27_11, w27_14, w27_15, w27_16, w27_19, w27_20, w27_23, w27_24, w27_25, w27_26, w27_29, w27_32, w27_33, w27_36, w27_37, w27_38, w27_39, w27_42, isO_put, true_and, and_true, and_false, ↓reduceIte, g3, g4, g11, g14, ai6, aw6, ae6, as6, ai9, ae9, h1, h3, e1, e2]
theorem t27 (hE : Ev s) : Cl (pj lw) 27 [.ref p] (ob H p s) Q ↔ Q none (ob H p (arS s)) := by
  rw [c27]; simp +decide only [w27_0, w27_1]
  rw [l27 (pc s) 0 s hE.2.2.2 (by unfold pc; simp only [Int32.reduceToInt]; have := hE.2.2; omega) (by decide)]
  simp only [Int32.reduceToNatClampNeg, arS]
def dl1 (s : St) (c : Int32) (i : Nat) : St := uI (uA (uA (uA s 6 i 3) 11 i (sI s 3)) 4 c.toNatClampNeg (sA s 4 c.toNatClampNeg - 1)) 5 (sI s 5 + 1)
def dlF (c f : Int32) : Nat → Nat → Int32 → St → Int32 × St
  | 0, _, y, s => (y, s)
  | m + 1, i, y, s => if rdF s c f i = true then dlF c f m (i + 1) 1 (dl1 s c i) else dlF c f m (i + 1) y s
def bd1 (s : St) (c : Int32) (i : Nat) : St := uA (uA (uA (uA s 6 i 2) 10 i (sI s 3)) 12 i c) 4 c.toNatClampNeg (sA s 4 c.toNatClampNeg + 1)
def bdF (c d f : Int32) : Nat → Nat → Int32 → St → Int32 × St
  | 0, _, y, s => (y, s)
  | m + 1, i, y, s => if rmm s c = true then (if wdF s f d i = true then bdF c d f m (i + 1) 1 (bd1 s c i) else bdF c d f m (i + 1) y s) else (y, s)
theorem dl1_I {x i : Nat} (hx : x ≠ 5) : sI (dl1 s c i) x = sI s x := by simp only [dl1, sI_uI, sI_uA, hx, if_false]
theorem bd1_I {x i : Nat} : sI (bd1 s c i) x = sI s x := by simp only [bd1, sI_uA]
theorem dlF_I {x : Nat} {f : Int32} (hx : x ≠ 5) : ∀ (m i : Nat) (y : Int32) (s : St), sI (dlF c f m i y s).2 x = sI s x
  | 0, _, _, _ => rfl
  | m + 1, i, y, s => by rw [dlF]; split; rw [dlF_I hx, dl1_I hx]; rw [dlF_I hx]
theorem bdF_I {x : Nat} {f : Int32} : ∀ (m i : Nat) (y : Int32) (s : St), sI (bdF c d f m i y s).2 x = sI s x
  | 0, _, _, _ => rfl
  | m + 1, i, y, s => by
    rw [bdF]; split
    · split
      · rw [bdF_I, bd1_I]
      · rw [bdF_I]
    · rfl
theorem dlF_y {f : Int32} : ∀ (m i : Nat) (y : Int32) (s : St), y = 0 ∨ y = 1 → (dlF c f m i y s).1 = 0 ∨ (dlF c f m i y s).1 = 1
  | 0, _, _, _, h => h
  | m + 1, i, y, s, h => by rw [dlF]; split; exact dlF_y m _ _ _ (Or.inr rfl); exact dlF_y m _ _ _ h
theorem bdF_y {f : Int32} : ∀ (m i : Nat) (y : Int32) (s : St), y = 0 ∨ y = 1 → (bdF c d f m i y s).1 = 0 ∨ (bdF c d f m i y s).1 = 1
  | 0, _, _, _, h => h
  | m + 1, i, y, s, h => by
    rw [bdF]; split
    · split
      · exact bdF_y m _ _ _ (Or.inr rfl)
      · exact bdF_y m _ _ _ h
    · exact h
theorem l35 {f : Int32} (ha : 0 ≤ a.toInt ∧ a.toInt < 4) (m : Nat) : ∀ (i y : Int32) (s : St), (y = 0 ∨ y = 1) → (sI s 4).toInt ≤ 32 → i.toInt = (sI s 4).toInt - m → 0 ≤ i.toInt →
    (W (pj lw) 35 12 [.val (.ref p), .val (.int a), .val (.int f), .val (.int y), .val (.int i)] [] k n (ob H p s) Q ↔ Q (some (.int (dlF a f m i.toNatClampNeg y s).1)) (ob H p (dlF a f m i.toNatClampNeg y s).2)) := by
  induction m with
  | zero =>
    intro i y s hy hE hi h0
    have h1 : ¬ i < sI s 4 := by rw [lt32]; omega
    rw [w35_12]; simp +decide only [w35_14, w35_15, w35_18, w35_105, w35_106, isO_put, true_and, ↓reduceIte, g4, h1, dlF, hy]
  | succ m ih =>
    intro i y s hy hE hi h0
    have h1 : i < sI s 4 := by rw [lt32]; omega
    have h2 : (i + 1).toInt = i.toInt + 1 := ia (by simp only [Int32.reduceToInt]; omega) (by simp only [Int32.reduceToInt]; omega)
    have h3 : 0 ≤ i.toInt ∧ i.toInt < 32 := by omega
    have h4 : (i + 1).toNatClampNeg = i.toNatClampNeg + 1 := by rw [cln, cln]; omega
    have k1 := ih (i + 1) y s hy hE (by omega) (by omega)
    have k2 := ih (i + 1) 1 (dl1 s a i.toNatClampNeg) (Or.inr rfl) (by rw [dl1_I (by decide)]; omega) (by rw [dl1_I (by decide)]; omega) (by omega)
    rw [h4] at k1 k2
    unfold dl1 at k2
    rw [dlF, w35_12]; unfold rdF dl1
    rcases Classical.propComplete (sA s 6 i.toNatClampNeg = 2) with e1 | e1 <;> rcases Classical.propComplete (sA s 12 i.toNatClampNeg = a) with e2 | e2 <;> rcases Classical.propComplete (sA s 8 i.toNatClampNeg = f) with e3 | e3 <;>
    simp +decide only [w35_14, w35_15, w35_18, w35_21, w35_22, w35_25, w35_27, w35_28, w35_29, w35_32, w35_33, w35_36, w35_38, w35_39, w35_40, w35_43, w35_44, w35_47, w35_49, w35_50, w35_51, w35_54, w35_55, w35_58, w35_60, w35_61, w35_62, w35_63, w35_66, w35_68, w35_69, w35_72, w35_73, w35_74, w35_77, w35_78, w35_79, w35_82, w35_83, w35_84, w35_85, w35_86, w35_87, w35_88, w35_89, w35_92, w35_93, w35_94, w35_97, w35_98i, w35_99, w35_102, isO_put, isOw_put, okv_int, sI_uA, sA_uA, true_and, and_true, false_and, and_false, ↓reduceIte, g3, g4, g5, s5, g9, g11, g13, g16, g17, ai4, aw4, ae4, as4, ai6, aw6, ae6, as6, ai8, ae8, aw11, as11, ai12, ae12, h1, h3, ha, e1, e2, e3, k1, k2, decide_true, decide_false, and_self, Bool.false_eq_true]
def dlv (s : St) (c : Int32) : Int32 × St := dlF c (sA s 1 c.toNatClampNeg) (pc s) 0 0 s
def brd (s : St) (c d : Int32) : Int32 × St := bdF c d (sA s 1 c.toNatClampNeg) (pc s) 0 0 s
theorem t35 (hE : Ev s) (ha : 0 ≤ a.toInt ∧ a.toInt < 4) : Cl (pj lw) 35 [.ref p, .int a] (ob H p s) Q ↔ Q (some (.int (dlv s a).1)) (ob H p (dlv s a).2) := by
  rw [c35]; simp +decide only [w35_0, w35_1, w35_4, w35_5, w35_6, w35_7, w35_8, w35_9, w35_10, isO_put, true_and, and_true, g6, ai1, ae1, ha]
  rw [l35 ha (pc s) 0 0 s (Or.inl rfl) hE.2.2.2 (by unfold pc; simp only [Int32.reduceToInt]; have := hE.2.2; omega) (by decide)]
  simp only [Int32.reduceToNatClampNeg, dlv]
theorem l36 {f : Int32} (ha : 0 ≤ a.toInt ∧ a.toInt < 4) (m : Nat) : ∀ (i y : Int32) (s : St), (y = 0 ∨ y = 1) → (sI s 4).toInt ≤ 32 → i.toInt = (sI s 4).toInt - m → 0 ≤ i.toInt →
    (W (pj lw) 36 13 [.val (.ref p), .val (.int a), .val (.int b), .val (.int f), .val (.int y), .val (.int i)] [] k n (ob H p s) Q ↔ Q (some (.int (bdF a b f m i.toNatClampNeg y s).1)) (ob H p (bdF a b f m i.toNatClampNeg y s).2)) := by
  induction m with
  | zero =>
    intro i y s hy hE hi h0
    have h1 : ¬ i < sI s 4 := by rw [lt32]; omega
    rw [w36_13]; simp +decide only [w36_15, w36_16, w36_19, w36_115, w36_117, isO_put, true_and, ↓reduceIte, g4, h1, bdF, hy]
  | succ m ih =>
    intro i y s hy hE hi h0
    have h1 : i < sI s 4 := by rw [lt32]; omega
    have h2 : (i + 1).toInt = i.toInt + 1 := ia (by simp only [Int32.reduceToInt]; omega) (by simp only [Int32.reduceToInt]; omega)
    have h3 : 0 ≤ i.toInt ∧ i.toInt < 32 := by omega
    have h4 : (i + 1).toNatClampNeg = i.toNatClampNeg + 1 := by rw [cln, cln]; omega
    have k1 := ih (i + 1) y s hy hE (by omega) (by omega)
    have k2 := ih (i + 1) 1 (bd1 s a i.toNatClampNeg) (Or.inr rfl) (by rw [bd1_I]; omega) (by rw [bd1_I]; omega) (by omega)
    rw [h4] at k1 k2
    unfold bd1 at k2
    rw [bdF, w36_13]; unfold wdF bd1
    cases e0 : rmm s a
    · simp +decide only [w36_15, w36_16, w36_19, w36_22, w36_23, w36_24, w36_27, w36_30, w36_115, w36_117, isO_put, Option.toList_some, List.cons_append, List.nil_append, true_and, and_true, ↓reduceIte, g4, h1, t24 ha, e0, bz_f, hy]
    · rcases Classical.propComplete (sA s 6 i.toNatClampNeg = 1) with e1 | e1 <;> rcases Classical.propComplete (sA s 7 i.toNatClampNeg = f) with e2 | e2 <;> rcases Classical.propComplete (drn s i.toNatClampNeg = b) with e3 | e3 <;>
      simp +decide only [w36_15, w36_16, w36_19, w36_22, w36_23, w36_24, w36_27, w36_33, w36_34, w36_37, w36_39, w36_40, w36_41, w36_44, w36_45, w36_48, w36_50, w36_51, w36_52, w36_55, w36_56, w36_58, w36_61, w36_62, w36_65, w36_66, w36_69, w36_71, w36_72, w36_73, w36_74, w36_77, w36_79, w36_80, w36_83, w36_84, w36_85, w36_88, w36_90, w36_91, w36_92, w36_93, w36_96, w36_97, w36_98, w36_101, w36_102, w36_103, w36_104, w36_105, w36_106, w36_107i, w36_109, w36_112, isO_put, sI_uA, sA_uA, Option.toList_some, List.cons_append, List.nil_append, true_and, and_true, false_and, and_false, ↓reduceIte, g3, g4, g9, g11, g12, g15, g17, ai4, aw4, ae4, as4, ai6, aw6, ae6, as6, ai7, ae7, aw10, as10, aw12, as12, h1, h3, ha, t24 ha, t17 h3, e0, bz_t, e1, e2, e3, k1, k2, decide_true, decide_false, and_self, Bool.false_eq_true]
theorem t36 (hE : Ev s) (ha : 0 ≤ a.toInt ∧ a.toInt < 4) : Cl (pj lw) 36 [.ref p, .int a, .int b] (ob H p s) Q ↔ Q (some (.int (brd s a b).1)) (ob H p (brd s a b).2) := by
  rw [c36]; simp +decide only [w36_0, w36_1, w36_4, w36_5, w36_6, w36_7, w36_8, w36_10, w36_11, isO_put, true_and, and_true, g6, ai1, ae1, ha]
  rw [l36 ha (pc s) 0 0 s (Or.inl rfl) hE.2.2.2 (by unfold pc; simp only [Int32.reduceToInt]; have := hE.2.2; omega) (by decide)]
  simp only [Int32.reduceToNatClampNeg, brd]
end C

section D
variable {lw : LW} {H : AH} {p j : Nat} {s s' : St} {Q : Option Value → AH → Prop} {a b c d : Int32} {h : Nat → Cel} {k n : Nat}
theorem Ev_A {t i : Nat} {v : Int32} (h : Ev s) : Ev (uA s t i v) := h.of sI_uA sI_uA sI_uA
def ss1 (s : St) (c : Int32) : St := uA s 3 c.toNatClampNeg (chs s c)
def ssS (s : St) (c : Int32) : St :=
  if chs s c = 0 then ss1 s c
  else if (rmm (ss1 s c) c && wd (ss1 s c) (sA s 1 c.toNatClampNeg) (chs s c)) = true then uA (uA (ss1 s c) 2 c.toNatClampNeg 1) 5 c.toNatClampNeg 3
  else if byd (ss1 s c) c (chs s c) = true then uA (uA (ss1 s c) 2 c.toNatClampNeg 3) 5 c.toNatClampNeg 3 else ss1 s c
theorem ss1_1 {i : Nat} : sA (ss1 s c) 1 i = sA s 1 i := by simp +decide only [ss1, sA_uA, false_and, ↓reduceIte]
theorem t32 (hE : Ev s) (ha : 0 ≤ a.toInt ∧ a.toInt < 4) : Cl (pj lw) 32 [.ref p, .int a] (ob H p s) Q ↔ Q none (ob H p (ssS s a)) := by
  have hE1 : Ev (ss1 s a) := Ev_A hE
  have A24 := fun (Q : Option Value → AH → Prop) => t24 (lw := lw) (H := H) (p := p) (s := ss1 s a) (Q := Q) ha
  have A19 := fun (f x : Int32) (Q : Option Value → AH → Prop) => t19 (lw := lw) (H := H) (p := p) (s := ss1 s a) (Q := Q) (a := f) (b := x) hE1
  have A23 := fun (x : Int32) (Q : Option Value → AH → Prop) => t23 (lw := lw) (H := H) (p := p) (s := ss1 s a) (Q := Q) (b := x) hE1 ha
  rw [c32]; unfold ssS
  by_cases e0 : chs s a = 0
  · simp +decide only [w32_0, w32_1, w32_2, w32_5, w32_6, w32_7, w32_10, w32_11, w32_12, w32_13, w32_14, w32_17, isO_put, Option.toList_some, List.cons_append, List.nil_append, true_and, and_true, ↓reduceIte, g8, aw3, as3, ha, t25 hE ha, e0, ss1]
  · have e1 : ∀ i, sA (ss1 s a) 1 i = sA s 1 i := fun i => ss1_1
    have u : uA s 3 a.toNatClampNeg (chs s a) = ss1 s a := rfl
    cases e2 : rmm (ss1 s a) a <;> cases e3 : wd (ss1 s a) (sA s 1 a.toNatClampNeg) (chs s a) <;> cases e4 : byd (ss1 s a) a (chs s a) <;>
    simp +decide only [w32_0, w32_1, w32_2, w32_5, w32_6, w32_7, w32_10, w32_11, w32_12, w32_13, w32_14, w32_18, w32_19, w32_20, w32_23, w32_26, w32_27, w32_28, w32_31, w32_32, w32_33, w32_34, w32_37, w32_40, w32_41, w32_44, w32_45, w32_46, w32_47, w32_48, w32_51, w32_52, w32_53, w32_54, w32_57, w32_58, w32_59, w32_60, w32_63, w32_66, w32_67, w32_70, w32_71, w32_72, w32_73, w32_74, w32_77, w32_78, w32_79, w32_80, isO_put, Option.toList_some, List.cons_append, List.nil_append, true_and, and_true, ↓reduceIte, g6, g7, g8, g10, ai1, ae1, aw2, as2, aw3, as3, aw5, as5, ha, t25 hE ha, e0, u, e1, A24, A19, A23, e2, e3, e4, bz_t, bz_f, Bool.and_true, Bool.true_and]
def scS (s : St) (c : Int32) : St :=
  if ¬ chs s c = 0 ∧ (rmm (ss1 s c) c && wd (ss1 s c) (sA s 1 c.toNatClampNeg) (chs s c)) = true then uA (uA (ss1 s c) 2 c.toNatClampNeg 1) 5 c.toNatClampNeg 3 else uA (uA (ss1 s c) 2 c.toNatClampNeg 0) 5 c.toNatClampNeg 0
theorem t37 (hE : Ev s) (ha : 0 ≤ a.toInt ∧ a.toInt < 4) : Cl (pj lw) 37 [.ref p, .int a] (ob H p s) Q ↔ Q none (ob H p (scS s a)) := by
  have hE1 : Ev (ss1 s a) := Ev_A hE
  have A24 := fun (Q : Option Value → AH → Prop) => t24 (lw := lw) (H := H) (p := p) (s := ss1 s a) (Q := Q) ha
  have A19 := fun (f x : Int32) (Q : Option Value → AH → Prop) => t19 (lw := lw) (H := H) (p := p) (s := ss1 s a) (Q := Q) (a := f) (b := x) hE1
  have e1 : ∀ i, sA (ss1 s a) 1 i = sA s 1 i := fun i => ss1_1
  have u : uA s 3 a.toNatClampNeg (chs s a) = ss1 s a := rfl
  rw [c37]; unfold scS
  by_cases e0 : chs s a = 0 <;> cases e2 : rmm (ss1 s a) a <;> cases e3 : wd (ss1 s a) (sA s 1 a.toNatClampNeg) (chs s a)
  all_goals try rw [e0] at u e3
  all_goals simp +decide only [w37_0, w37_1, w37_2, w37_5, w37_6, w37_7, w37_10, w37_11, w37_12, w37_13, w37_14, w37_17, w37_18, w37_19, w37_22, w37_25, w37_26, w37_27, w37_30, w37_31, w37_32, w37_33, w37_36, w37_39, w37_40, w37_43, w37_44, w37_45, w37_46, w37_47, w37_50, w37_51, w37_52, w37_53, w37_56, w37_57, w37_60, w37_61, w37_62, w37_63, w37_64, w37_67, w37_68, w37_69, w37_70, isO_put, Option.toList_some, List.cons_append, List.nil_append, true_and, and_true, and_false, not_true_eq_false, not_false_eq_true, ↓reduceIte, g6, g7, g8, g10, ai1, ae1, aw2, as2, aw3, as3, aw5, as5, ha, t25 hE ha, e0, u, e1, A24, A19, e2, e3, bz_t, bz_f, Bool.and_true, Bool.and_false, Bool.true_and]
def sm1 (s : St) (c : Int32) : St := uA s 5 c.toNatClampNeg (sA s 5 c.toNatClampNeg - 1)
def smf (s : St) (c : Int32) : Int32 := sA s 1 c.toNatClampNeg + sA s 3 c.toNatClampNeg
def sm2 (s : St) (c : Int32) : St := uA (sm1 s c) 1 c.toNatClampNeg (smf s c)
def smp (s : St) (c : Int32) : Bool := rd (sm2 s c) c (smf s c) || ((rmm (sm2 s c) c && asg (sm2 s c) (smf s c) (sA s 3 c.toNatClampNeg) c) || (!(byd (sm2 s c) c (sA s 3 c.toNatClampNeg)) && asg (sm2 s c) (smf s c) (-(sA s 3 c.toNatClampNeg)) c))
def smS (s : St) (c : Int32) : St :=
  if 0 < sA s 5 c.toNatClampNeg - 1 then sm1 s c
  else if smp s c = true then uA (uA (sm2 s c) 2 c.toNatClampNeg 1) 5 c.toNatClampNeg 3
  else if byd (sm2 s c) c (sA s 3 c.toNatClampNeg) = true then uA (sm2 s c) 5 c.toNatClampNeg 2
  else uA (uA (sm2 s c) 2 c.toNatClampNeg 0) 5 c.toNatClampNeg 0
set_option maxRecDepth 100000 in
theorem t33 (hE : Ev s) (ha : 0 ≤ a.toInt ∧ a.toInt < 4) : Cl (pj lw) 33 [.ref p, .int a] (ob H p s) Q ↔ Q none (ob H p (smS s a)) := by
  have hE2 : Ev (sm2 s a) := Ev_A (Ev_A hE)
  have A24 := fun (Q : Option Value → AH → Prop) => t24 (lw := lw) (H := H) (p := p) (s := sm2 s a) (Q := Q) ha
  have A21 := fun (x y : Int32) (Q : Option Value → AH → Prop) => t21 (lw := lw) (H := H) (p := p) (s := sm2 s a) (Q := Q) (a := x) (b := y) hE2
  have A20 := fun (x y z : Int32) (Q : Option Value → AH → Prop) => t20 (lw := lw) (H := H) (p := p) (s := sm2 s a) (Q := Q) (a := x) (b := y) (c := z) hE2
  have A23 := fun (x : Int32) (Q : Option Value → AH → Prop) => t23 (lw := lw) (H := H) (p := p) (s := sm2 s a) (Q := Q) (b := x) hE2 ha
  have u1 : uA s 5 a.toNatClampNeg (sA s 5 a.toNatClampNeg - 1) = sm1 s a := rfl
  have u3 : sA s 1 a.toNatClampNeg + sA s 3 a.toNatClampNeg = smf s a := rfl
  have u2 : uA (sm1 s a) 1 a.toNatClampNeg (smf s a) = sm2 s a := rfl
  have v1 : ∀ t i, t ≠ 5 → sA (sm1 s a) t i = sA s t i := fun t i ht => by simp only [sm1, sA_uA, ht, false_and, if_false]
  have v11 : ∀ i, sA (sm1 s a) 1 i = sA s 1 i := fun i => v1 1 i (by decide)
  have v13 : ∀ i, sA (sm1 s a) 3 i = sA s 3 i := fun i => v1 3 i (by decide)
  have v5 : sA (sm1 s a) 5 a.toNatClampNeg = sA s 5 a.toNatClampNeg - 1 := by simp +decide only [sm1, sA_uA, true_and, ↓reduceIte]
  rw [c33]; unfold smS smp
  by_cases e0 : 0 < sA s 5 a.toNatClampNeg - 1
  · simp +decide only [w33_0, w33_1, w33_4, w33_5, w33_6, w33_9, w33_10, w33_11, w33_12, w33_13, w33_14, w33_15, w33_18, w33_19, w33_20, w33_23, isO_put, true_and, and_true, ↓reduceIte, g10, ai5, aw5, ae5, as5, ha, u1, v5, e0]
  · cases e1 : rd (sm2 s a) a (smf s a) <;> cases e2 : rmm (sm2 s a) a <;> cases e3 : asg (sm2 s a) (smf s a) (sA s 3 a.toNatClampNeg) a <;> cases e4 : byd (sm2 s a) a (sA s 3 a.toNatClampNeg) <;> cases e5 : asg (sm2 s a) (smf s a) (-(sA s 3 a.toNatClampNeg)) a <;>
    simp +decide only [w33_0, w33_1, w33_4, w33_5, w33_6, w33_9, w33_10, w33_11, w33_12, w33_13, w33_14, w33_15, w33_18, w33_19, w33_20, w33_24, w33_25, w33_28, w33_29, w33_30, w33_31, w33_32, w33_35, w33_36, w33_37, w33_38, w33_39, w33_40, w33_41, w33_44, w33_45, w33_46, w33_47, w33_48, w33_49, w33_50, w33_53, w33_55, w33_56, w33_57, w33_58, w33_61, w33_64, w33_65, w33_66, w33_69, w33_72, w33_73, w33_74, w33_75, w33_76, w33_79, w33_82, w33_84, w33_87, w33_88, w33_89, w33_90, w33_91, w33_92, w33_95, w33_98, w33_99, w33_102, w33_103, w33_105, w33_107, w33_110, w33_111, w33_114, w33_115, w33_116, w33_117, w33_118, w33_121, w33_122, w33_123, w33_124, w33_127, w33_129, w33_132, w33_133, w33_136, w33_137, w33_138, w33_139, w33_142, w33_143, w33_146, w33_147, w33_148, w33_149, w33_150, w33_153, w33_154, w33_155, w33_156, isO_put, Option.toList_some, List.cons_append, List.nil_append, true_and, and_true, ↓reduceIte, g6, g7, g8, g10, ai1, aw1, ae1, as1, aw2, as2, ai3, ae3, ai5, aw5, ae5, as5, ha, u1, v5, e0, v11, v13, u3, u2, A24, A21, A20, A23, e1, e2, e3, e4, e5, bz_t, bz_f, Bool.and_true, Bool.true_and]
def so1 (s : St) (c : Int32) : St := (dlv s c).2
def so2 (s : St) (c : Int32) : St := uA (so1 s c) 3 c.toNatClampNeg (chs (so1 s c) c)
def so3 (s : St) (c : Int32) : St := if chs (so1 s c) c = 0 then so2 s c else (brd (so2 s c) c (chs (so1 s c) c)).2
def soc (s : St) (c : Int32) : Bool := decide (¬ (dlv s c).1 = 0 ∨ (¬ chs (so1 s c) c = 0 ∧ ¬ (brd (so2 s c) c (chs (so1 s c) c)).1 = 0))
def so4 (s : St) (c : Int32) : St := uA s 5 c.toNatClampNeg (sA s 5 c.toNatClampNeg - 1)
def soS (s : St) (c : Int32) : St :=
  if soc s c = true then uA (so3 s c) 5 c.toNatClampNeg 3
  else if sA (so3 s c) 5 c.toNatClampNeg - 1 = 0 then uA (so4 (so3 s c) c) 2 c.toNatClampNeg 2 else so4 (so3 s c) c
set_option maxRecDepth 100000 in
theorem t34 (hE : Ev s) (ha : 0 ≤ a.toInt ∧ a.toInt < 4) : Cl (pj lw) 34 [.ref p, .int a] (ob H p s) Q ↔ Q none (ob H p (soS s a)) := by
  have hE1 : Ev (so1 s a) := hE.of (dlF_I (by decide) _ _ _ _) (dlF_I (by decide) _ _ _ _) (dlF_I (by decide) _ _ _ _)
  have hE2 : Ev (so2 s a) := Ev_A hE1
  have A35 := fun (Q : Option Value → AH → Prop) => t35 (lw := lw) (H := H) (p := p) (s := s) (Q := Q) hE ha
  have u1 : (dlv s a).2 = so1 s a := rfl
  rw [u1] at A35
  have A25 := fun (Q : Option Value → AH → Prop) => t25 (lw := lw) (H := H) (p := p) (s := so1 s a) (Q := Q) hE1 ha
  have A36 := fun (x : Int32) (Q : Option Value → AH → Prop) => t36 (lw := lw) (H := H) (p := p) (s := so2 s a) (Q := Q) (b := x) hE2 ha
  have u2 : uA (so1 s a) 3 a.toNatClampNeg (chs (so1 s a) a) = so2 s a := rfl
  have end0 : ∀ (u : St) (l3 l4 : Slot) (y : Int32), W (pj lw) 34 46 [.val (.ref p), .val (.int a), .val (.int y), l3, l4] [] 0 0 (ob H p u) Q ↔ Q none (ob H p (if ¬ y = 0 then uA u 5 a.toNatClampNeg 3 else if sA u 5 a.toNatClampNeg - 1 = 0 then uA (so4 u a) 2 a.toNatClampNeg 2 else so4 u a)) := by
    intro u l3 l4 y
    rcases Classical.propComplete (y = 0) with e1 | e1 <;> rcases Classical.propComplete (sA u 5 a.toNatClampNeg - 1 = 0) with e2 | e2 <;> simp +decide only [w34_46, w34_47, w34_50, w34_51, w34_54, w34_55, w34_56, w34_57, w34_60, w34_61, w34_64, w34_65, w34_66, w34_69, w34_70, w34_71, w34_72, w34_73, w34_74, w34_75, w34_78, w34_79, w34_80, w34_83, w34_84, w34_87, w34_88, w34_89, w34_90, isO_put, sA_uA, true_and, and_true, not_true_eq_false, not_false_eq_true, ↓reduceIte, g7, g10, aw2, as2, ai5, aw5, ae5, as5, ha, so4, e1, e2]
  have y1 := dlF_y (c := a) (f := sA s 1 a.toNatClampNeg) (pc s) 0 0 s (Or.inl rfl)
  rw [show dlF a (sA s 1 a.toNatClampNeg) (pc s) 0 0 s = dlv s a from rfl] at y1
  rw [c34]; unfold soS so3 soc
  by_cases e0 : chs (so1 s a) a = 0
  · rw [e0] at u2
    simp +decide only [w34_0, w34_1, w34_2, w34_5, w34_6, w34_7, w34_8, w34_11, w34_12, w34_13, w34_16, w34_17, w34_18, w34_19, w34_20, isO_put, Option.toList_some, List.cons_append, List.nil_append, true_and, and_true, false_and, or_false, not_true_eq_false, ↓reduceIte, g8, aw3, as3, ha, A35, A25, e0, u2, end0]
    rcases y1 with e1 | e1 <;> simp +decide only [e1, ↓reduceIte, decide_true, decide_false]
  · have y2 := bdF_y (c := a) (d := chs (so1 s a) a) (f := sA (so2 s a) 1 a.toNatClampNeg) (pc (so2 s a)) 0 0 (so2 s a) (Or.inl rfl)
    rw [show bdF a (chs (so1 s a) a) (sA (so2 s a) 1 a.toNatClampNeg) (pc (so2 s a)) 0 0 (so2 s a) = brd (so2 s a) a (chs (so1 s a) a) from rfl] at y2
    rcases y1 with e1 | e1 <;> rcases y2 with e2 | e2 <;>
    simp +decide only [w34_0, w34_1, w34_2, w34_5, w34_6, w34_7, w34_8, w34_11, w34_12, w34_13, w34_16, w34_17, w34_18, w34_19, w34_20, w34_23, w34_24, w34_25, w34_26, w34_29, w34_31, w34_32, w34_35, w34_37, w34_40, w34_41, w34_44, w34_45i, isO_put, Option.toList_some, List.cons_append, List.nil_append, true_and, and_true, and_false, or_false, or_true, not_true_eq_false, not_false_eq_true, ↓reduceIte, g8, aw3, as3, ha, A35, A25, A36, e0, e1, e2, u2, end0, decide_true, decide_false, Bool.false_eq_true]
def rcS (s : St) (c : Int32) : St := if sA s 2 c.toNatClampNeg = 0 then ssS s c else if sA s 2 c.toNatClampNeg = 3 then smS s c else if sA s 2 c.toNatClampNeg = 1 then soS s c else if sA s 2 c.toNatClampNeg = 2 then scS s c else s
theorem t31 (hE : Ev s) (ha : 0 ≤ a.toInt ∧ a.toInt < 4) : Cl (pj lw) 31 [.ref p, .int a] (ob H p s) Q ↔ Q none (ob H p (rcS s a)) := by
  rw [c31]; unfold rcS
  by_cases e0 : sA s 2 a.toNatClampNeg = 0
  · simp +decide only [w31_0, w31_1, w31_4, w31_5, w31_6, w31_7, w31_8, w31_11, w31_12, w31_13, w31_16, w31_55, isO_put, Option.toList_none, List.nil_append, true_and, and_true, ↓reduceIte, g7, ai2, ae2, ha, e0, t32 hE ha]
  by_cases e3 : sA s 2 a.toNatClampNeg = 3
  · simp +decide only [w31_0, w31_1, w31_4, w31_5, w31_6, w31_7, w31_8, w31_19, w31_20, w31_21, w31_24, w31_25, w31_26, w31_29, w31_55, isO_put, Option.toList_none, List.nil_append, true_and, and_true, ↓reduceIte, g7, ai2, ae2, ha, e3, t33 hE ha]
  by_cases e1 : sA s 2 a.toNatClampNeg = 1
  · simp +decide only [w31_0, w31_1, w31_4, w31_5, w31_6, w31_7, w31_8, w31_19, w31_20, w31_21, w31_32, w31_33, w31_34, w31_37, w31_38, w31_39, w31_42, w31_55, isO_put, Option.toList_none, List.nil_append, true_and, and_true, ↓reduceIte, g7, ai2, ae2, ha, e1, t34 hE ha]
  by_cases e2 : sA s 2 a.toNatClampNeg = 2
  · simp +decide only [w31_0, w31_1, w31_4, w31_5, w31_6, w31_7, w31_8, w31_19, w31_20, w31_21, w31_32, w31_33, w31_34, w31_45, w31_46, w31_47, w31_50, w31_51, w31_52, w31_55, isO_put, Option.toList_none, List.nil_append, true_and, and_true, ↓reduceIte, g7, ai2, ae2, ha, e2, t37 hE ha]
  · simp +decide only [w31_0, w31_1, w31_4, w31_5, w31_6, w31_7, w31_8, w31_19, w31_20, w31_21, w31_32, w31_33, w31_34, w31_45, w31_46, w31_47, w31_55, isO_put, true_and, and_true, ↓reduceIte, g7, ai2, ae2, ha, e0, e1, e2, e3]
theorem ssS_I {x : Nat} : sI (ssS s c) x = sI s x := by unfold ssS ss1; (repeat' split) <;> simp only [sI_uA]
theorem scS_I {x : Nat} : sI (scS s c) x = sI s x := by unfold scS ss1; (repeat' split) <;> simp only [sI_uA]
theorem smS_I {x : Nat} : sI (smS s c) x = sI s x := by unfold smS sm2 sm1; (repeat' split) <;> simp only [sI_uA]
theorem so3_I {x : Nat} (hx : x ≠ 5) : sI (so3 s c) x = sI s x := by
  unfold so3; split
  · unfold so2 so1 dlv; rw [sI_uA, dlF_I hx]
  · unfold brd; rw [bdF_I]; unfold so2 so1 dlv; rw [sI_uA, dlF_I hx]
theorem soS_I {x : Nat} (hx : x ≠ 5) : sI (soS s c) x = sI s x := by unfold soS so4; (repeat' split) <;> simp only [sI_uA, so3_I hx]
theorem rcS_I {x : Nat} (hx : x ≠ 5) : sI (rcS s c) x = sI s x := by
  unfold rcS; (repeat' split)
  · exact ssS_I
  · exact smS_I
  · exact soS_I hx
  · exact scS_I
  · rfl
def rcF (s : St) (i : Nat) : St := rcS s (Int32.ofNat i)
theorem Ev_rc {i : Nat} (h : Ev s) : Ev (rcF s i) := h.of (rcS_I (by decide)) (rcS_I (by decide)) (rcS_I (by decide))
def tk1 (s : St) : St := dpS (arS s)
def tk2 (s : St) : St := itF rcF (sI s 0).toInt.toNat 0 (tk1 s)
def tkS (s : St) : St := uI (tk2 s) 3 (sI (tk2 s) 3 + 1)
theorem tk1_I {x : Nat} : sI (tk1 s) x = sI s x := by unfold tk1; rw [dpS_I, arS_I]
theorem tk2_I {x : Nat} (hx : x ≠ 5) : sI (tk2 s) x = sI s x := by
  unfold tk2; rw [itF_inv (I := fun v => sI v x = sI (tk1 s) x) (fun v e g => by unfold rcF; rw [rcS_I hx]; exact g) _ _ _ rfl, tk1_I]
theorem tkS_I {x : Nat} (hx : x ≠ 5 ∧ x ≠ 3) : sI (tkS s) x = sI s x := by unfold tkS; rw [sI_uI, if_neg hx.2, tk2_I hx.1]
theorem Ev_tk (h : Ev s) : Ev (tkS s) := h.of (tkS_I (by decide)) (tkS_I (by decide)) (tkS_I (by decide))
theorem l26 (m : Nat) : ∀ (i : Int32) (s : St), Ev s → i.toInt = (sI s 0).toInt - m → 0 ≤ i.toInt →
    (W (pj lw) 26 10 [.val (.ref p), .val (.int i)] [] k n (ob H p s) Q ↔ Q none (ob H p (uI (itF rcF m i.toNatClampNeg s) 3 (sI (itF rcF m i.toNatClampNeg s) 3 + 1)))) := by
  induction m with
  | zero =>
    intro i s hE hi h0
    have h1 : ¬ i < sI s 0 := by rw [lt32]; omega
    rw [w26_10]; simp +decide only [w26_11, w26_12, w26_15, w26_29, w26_30, w26_31, w26_34, w26_35, w26_36, w26_39, isO_put, isOw_put, okv_int, true_and, and_true, ↓reduceIte, g0, g3, s3, h1, itF]
  | succ m ih =>
    intro i s hE hi h0
    have hb := hE.1
    have h1 : i < sI s 0 := by rw [lt32]; omega
    have h2 : (i + 1).toInt = i.toInt + 1 := ia (by simp only [Int32.reduceToInt]; omega) (by simp only [Int32.reduceToInt]; omega)
    have h3 : 0 ≤ i.toInt ∧ i.toInt < 4 := by omega
    have h4 : (i + 1).toNatClampNeg = i.toNatClampNeg + 1 := by rw [cln, cln]; omega
    have hof := ofn (i := i) (by omega)
    have eI : sI (rcF s i.toNatClampNeg) 0 = sI s 0 := rcS_I (by decide)
    have key := ih (i + 1) (rcF s i.toNatClampNeg) (Ev_rc hE) (by rw [eI]; omega) (by omega)
    rw [h4] at key
    rw [itF, w26_10, ← key]
    unfold rcF; rw [hof]
    simp +decide only [w26_11, w26_12, w26_15, w26_18, w26_19, w26_20, w26_23, w26_26, isO_put, Option.toList_none, List.nil_append, true_and, and_true, ↓reduceIte, g0, h1, t31 hE h3]
theorem t26 (hE : Ev s) : Cl (pj lw) 26 [.ref p] (ob H p s) Q ↔ Q none (ob H p (tkS s)) := by
  have hE1 : Ev (arS s) := hE.of arS_I arS_I arS_I
  have hE2 : Ev (tk1 s) := hE.of tk1_I tk1_I tk1_I
  rw [c26]; simp +decide only [w26_0, w26_1, w26_4, w26_5, w26_8, w26_9, isO_put, Option.toList_none, List.nil_append, true_and, and_true, Nat.reduceAdd, Nat.reduceLeDiff, Int32.reduceAdd, Int64.reduceAdd, t27 hE, t28 hE1]
  rw [show dpS (arS s) = tk1 s from rfl, l26 (sI s 0).toInt.toNat 0 (tk1 s) hE2 (by rw [tk1_I]; simp only [Int32.reduceToInt]; have := hE.1; omega) (by decide)]
  simp only [Int32.reduceToNatClampNeg, tkS, tk2]
def tkF : Nat → St → St
  | 0, s => s
  | m + 1, s => tkF m (tkS s)
theorem Ev_tkF : ∀ (m : Nat) (s : St), Ev s → Ev (tkF m s)
  | 0, _, h => h
  | m + 1, s, h => Ev_tkF m (tkS s) (Ev_tk h)
theorem tkF_add : ∀ (m n : Nat) (s : St), tkF (m + n) s = tkF n (tkF m s)
  | 0, n, s => by rw [Nat.zero_add]; rfl
  | m + 1, n, s => by rw [Nat.succ_add]; exact tkF_add m n (tkS s)
def stS (s : St) (a : Int32) : St := tkF (cl 1 32 a).toInt.toNat (uI s 5 0)
theorem l4 {e f : Int32} (q : Nat) : ∀ (i : Int32) (s : St), Ev s → i.toInt = e.toInt - q → 0 ≤ i.toInt → e.toInt ≤ 32 →
    (W (pj lw) 4 16 [.val (.ref p), .val (.int f), .val (.int e), .val (.int i)] [] k n (ob H p s) Q ↔ Q (some (.int (sI (tkF q s) 5))) (ob H p (tkF q s))) := by
  induction q with
  | zero =>
    intro i s hI hi h0 h8
    have h1 : ¬ i < e := by rw [lt32]; omega
    rw [w4_16]; simp +decide only [w4_17, w4_18, w4_31, w4_32, w4_35, isO_put, true_and, ↓reduceIte, g5, h1, tkF]
  | succ q ih =>
    intro i s hI hi h0 h8
    have h1 : i < e := by rw [lt32]; omega
    have h2 : (i + 1).toInt = i.toInt + 1 := ia (by simp only [Int32.reduceToInt]; omega) (by simp only [Int32.reduceToInt]; omega)
    rw [w4_16]; simp +decide only [w4_17, w4_18, w4_21, w4_22, w4_25, w4_28, isO_put, Option.toList_none, List.nil_append, true_and, and_true, ↓reduceIte, h1, t26 hI]
    rw [ih (i + 1) _ (Ev_tk hI) (by omega) (by omega) h8, tkF]
theorem t4 (hE : Ev s) : Cl (pj lw) 4 [.ref p, .int a] (ob H p s) Q ↔ Q (some (.int (sI (stS s a) 5))) (ob H p (stS s a)) := by
  rw [c4]; simp +decide only [w4_0, w4_1, w4_2, w4_3, w4_5, w4_8, w4_9, w4_10, w4_11, w4_14, w4_15, isO_put, isOw_put, Option.toList_some, List.cons_append, List.nil_append, true_and, and_true, s5, t15]
  have hr := cl_rg (lo := 1) (hi := 32) a (by decide)
  simp only [Int32.reduceToInt] at hr
  rw [l4 (cl 1 32 a).toInt.toNat 0 (uI s 5 0) (hE.of (by simp +decide only [sI_uI, ↓reduceIte]) (by simp +decide only [sI_uI, ↓reduceIte]) (by simp +decide only [sI_uI, ↓reduceIte])) (by simp only [Int32.reduceToInt]; omega) (by decide) hr.2]
  rfl
def apR (s : St) (t f g : Int32) : Int32 := if ¬ sI s 4 < 32 then -1 else if (f < 0 ∨ ¬ f < sI s 1) ∨ (g < 0 ∨ ¬ g < sI s 1) ∨ f = g then -2 else if t < sI s 3 then -3 else sI s 4
def apN (s : St) (t f g : Int32) : St := uI (uA (uA (uA (uA (uA (uA (uA s 6 (sI s 4).toNatClampNeg 0) 7 (sI s 4).toNatClampNeg f) 8 (sI s 4).toNatClampNeg g) 9 (sI s 4).toNatClampNeg t) 10 (sI s 4).toNatClampNeg (-1)) 11 (sI s 4).toNatClampNeg (-1)) 12 (sI s 4).toNatClampNeg (-1)) 4 (sI s 4 + 1)
def apS (s : St) (t f g : Int32) : St := if apR s t f g < 0 then s else apN s t f g
theorem t2 (hE : Ev s) : Cl (pj lw) 2 [.ref p, .int a, .int b, .int c] (ob H p s) Q ↔ Q (some (.int (apR s a b c))) (ob H p (apS s a b c)) := by
  have hb := hE.2.2
  rw [c2]; unfold apS apR
  by_cases e0 : sI s 4 < 32
  · have h4 : 0 ≤ (sI s 4).toInt ∧ (sI s 4).toInt < 32 := by rw [lt32] at e0; simp only [Int32.reduceToInt] at e0; omega
    have n4 : ¬ sI s 4 < 0 := by rw [lt32]; simp only [Int32.reduceToInt]; omega
    by_cases e1 : b < 0
    · simp +decide only [w2_0, w2_1, w2_4, w2_6, w2_11, w2_12, w2_40, w2_42, isO_put, true_and, true_or, not_true_eq_false, ↓reduceIte, Int64.reduceLT, Int32.reduceLT, g4, e0, e1]
    by_cases e2 : b < sI s 1
    rotate_left
    · simp +decide only [w2_0, w2_1, w2_4, w2_6, w2_11, w2_12, w2_15, w2_16, w2_17, w2_20, w2_40, w2_42, isO_put, true_and, or_true, true_or, not_true_eq_false, not_false_eq_true, ↓reduceIte, Int64.reduceLT, Int32.reduceLT, g1, g4, e0, e1, e2]
    by_cases e3 : c < 0
    · simp +decide only [w2_0, w2_1, w2_4, w2_6, w2_11, w2_12, w2_15, w2_16, w2_17, w2_20, w2_23, w2_24, w2_40, w2_42, isO_put, true_and, or_false, or_true, true_or, not_true_eq_false, ↓reduceIte, Int64.reduceLT, Int32.reduceLT, g1, g4, e0, e1, e2, e3]
    by_cases e4 : c < sI s 1
    rotate_left
    · simp +decide only [w2_0, w2_1, w2_4, w2_6, w2_11, w2_12, w2_15, w2_16, w2_17, w2_20, w2_23, w2_24, w2_27, w2_28, w2_29, w2_32, w2_40, w2_42, isO_put, true_and, or_false, or_true, true_or, not_true_eq_false, not_false_eq_true, ↓reduceIte, Int64.reduceLT, Int32.reduceLT, g1, g4, e0, e1, e2, e3, e4]
    rcases Classical.propComplete (b = c) with e5 | e5
    · simp +decide only [w2_0, w2_1, w2_4, w2_6, w2_11, w2_12, w2_15, w2_16, w2_17, w2_20, w2_23, w2_24, w2_27, w2_28, w2_29, w2_32, w2_35, w2_36, w2_37, w2_40, w2_42, isO_put, true_and, or_false, or_true, not_true_eq_false, ↓reduceIte, Int64.reduceLT, Int32.reduceLT, g1, g4, e0, e1, e2, e3, e4, e5]
    by_cases e6 : a < sI s 3
    · simp +decide only [w2_0, w2_1, w2_4, w2_6, w2_11, w2_12, w2_15, w2_16, w2_17, w2_20, w2_23, w2_24, w2_27, w2_28, w2_29, w2_32, w2_35, w2_36, w2_37, w2_43, w2_44, w2_45, w2_48, w2_51, w2_53, isO_put, true_and, or_false, not_true_eq_false, ↓reduceIte, Int64.reduceLT, Int32.reduceLT, g1, g3, g4, e0, e1, e2, e3, e4, e5, e6]
    · simp +decide only [w2_0, w2_1, w2_4, w2_6, w2_11, w2_12, w2_15, w2_16, w2_17, w2_20, w2_23, w2_24, w2_27, w2_28, w2_29, w2_32, w2_35, w2_36, w2_37, w2_43, w2_44, w2_45, w2_48, w2_54, w2_55, w2_58, w2_60, w2_61, w2_64, w2_66, w2_67, w2_68, w2_69, w2_72, w2_74, w2_75, w2_76, w2_77, w2_80, w2_82, w2_83, w2_84, w2_85, w2_88, w2_90, w2_91, w2_92, w2_93, w2_96, w2_98, w2_99, w2_100, w2_101, w2_104, w2_106, w2_107, w2_108, w2_109, w2_112, w2_114, w2_115, w2_116, w2_117, w2_119, w2_120, w2_121, w2_124, w2_126, isO_put, isOw_put, okv_int, true_and, and_true, or_false, not_true_eq_false, ↓reduceIte, g1, g3, g4, s4, g11, g12, g13, g14, g15, g16, g17, aw6, as6, aw7, as7, aw8, as8, aw9, as9, aw10, as10, aw11, as11, aw12, as12, e0, e1, e2, e3, e4, e5, e6, h4, n4, apN]
  · simp +decide only [w2_0, w2_1, w2_4, w2_6, w2_9, w2_10, isO_put, true_and, not_false_eq_true, ↓reduceIte, Int64.reduceLT, Int32.reduceLT, g4, e0]
theorem Ev_ap (h : Ev s) : Ev (apS s a b c) := by
  unfold apS; split
  · exact h
  · rename_i g
    have h4 : (sI s 4).toInt < 32 := by
      unfold apR at g
      by_cases e : sI s 4 < 32
      · rw [lt32] at e; exact e
      · rw [if_pos e] at g; exact absurd g (by decide)
    have hb := h.2.2
    refine ⟨?_, ?_, ?_⟩
    · simp +decide only [apN, sI_uI, sI_uA, ↓reduceIte]; exact h.1
    · simp +decide only [apN, sI_uI, sI_uA, ↓reduceIte]; exact h.2.1
    · simp +decide only [apN, sI_uI, ↓reduceIte]; rw [ia (by simp only [Int32.reduceToInt]; omega) (by simp only [Int32.reduceToInt]; omega)]; simp only [Int32.reduceToInt]; omega
end D

section E
variable {lw : LW} {H : AH} {p q j : Nat} {s s' s1 : St} {Q : Option Value → AH → Prop} {a b c d : Int32} {h : Nat → Cel} {k n m : Nat}
def nx (x : Int32) : Int32 := x * 1103515245 + 12345
def rr (x : Int32) : Int32 := Jvm.Free.XT.ushr x 16 &&& 32767
def gf (s : St) (x : Int32) : Int32 := rr (nx x) % sI s 1
def gt0 (s : St) (x : Int32) : Int32 := rr (nx (nx x)) % (sI s 1 - 1)
def gto (s : St) (x : Int32) : Int32 := if gt0 s x < gf s x then gt0 s x else gt0 s x + 1
def geF (g : Int32) : Nat → Int32 → Int32 → Int32 → St → Int32 × St
  | 0, _, _, y, s => (y, s)
  | m + 1, i, x, y, s => if sI s 4 < 32 then geF g m (i + 1) (nx (nx x)) (if apR s (sI s 3 + i * g) (gf s x) (gto s x) < 0 then y else y + 1) (apS s (sI s 3 + i * g) (gf s x) (gto s x)) else (y, s)
def gen (s : St) (a b c : Int32) : Int32 × St := geF (cl 0 16 c) (cl 0 32 b).toInt.toNat 0 a 0 s
set_option maxRecDepth 100000 in
theorem l3 {u v w e g : Int32} (m : Nat) : ∀ (i x y : Int32) (s : St), Ev s → i.toInt = e.toInt - m → 0 ≤ i.toInt → e.toInt ≤ 32 → ∀ l9 l10 l11 l12 l13 l14 : Slot, ((l9 = .unset ∧ l10 = .unset ∧ l11 = .unset ∧ l12 = .unset ∧ l13 = .unset ∧ l14 = .unset) ∨ ∃ x9 x10 x11 x12 x13 x14, l9 = .val (.int x9) ∧ l10 = .val (.int x10) ∧ l11 = .val (.int x11) ∧ l12 = .val (.int x12) ∧ l13 = .val (.int x13) ∧ l14 = .val (.int x14)) →
    (W (pj lw) 3 29 [.val (.ref p), .val (.int u), .val (.int v), .val (.int w), .val (.int e), .val (.int g), .val (.int x), .val (.int y), .val (.int i), l9, l10, l11, l12, l13, l14] [] k n (ob H p s) Q ↔ Q (some (.int (geF g m i x y s).1)) (ob H p (geF g m i x y s).2)) := by
  induction m with
  | zero =>
    intro i x y s hE hi h0 he l9 l10 l11 l12 l13 l14 hl
    have h1 : ¬ i < e := by rw [lt32]; omega
    rw [w3_29]; simp +decide only [w3_31, w3_33, w3_164, w3_166, ↓reduceIte, h1, geF]
  | succ m ih =>
    intro i x y s hE hi h0 he l9 l10 l11 l12 l13 l14 hl
    have hb := hE.2.1
    have h1 : i < e := by rw [lt32]; omega
    have h2 : (i + 1).toInt = i.toInt + 1 := ia (by simp only [Int32.reduceToInt]; omega) (by simp only [Int32.reduceToInt]; omega)
    have z1 : (sI s 1 = 0) = False := eq_false (fun g => by rw [g] at hb; exact absurd hb.1 (by decide))
    have z2 : (sI s 1 - 1 = 0) = False := eq_false (fun g => by
      have : (sI s 1 - 1).toInt = (sI s 1).toInt - 1 := isb (by simp only [Int32.reduceToInt]; omega) (by simp only [Int32.reduceToInt]; omega)
      rw [g] at this; simp only [Int32.reduceToInt] at this; omega)
    have key := fun x y s' hE x9 x10 x11 x12 x13 x14 => ih (i + 1) x y s' hE (by omega) (by omega) he (.val (.int x9)) (.val (.int x10)) (.val (.int x11)) (.val (.int x12)) (.val (.int x13)) (.val (.int x14)) (Or.inr ⟨x9, x10, x11, x12, x13, x14, rfl, rfl, rfl, rfl, rfl, rfl⟩)
    rw [geF, w3_29]
    by_cases e0 : sI s 4 < 32
    · have u1 : x * 1103515245 + 12345 = nx x := rfl
      have u2 : nx x * 1103515245 + 12345 = nx (nx x) := rfl
      have u3 : ∀ x, Jvm.Free.XT.ushr x 16 &&& 32767 = rr x := fun x => rfl
      have u4 : rr (nx x) % sI s 1 = gf s x := rfl
      have u5 : rr (nx (nx x)) % (sI s 1 - 1) = gt0 s x := rfl
      have A2 := fun (Q : Option Value → AH → Prop) => t2 (lw := lw) (H := H) (p := p) (s := s) (Q := Q) (a := sI s 3 + i * g) (b := gf s x) (c := gto s x) hE
      have kk := key (nx (nx x)) (if apR s (sI s 3 + i * g) (gf s x) (gto s x) < 0 then y else y + 1) (apS s (sI s 3 + i * g) (gf s x) (gto s x)) (Ev_ap hE)
      by_cases e1 : gt0 s x < gf s x
      · have u6 : gto s x = gt0 s x := by unfold gto; rw [if_pos e1]
        rw [u6] at A2 kk ⊢
        by_cases e2 : apR s (sI s 3 + i * g) (gf s x) (gt0 s x) < 0
        · simp +decide only [e2, ↓reduceIte] at kk
          rcases hl with ⟨rfl, rfl, rfl, rfl, rfl, rfl⟩ | ⟨x9, x10, x11, x12, x13, x14, rfl, rfl, rfl, rfl, rfl, rfl⟩ <;>
          simp +decide only [w3_31, w3_33, w3_36, w3_37, w3_40, w3_42, w3_48, w3_50, w3_52, w3_53, w3_56, w3_57i, w3_59, w3_61, w3_63, w3_64, w3_67, w3_68i, w3_68, w3_70, w3_72, w3_74, w3_75, w3_78, w3_79i, w3_81, w3_83, w3_85, w3_86, w3_89, w3_90i, w3_90, w3_92, w3_94, w3_95, w3_98, w3_99i, w3_99, w3_101, w3_103, w3_104, w3_107, w3_108, w3_109, w3_110i, w3_110, w3_112, w3_114, w3_116, w3_126, w3_128i, w3_128, w3_130, w3_131, w3_132, w3_135, w3_137, w3_139, w3_140, w3_141, w3_143, w3_145, w3_148i, w3_148, w3_150, w3_152, w3_158, w3_161, isO_put, Option.toList_some, List.cons_append, List.nil_append, true_and, and_true, not_false_eq_true, ↓reduceIte, g1, g3, g4, h1, e0, e1, e2, z1, z2, u1, u2, u3, u4, u5, A2, kk]
        · simp +decide only [e2, ↓reduceIte] at kk
          rcases hl with ⟨rfl, rfl, rfl, rfl, rfl, rfl⟩ | ⟨x9, x10, x11, x12, x13, x14, rfl, rfl, rfl, rfl, rfl, rfl⟩ <;>
          simp +decide only [w3_31, w3_33, w3_36, w3_37, w3_40, w3_42, w3_48, w3_50, w3_52, w3_53, w3_56, w3_57i, w3_59, w3_61, w3_63, w3_64, w3_67, w3_68i, w3_68, w3_70, w3_72, w3_74, w3_75, w3_78, w3_79i, w3_81, w3_83, w3_85, w3_86, w3_89, w3_90i, w3_90, w3_92, w3_94, w3_95, w3_98, w3_99i, w3_99, w3_101, w3_103, w3_104, w3_107, w3_108, w3_109, w3_110i, w3_110, w3_112, w3_114, w3_116, w3_126, w3_128i, w3_128, w3_130, w3_131, w3_132, w3_135, w3_137, w3_139, w3_140, w3_141, w3_143, w3_145, w3_148i, w3_148, w3_150, w3_152, w3_155, w3_158, w3_161, isO_put, Option.toList_some, List.cons_append, List.nil_append, true_and, and_true, not_false_eq_true, ↓reduceIte, g1, g3, g4, h1, e0, e1, e2, z1, z2, u1, u2, u3, u4, u5, A2, kk]
      · have u6 : gto s x = gt0 s x + 1 := by unfold gto; rw [if_neg e1]
        rw [u6] at A2 kk ⊢
        by_cases e2 : apR s (sI s 3 + i * g) (gf s x) (gt0 s x + 1) < 0
        · simp +decide only [e2, ↓reduceIte] at kk
          rcases hl with ⟨rfl, rfl, rfl, rfl, rfl, rfl⟩ | ⟨x9, x10, x11, x12, x13, x14, rfl, rfl, rfl, rfl, rfl, rfl⟩ <;>
          simp +decide only [w3_31, w3_33, w3_36, w3_37, w3_40, w3_42, w3_48, w3_50, w3_52, w3_53, w3_56, w3_57i, w3_59, w3_61, w3_63, w3_64, w3_67, w3_68i, w3_68, w3_70, w3_72, w3_74, w3_75, w3_78, w3_79i, w3_81, w3_83, w3_85, w3_86, w3_89, w3_90i, w3_90, w3_92, w3_94, w3_95, w3_98, w3_99i, w3_99, w3_101, w3_103, w3_104, w3_107, w3_108, w3_109, w3_110i, w3_110, w3_112, w3_114, w3_116, w3_119, w3_121, w3_122, w3_123, w3_128i, w3_128, w3_130, w3_131, w3_132, w3_135, w3_137, w3_139, w3_140, w3_141, w3_143, w3_145, w3_148i, w3_148, w3_150, w3_152, w3_158, w3_161, isO_put, Option.toList_some, List.cons_append, List.nil_append, true_and, and_true, not_false_eq_true, ↓reduceIte, g1, g3, g4, h1, e0, e1, e2, z1, z2, u1, u2, u3, u4, u5, A2, kk]
        · simp +decide only [e2, ↓reduceIte] at kk
          rcases hl with ⟨rfl, rfl, rfl, rfl, rfl, rfl⟩ | ⟨x9, x10, x11, x12, x13, x14, rfl, rfl, rfl, rfl, rfl, rfl⟩ <;>
          simp +decide only [w3_31, w3_33, w3_36, w3_37, w3_40, w3_42, w3_48, w3_50, w3_52, w3_53, w3_56, w3_57i, w3_59, w3_61, w3_63, w3_64, w3_67, w3_68i, w3_68, w3_70, w3_72, w3_74, w3_75, w3_78, w3_79i, w3_81, w3_83, w3_85, w3_86, w3_89, w3_90i, w3_90, w3_92, w3_94, w3_95, w3_98, w3_99i, w3_99, w3_101, w3_103, w3_104, w3_107, w3_108, w3_109, w3_110i, w3_110, w3_112, w3_114, w3_116, w3_119, w3_121, w3_122, w3_123, w3_128i, w3_128, w3_130, w3_131, w3_132, w3_135, w3_137, w3_139, w3_140, w3_141, w3_143, w3_145, w3_148i, w3_148, w3_150, w3_152, w3_155, w3_158, w3_161, isO_put, Option.toList_some, List.cons_append, List.nil_append, true_and, and_true, not_false_eq_true, ↓reduceIte, g1, g3, g4, h1, e0, e1, e2, z1, z2, u1, u2, u3, u4, u5, A2, kk]
    · rcases hl with ⟨rfl, rfl, rfl, rfl, rfl, rfl⟩ | ⟨x9, x10, x11, x12, x13, x14, rfl, rfl, rfl, rfl, rfl, rfl⟩ <;>
      simp +decide only [w3_31, w3_33, w3_36, w3_37, w3_40, w3_42, w3_45, w3_164, w3_166, isO_put, true_and, ↓reduceIte, g4, h1, e0]
theorem t3 (hE : Ev s) : Cl (pj lw) 3 [.ref p, .int a, .int b, .int c] (ob H p s) Q ↔ Q (some (.int (gen s a b c).1)) (ob H p (gen s a b c).2) := by
  rw [c3]; simp +decide only [w3_0, w3_1, w3_2, w3_3, w3_5, w3_8, w3_10, w3_11, w3_12, w3_13, w3_15, w3_18, w3_20, w3_21, w3_23, w3_24, w3_26, w3_27, isO_put, Option.toList_some, List.cons_append, List.nil_append, true_and, and_true, t15]
  have hr := cl_rg (lo := 0) (hi := 32) b (by decide)
  simp only [Int32.reduceToInt] at hr
  rw [l3 (cl 0 32 b).toInt.toNat 0 a 0 s hE (by simp only [Int32.reduceToInt]; omega) (by decide) hr.2 .unset .unset .unset .unset .unset .unset (Or.inl ⟨rfl, rfl, rfl, rfl, rfl, rfl⟩)]
  rfl
theorem Ev_geF {g : Int32} : ∀ (m : Nat) (i x y : Int32) (s : St), Ev s → Ev (geF g m i x y s).2
  | 0, _, _, _, _, h => h
  | m + 1, i, x, y, s, h => by
    rw [geF]; split
    · exact Ev_geF m _ _ _ _ (Ev_ap h)
    · exact h
theorem t5 : Cl (pj lw) 5 [.ref p] (ob H p s) Q ↔ Q (some (.int (sI s 3))) (ob H p s) := by rw [c5]; simp +decide only [w5_0, w5_1, w5_4, isO_put, true_and, g3]
theorem t6 : Cl (pj lw) 6 [.ref p] (ob H p s) Q ↔ Q (some (.int (sI s 4))) (ob H p s) := by rw [c6]; simp +decide only [w6_0, w6_1, w6_4, isO_put, true_and, g4]
def gC (s : St) (c w : Int32) : Int32 := if ¬ c < 0 ∧ c < sI s 0 then (if w = 0 then sA s 1 c.toNatClampNeg else if w = 1 then sA s 2 c.toNatClampNeg else if w = 2 then sA s 3 c.toNatClampNeg else if w = 3 then sA s 4 c.toNatClampNeg else if w = 4 then sA s 5 c.toNatClampNeg else -99) else -99
def gP (s : St) (i w : Int32) : Int32 := if ¬ i < 0 ∧ i < sI s 4 then (if w = 0 then sA s 6 i.toNatClampNeg else if w = 1 then sA s 7 i.toNatClampNeg else if w = 2 then sA s 8 i.toNatClampNeg else if w = 3 then sA s 9 i.toNatClampNeg else if w = 4 then sA s 10 i.toNatClampNeg else if w = 5 then sA s 11 i.toNatClampNeg else if w = 6 then sA s 12 i.toNatClampNeg else -99) else -99
theorem t8 (hE : Ev s) : Cl (pj lw) 8 [.ref p, .int a, .int b] (ob H p s) Q ↔ Q (some (.int (gC s a b))) (ob H p s) := by
  rw [c8]; unfold gC
  by_cases e1 : a < 0
  · simp +decide only [w8_0, w8_1, w8_12, w8_14, false_and, not_true_eq_false, ↓reduceIte, e1]
  by_cases e2 : a < sI s 0
  rotate_left
  · simp +decide only [w8_0, w8_1, w8_4, w8_5, w8_6, w8_9, w8_12, w8_14, isO_put, true_and, and_false, not_false_eq_true, ↓reduceIte, g0, e1, e2]
  have h3 : 0 ≤ a.toInt ∧ a.toInt < 4 := by rw [lt32] at e1 e2; simp only [Int32.reduceToInt] at e1; have := hE.1; omega
  by_cases w0 : b = 0
  · subst w0; simp +decide only [w8_0, w8_1, w8_4, w8_5, w8_6, w8_9, w8_15, w8_16, w8_19, w8_20, w8_23, w8_24, w8_25, isO_put, true_and, and_true, not_false_eq_true, ↓reduceIte, g0, g6, ai1, ae1, e1, e2, h3]
  by_cases w1 : b = 1
  · subst w1; simp +decide only [w8_0, w8_1, w8_4, w8_5, w8_6, w8_9, w8_15, w8_16, w8_26, w8_27, w8_28, w8_31, w8_32, w8_35, w8_36, w8_37, isO_put, true_and, and_true, not_false_eq_true, ↓reduceIte, g0, g7, ai2, ae2, e1, e2, h3]
  by_cases w2 : b = 2
  · subst w2; simp +decide only [w8_0, w8_1, w8_4, w8_5, w8_6, w8_9, w8_15, w8_16, w8_26, w8_27, w8_28, w8_38, w8_39, w8_40, w8_43, w8_44, w8_47, w8_48, w8_49, isO_put, true_and, and_true, not_false_eq_true, ↓reduceIte, g0, g8, ai3, ae3, e1, e2, h3]
  by_cases w3 : b = 3
  · subst w3; simp +decide only [w8_0, w8_1, w8_4, w8_5, w8_6, w8_9, w8_15, w8_16, w8_26, w8_27, w8_28, w8_38, w8_39, w8_40, w8_50, w8_51, w8_52, w8_55, w8_56, w8_59, w8_60, w8_61, isO_put, true_and, and_true, not_false_eq_true, ↓reduceIte, g0, g9, ai4, ae4, e1, e2, h3]
  by_cases w4 : b = 4
  · subst w4; simp +decide only [w8_0, w8_1, w8_4, w8_5, w8_6, w8_9, w8_15, w8_16, w8_26, w8_27, w8_28, w8_38, w8_39, w8_40, w8_50, w8_51, w8_52, w8_62, w8_63, w8_64, w8_67, w8_68, w8_71, w8_72, w8_73, isO_put, true_and, and_true, not_false_eq_true, ↓reduceIte, g0, g10, ai5, ae5, e1, e2, h3]
  · simp +decide only [w8_0, w8_1, w8_4, w8_5, w8_6, w8_9, w8_15, w8_16, w8_26, w8_27, w8_28, w8_38, w8_39, w8_40, w8_50, w8_51, w8_52, w8_62, w8_63, w8_64, w8_74, w8_76, isO_put, true_and, and_true, not_false_eq_true, ↓reduceIte, g0, e1, e2, w0, w1, w2, w3, w4]
theorem t9 (hE : Ev s) : Cl (pj lw) 9 [.ref p, .int a, .int b] (ob H p s) Q ↔ Q (some (.int (gP s a b))) (ob H p s) := by
  rw [c9]; unfold gP
  by_cases e1 : a < 0
  · simp +decide only [w9_0, w9_1, w9_12, w9_14, false_and, not_true_eq_false, ↓reduceIte, e1]
  by_cases e2 : a < sI s 4
  rotate_left
  · simp +decide only [w9_0, w9_1, w9_4, w9_5, w9_6, w9_9, w9_12, w9_14, isO_put, true_and, and_false, not_false_eq_true, ↓reduceIte, g4, e1, e2]
  have h3 : 0 ≤ a.toInt ∧ a.toInt < 32 := by rw [lt32] at e1 e2; simp only [Int32.reduceToInt] at e1; have := hE.2.2; omega
  by_cases w0 : b = 0
  · subst w0; simp +decide only [w9_0, w9_1, w9_4, w9_5, w9_6, w9_9, w9_15, w9_16, w9_19, w9_20, w9_23, w9_24, w9_25, isO_put, true_and, and_true, not_false_eq_true, ↓reduceIte, g4, g11, ai6, ae6, e1, e2, h3]
  by_cases w1 : b = 1
  · subst w1; simp +decide only [w9_0, w9_1, w9_4, w9_5, w9_6, w9_9, w9_15, w9_16, w9_26, w9_27, w9_28, w9_31, w9_32, w9_35, w9_36, w9_37, isO_put, true_and, and_true, not_false_eq_true, ↓reduceIte, g4, g12, ai7, ae7, e1, e2, h3]
  by_cases w2 : b = 2
  · subst w2; simp +decide only [w9_0, w9_1, w9_4, w9_5, w9_6, w9_9, w9_15, w9_16, w9_26, w9_27, w9_28, w9_38, w9_39, w9_40, w9_43, w9_44, w9_47, w9_48, w9_49, isO_put, true_and, and_true, not_false_eq_true, ↓reduceIte, g4, g13, ai8, ae8, e1, e2, h3]
  by_cases w3 : b = 3
  · subst w3; simp +decide only [w9_0, w9_1, w9_4, w9_5, w9_6, w9_9, w9_15, w9_16, w9_26, w9_27, w9_28, w9_38, w9_39, w9_40, w9_50, w9_51, w9_52, w9_55, w9_56, w9_59, w9_60, w9_61, isO_put, true_and, and_true, not_false_eq_true, ↓reduceIte, g4, g14, ai9, ae9, e1, e2, h3]
  by_cases w4 : b = 4
  · subst w4; simp +decide only [w9_0, w9_1, w9_4, w9_5, w9_6, w9_9, w9_15, w9_16, w9_26, w9_27, w9_28, w9_38, w9_39, w9_40, w9_50, w9_51, w9_52, w9_62, w9_63, w9_64, w9_67, w9_68, w9_71, w9_72, w9_73, isO_put, true_and, and_true, not_false_eq_true, ↓reduceIte, g4, g15, ai10, ae10, e1, e2, h3]
  by_cases w5 : b = 5
  · subst w5; simp +decide only [w9_0, w9_1, w9_4, w9_5, w9_6, w9_9, w9_15, w9_16, w9_26, w9_27, w9_28, w9_38, w9_39, w9_40, w9_50, w9_51, w9_52, w9_62, w9_63, w9_64, w9_74, w9_75, w9_76, w9_79, w9_80, w9_83, w9_84, w9_85, isO_put, true_and, and_true, not_false_eq_true, ↓reduceIte, g4, g16, ai11, ae11, e1, e2, h3]
  by_cases w6 : b = 6
  · subst w6; simp +decide only [w9_0, w9_1, w9_4, w9_5, w9_6, w9_9, w9_15, w9_16, w9_26, w9_27, w9_28, w9_38, w9_39, w9_40, w9_50, w9_51, w9_52, w9_62, w9_63, w9_64, w9_74, w9_75, w9_76, w9_86, w9_87, w9_89, w9_92, w9_93, w9_96, w9_97, w9_98, isO_put, true_and, and_true, not_false_eq_true, ↓reduceIte, g4, g17, ai12, ae12, e1, e2, h3]
  · simp +decide only [w9_0, w9_1, w9_4, w9_5, w9_6, w9_9, w9_15, w9_16, w9_26, w9_27, w9_28, w9_38, w9_39, w9_40, w9_50, w9_51, w9_52, w9_62, w9_63, w9_64, w9_74, w9_75, w9_76, w9_86, w9_87, w9_89, w9_99, w9_101, isO_put, true_and, and_true, not_false_eq_true, ↓reduceIte, g4, e1, e2, w0, w1, w2, w3, w4, w5, w6]
theorem l7 (m : Nat) : ∀ (j c : Int32), j.toInt = (sI s 4).toInt - m → 0 ≤ j.toInt → (sI s 4).toInt ≤ 32 → (W (pj lw) 7 4 [.val (.ref p), .val (.int c), .val (.int j)] [] k n (ob H p s) Q ↔ Q (some (.int (c + Int32.ofNat (cnt (fun i => decide (sA s 6 i = 3)) j.toNatClampNeg m)))) (ob H p s)) := by
  induction m with
  | zero =>
    intro j c hj h0 hn
    have h1 : ¬ j < sI s 4 := by rw [lt32]; omega
    rw [w7_4]; simp +decide only [w7_5, w7_6, w7_9, w7_31, w7_32, isO_put, true_and, ↓reduceIte, g4, h1]
    rw [cnt, add_ofNat_zero]
  | succ m ih =>
    intro j c hj h0 hn
    have h1 : j < sI s 4 := by rw [lt32]; omega
    have h2 : (j + 1).toInt = j.toInt + 1 := ia (by simp only [Int32.reduceToInt]; omega) (by simp only [Int32.reduceToInt]; omega)
    have h3 : 0 ≤ j.toInt ∧ j.toInt < 32 := by omega
    have h4 : (j + 1).toNatClampNeg = j.toNatClampNeg + 1 := by rw [cln, cln]; omega
    rw [w7_4]
    rcases Classical.propComplete (sA s 6 j.toNatClampNeg = 3) with h5 | h5
    · simp +decide only [w7_5, w7_6, w7_9, w7_12, w7_13, w7_16, w7_17, w7_18, w7_19, w7_22, w7_25, w7_28, isO_put, true_and, and_true, ↓reduceIte, g4, g11, ai6, ae6, h1, h3, h5]
      rw [ih (j + 1) (c + 1) (by omega) (by omega) hn, h4, cnt, ofNat_one_add]
      simp [h5]
    · simp +decide only [w7_5, w7_6, w7_9, w7_12, w7_13, w7_16, w7_17, w7_18, w7_19, w7_25, w7_28, isO_put, true_and, and_true, ↓reduceIte, g4, g11, ai6, ae6, h1, h3, h5]
      rw [ih (j + 1) c (by omega) (by omega) hn, h4, cnt]
      simp [h5]
theorem t7 (hE : Ev s) : Cl (pj lw) 7 [.ref p] (ob H p s) Q ↔ Q (some (.int (Int32.ofNat (cnt (fun i => decide (sA s 6 i = 3)) 0 (pc s))))) (ob H p s) := by
  rw [c7]; simp +decide only [w7_0, w7_1, w7_2, w7_3]
  rw [l7 (pc s) 0 0 (by unfold pc; simp only [Int32.reduceToInt]; have := hE.2.2; omega) (by decide) hE.2.2.2, Int32.zero_add]; rfl
theorem l11 {e : Int32} (m : Nat) : ∀ (j c : Int32), j.toInt = (sI s 4).toInt - m → 0 ≤ j.toInt → (sI s 4).toInt ≤ 32 → (W (pj lw) 11 19 [.val (.ref p), .val (.int e), .val (.int c), .val (.int j)] [] k n (ob H p s) Q ↔ Q (some (.int (c + Int32.ofNat (cnt (fun i => decide (sA s 6 i = 1 ∧ sA s 7 i = e)) j.toNatClampNeg m)))) (ob H p s)) := by
  induction m with
  | zero =>
    intro j c hj h0 hn
    have h1 : ¬ j < sI s 4 := by rw [lt32]; omega
    rw [w11_19]; simp +decide only [w11_20, w11_21, w11_24, w11_56, w11_57, isO_put, true_and, ↓reduceIte, g4, h1]
    rw [cnt, add_ofNat_zero]
  | succ m ih =>
    intro j c hj h0 hn
    have h1 : j < sI s 4 := by rw [lt32]; omega
    have h2 : (j + 1).toInt = j.toInt + 1 := ia (by simp only [Int32.reduceToInt]; omega) (by simp only [Int32.reduceToInt]; omega)
    have h3 : 0 ≤ j.toInt ∧ j.toInt < 32 := by omega
    have h4 : (j + 1).toNatClampNeg = j.toNatClampNeg + 1 := by rw [cln, cln]; omega
    rw [w11_19]
    rcases Classical.propComplete (sA s 6 j.toNatClampNeg = 1) with h5 | h5 <;> rcases Classical.propComplete (sA s 7 j.toNatClampNeg = e) with h6 | h6
    · simp +decide only [w11_20, w11_21, w11_24, w11_27, w11_28, w11_31, w11_32, w11_33, w11_34, w11_37, w11_38, w11_41, w11_42, w11_43, w11_44, w11_47, w11_50, w11_53, isO_put, true_and, and_true, ↓reduceIte, g4, g11, g12, ai6, ae6, ai7, ae7, h1, h3, h5, h6]
      rw [ih (j + 1) (c + 1) (by omega) (by omega) hn, h4, cnt, ofNat_one_add]
      simp [h5, h6]
    all_goals
      simp +decide only [w11_20, w11_21, w11_24, w11_27, w11_28, w11_31, w11_32, w11_33, w11_34, w11_37, w11_38, w11_41, w11_42, w11_43, w11_44, w11_50, w11_53, isO_put, true_and, and_true, ↓reduceIte, g4, g11, g12, ai6, ae6, ai7, ae7, h1, h3, h5, h6]
      rw [ih (j + 1) c (by omega) (by omega) hn, h4, cnt]
      simp [h5, h6]
def wtn (s : St) (e : Int32) : Int32 := if ¬ e < 0 ∧ e < sI s 1 then Int32.ofNat (cnt (fun i => decide (sA s 6 i = 1 ∧ sA s 7 i = e)) 0 (pc s)) else -99
theorem t11 (hE : Ev s) : Cl (pj lw) 11 [.ref p, .int a] (ob H p s) Q ↔ Q (some (.int (wtn s a))) (ob H p s) := by
  rw [c11]; unfold wtn
  by_cases e1 : a < 0 <;> by_cases e2 : a < sI s 1 <;> simp +decide only [w11_0, w11_1, w11_4, w11_5, w11_6, w11_9, w11_12, w11_14, w11_15, w11_16, w11_17, w11_18, isO_put, true_and, and_true, and_false, not_true_eq_false, not_false_eq_true, ↓reduceIte, g1, e1, e2]
  rw [l11 (pc s) 0 0 (by unfold pc; simp only [Int32.reduceToInt]; have := hE.2.2; omega) (by decide) hE.2.2.2, Int32.zero_add]; rfl
def suF (f : Nat → Bool) (g : Nat → Int32) : Nat → Nat → Int32 → Int32
  | 0, _, c => c
  | m + 1, i, c => if f i = true then suF f g m (i + 1) (c + g i) else suF f g m (i + 1) c
def wS (s : St) : Int32 := suF (fun i => !decide (sA s 10 i = -1)) (fun i => sA s 10 i - sA s 9 i) (pc s) 0 0
def jS (s : St) : Int32 := suF (fun i => decide (sA s 6 i = 3)) (fun i => sA s 11 i - sA s 9 i) (pc s) 0 0
theorem l12 (m : Nat) : ∀ (j c : Int32), j.toInt = (sI s 4).toInt - m → 0 ≤ j.toInt → (sI s 4).toInt ≤ 32 → (W (pj lw) 12 4 [.val (.ref p), .val (.int c), .val (.int j)] [] k n (ob H p s) Q ↔ Q (some (.int (suF (fun i => !decide (sA s 10 i = -1)) (fun i => sA s 10 i - sA s 9 i) m j.toNatClampNeg c))) (ob H p s)) := by
  induction m with
  | zero =>
    intro j c hj h0 hn
    have h1 : ¬ j < sI s 4 := by rw [lt32]; omega
    rw [w12_4]; simp +decide only [w12_5, w12_6, w12_9, w12_44, w12_45, isO_put, true_and, ↓reduceIte, g4, h1, suF]
  | succ m ih =>
    intro j c hj h0 hn
    have h1 : j < sI s 4 := by rw [lt32]; omega
    have h2 : (j + 1).toInt = j.toInt + 1 := ia (by simp only [Int32.reduceToInt]; omega) (by simp only [Int32.reduceToInt]; omega)
    have h3 : 0 ≤ j.toInt ∧ j.toInt < 32 := by omega
    have h4 : (j + 1).toNatClampNeg = j.toNatClampNeg + 1 := by rw [cln, cln]; omega
    have key := fun c => ih (j + 1) c (by omega) (by omega) hn
    rw [h4] at key
    rw [w12_4, suF]
    rcases Classical.propComplete (sA s 10 j.toNatClampNeg = -1) with h5 | h5 <;>
    simp +decide only [w12_5, w12_6, w12_9, w12_12, w12_13, w12_16, w12_17, w12_18, w12_19, w12_22, w12_23, w12_24, w12_27, w12_28, w12_29, w12_30, w12_33, w12_34, w12_35, w12_36, w12_37i, w12_38, w12_41, isO_put, true_and, and_true, ↓reduceIte, g4, g14, g15, ai9, ae9, ai10, ae10, h1, h3, h5, key, decide_true, decide_false, Bool.not_true, Bool.not_false, Bool.false_eq_true]
theorem t12 (hE : Ev s) : Cl (pj lw) 12 [.ref p] (ob H p s) Q ↔ Q (some (.int (wS s))) (ob H p s) := by
  rw [c12]; simp +decide only [w12_0, w12_1, w12_2, w12_3]
  rw [l12 (pc s) 0 0 (by unfold pc; simp only [Int32.reduceToInt]; have := hE.2.2; omega) (by decide) hE.2.2.2]; rfl
theorem l13 (m : Nat) : ∀ (j c : Int32), j.toInt = (sI s 4).toInt - m → 0 ≤ j.toInt → (sI s 4).toInt ≤ 32 → (W (pj lw) 13 4 [.val (.ref p), .val (.int c), .val (.int j)] [] k n (ob H p s) Q ↔ Q (some (.int (suF (fun i => decide (sA s 6 i = 3)) (fun i => sA s 11 i - sA s 9 i) m j.toNatClampNeg c))) (ob H p s)) := by
  induction m with
  | zero =>
    intro j c hj h0 hn
    have h1 : ¬ j < sI s 4 := by rw [lt32]; omega
    rw [w13_4]; simp +decide only [w13_5, w13_6, w13_9, w13_44, w13_45, isO_put, true_and, ↓reduceIte, g4, h1, suF]
  | succ m ih =>
    intro j c hj h0 hn
    have h1 : j < sI s 4 := by rw [lt32]; omega
    have h2 : (j + 1).toInt = j.toInt + 1 := ia (by simp only [Int32.reduceToInt]; omega) (by simp only [Int32.reduceToInt]; omega)
    have h3 : 0 ≤ j.toInt ∧ j.toInt < 32 := by omega
    have h4 : (j + 1).toNatClampNeg = j.toNatClampNeg + 1 := by rw [cln, cln]; omega
    have key := fun c => ih (j + 1) c (by omega) (by omega) hn
    rw [h4] at key
    rw [w13_4, suF]
    rcases Classical.propComplete (sA s 6 j.toNatClampNeg = 3) with h5 | h5 <;>
    simp +decide only [w13_5, w13_6, w13_9, w13_12, w13_13, w13_16, w13_17, w13_18, w13_19, w13_22, w13_23, w13_24, w13_27, w13_28, w13_29, w13_30, w13_33, w13_34, w13_35, w13_36, w13_37i, w13_38, w13_41, isO_put, true_and, and_true, ↓reduceIte, g4, g11, g14, g16, ai6, ae6, ai9, ae9, ai11, ae11, h1, h3, h5, key, decide_true, decide_false, Bool.false_eq_true]
theorem t13 (hE : Ev s) : Cl (pj lw) 13 [.ref p] (ob H p s) Q ↔ Q (some (.int (jS s))) (ob H p s) := by
  rw [c13]; simp +decide only [w13_0, w13_1, w13_2, w13_3]
  rw [l13 (pc s) 0 0 (by unfold pc; simp only [Int32.reduceToInt]; have := hE.2.2; omega) (by decide) hE.2.2.2]; rfl
def bkt (v : Int32) : Int32 := if v < 28 then v / 4 else 7
theorem t16 : Cl (pj lw) 16 [.ref p, .int a] H Q ↔ Q (some (.int (bkt a))) H := by
  rw [c16]; unfold bkt
  by_cases e : a < 28 <;> simp +decide only [w16_0, w16_1, w16_3, w16_6, w16_7, w16_8, w16_9, w16_10, w16_12, true_and, ↓reduceIte, e]
def hiF (s : St) (a b : Int32) (i : Nat) : Bool := if a = 0 then decide (¬ sA s 10 i = -1 ∧ bkt (sA s 10 i - sA s 9 i) = b) else decide (sA s 6 i = 3 ∧ bkt (sA s 11 i - sA s 9 i) = b)
def his (s : St) (a b : Int32) : Int32 := if (a = 0 ∨ a = 1) ∧ ¬ b < 0 ∧ ¬ 7 < b then Int32.ofNat (cnt (hiF s a b) 0 (pc s)) else -99
theorem l14 (m : Nat) : ∀ (j c : Int32), j.toInt = (sI s 4).toInt - m → 0 ≤ j.toInt → (sI s 4).toInt ≤ 32 → ∀ l5 l6 : Slot, ((l5 = .unset ∧ l6 = .unset) ∨ ∃ u v, l5 = .val (.int u) ∧ l6 = .val (.int v)) → (W (pj lw) 14 27 [.val (.ref p), .val (.int a), .val (.int b), .val (.int c), .val (.int j), l5, l6] [] k n (ob H p s) Q ↔ Q (some (.int (c + Int32.ofNat (cnt (hiF s a b) j.toNatClampNeg m)))) (ob H p s)) := by
  induction m with
  | zero =>
    intro j c hj h0 hn l5 l6 hl
    have h1 : ¬ j < sI s 4 := by rw [lt32]; omega
    rw [w14_27]; simp +decide only [w14_29, w14_30, w14_33, w14_137, w14_138, isO_put, true_and, ↓reduceIte, g4, h1]
    rw [cnt, add_ofNat_zero]
  | succ m ih =>
    intro j c hj h0 hn l5 l6 hl
    have h1 : j < sI s 4 := by rw [lt32]; omega
    have h2 : (j + 1).toInt = j.toInt + 1 := ia (by simp only [Int32.reduceToInt]; omega) (by simp only [Int32.reduceToInt]; omega)
    have h3 : 0 ≤ j.toInt ∧ j.toInt < 32 := by omega
    have h4 : (j + 1).toNatClampNeg = j.toNatClampNeg + 1 := by rw [cln, cln]; omega
    have key := fun c u v => ih (j + 1) c (by omega) (by omega) hn (.val (.int u)) (.val (.int v)) (Or.inr ⟨u, v, rfl, rfl⟩)
    rw [h4] at key
    rw [w14_27, cnt]
    unfold hiF at key ⊢
    rcases Classical.propComplete (a = 0) with e0 | e0
    · rcases Classical.propComplete (sA s 10 j.toNatClampNeg = -1) with h5 | h5 <;> rcases Classical.propComplete (bkt (sA s 10 j.toNatClampNeg - sA s 9 j.toNatClampNeg) = b) with h6 | h6 <;> rcases hl with ⟨rfl, rfl⟩ | ⟨u, v, rfl, rfl⟩ <;>
      simp +decide only [w14_29, w14_30, w14_33, w14_36, w14_37, w14_40, w14_41, w14_44, w14_46, w14_47, w14_48, w14_51, w14_52, w14_55, w14_56i, w14_56, w14_58, w14_59, w14_62, w14_64, w14_65, w14_66, w14_69, w14_71, w14_72, w14_73i, w14_73, w14_75, w14_113, w14_115, w14_118, w14_119, w14_121, w14_124, w14_125, w14_128, w14_131, w14_134, isO_put, Option.toList_some, List.cons_append, List.nil_append, true_and, and_true, and_false, not_true_eq_false, not_false_eq_true, ↓reduceIte, Nat.zero_add, implies_true, g4, g14, g15, ai9, ae9, ai10, ae10, h1, h3, e0, h5, h6, t16, key, decide_true, decide_false, and_self, ofNat_one_add, Bool.false_eq_true] at key ⊢
    · rcases Classical.propComplete (sA s 6 j.toNatClampNeg = 3) with h5 | h5 <;> rcases Classical.propComplete (bkt (sA s 11 j.toNatClampNeg - sA s 9 j.toNatClampNeg) = b) with h6 | h6 <;> rcases hl with ⟨rfl, rfl⟩ | ⟨u, v, rfl, rfl⟩ <;>
      simp +decide only [w14_29, w14_30, w14_33, w14_36, w14_37, w14_78, w14_79, w14_82, w14_84, w14_85, w14_86, w14_89, w14_90, w14_93, w14_94i, w14_94, w14_96, w14_97, w14_100, w14_102, w14_103, w14_104, w14_107, w14_109, w14_110, w14_111i, w14_111, w14_113, w14_115, w14_118, w14_119, w14_121, w14_124, w14_125, w14_128, w14_131, w14_134, isO_put, Option.toList_some, List.cons_append, List.nil_append, true_and, and_true, and_false, ↓reduceIte, Nat.zero_add, implies_true, g4, g11, g14, g16, ai6, ae6, ai9, ae9, ai11, ae11, h1, h3, e0, h5, h6, t16, key, decide_true, decide_false, and_self, ofNat_one_add, Bool.false_eq_true] at key ⊢
end E

section F
variable {lw : LW} {H : AH} {p q j : Nat} {s s' s1 : St} {Q : Option Value → AH → Prop} {a b c d : Int32} {h : Nat → Cel} {k n m : Nat} {ar len cc : Nat} {f : Nat → Int32}
theorem t14 (hE : Ev s) : Cl (pj lw) 14 [.ref p, .int a, .int b] (ob H p s) Q ↔ Q (some (.int (his s a b))) (ob H p s) := by
  have hl := fun (Q : Option Value → AH → Prop) => l14 (lw := lw) (H := H) (p := p) (s := s) (Q := Q) (a := a) (b := b) (k := 0) (n := 0) (pc s) 0 0 (by unfold pc; simp only [Int32.reduceToInt]; have := hE.2.2; omega) (by decide) hE.2.2.2 .unset .unset (Or.inl ⟨rfl, rfl⟩)
  simp only [Int32.zero_add, Int32.reduceToNatClampNeg] at hl
  rw [c14]; unfold his
  by_cases e0 : a = 0 <;> by_cases e1 : a = 1 <;> by_cases e2 : b < 0 <;> by_cases e3 : 7 < b
  all_goals first
    | (rw [e0] at e1; exact absurd e1 (by decide))
    | (simp +decide only [w14_0, w14_1, w14_4, w14_5, w14_6, w14_9, w14_10, w14_13, w14_14, w14_16, w14_19, w14_21, and_true, and_false, or_false, or_true, not_true_eq_false, not_false_eq_true, ↓reduceIte, e0, e1, e2, e3]; done)
    | (subst e0; simp +decide only [w14_0, w14_1, w14_9, w14_10, w14_13, w14_14, w14_16, w14_22, w14_23, w14_24, w14_25, and_true, not_false_eq_true, ↓reduceIte, e2, e3, hl]; done)
    | (subst e1; simp +decide only [w14_0, w14_1, w14_4, w14_5, w14_6, w14_9, w14_10, w14_13, w14_14, w14_16, w14_22, w14_23, w14_24, w14_25, and_true, not_false_eq_true, ↓reduceIte, e2, e3, hl]; done)
def hcl (s : St) (f x : Int32) : Int32 := if (¬ f < 0 ∧ f < sI s 1) ∧ (x = 1 ∨ x = -1) then (if wd s f x = true then sA s 13 (slI f x).toNatClampNeg else -1) else -99
theorem t10 (hE : Ev s) : Cl (pj lw) 10 [.ref p, .int a, .int b] (ob H p s) Q ↔ Q (some (.int (hcl s a b))) (ob H p s) := by
  rw [c10]; unfold hcl
  by_cases e1 : a < 0
  · simp +decide only [w10_0, w10_1, w10_22, w10_24, false_and, not_true_eq_false, ↓reduceIte, e1]
  by_cases e2 : a < sI s 1
  rotate_left
  · simp +decide only [w10_0, w10_1, w10_4, w10_5, w10_6, w10_9, w10_22, w10_24, isO_put, true_and, false_and, and_false, not_false_eq_true, ↓reduceIte, g1, e1, e2]
  have h3 := slI_rg (b := b) hE e1 e2
  cases e5 : wd s a b <;> rcases Classical.propComplete (b = 1) with e3 | e3 <;> rcases Classical.propComplete (b = -1) with e4 | e4 <;>
  simp +decide only [w10_0, w10_1, w10_4, w10_5, w10_6, w10_9, w10_12, w10_13, w10_14, w10_17, w10_18, w10_19, w10_22, w10_24, w10_25, w10_26, w10_27, w10_28, w10_31, w10_34, w10_35, w10_36, w10_37, w10_40, w10_41, w10_42, w10_43, w10_46, w10_47, isO_put, cs_nil, cs_ref, Option.toList_some, List.cons_append, List.nil_append, true_and, and_true, and_false, or_false, or_true, not_false_eq_true, ↓reduceIte, Nat.reduceAdd, Nat.reduceLeDiff, Int32.reduceAdd, Int64.reduceAdd, Nat.add_zero, g1, g18, ai13, ae13, e1, e2, e3, e4, e5, h3, t19 hE, t18, bz_t, bz_f]
theorem ob_comm (hs : p + 13 < q) : ob (ob H p s) q s' = ob (ob H q s') p s := by
  unfold ob; exact put_comm (Or.inr hs)
theorem lft (hs : p + 13 < q) {as : List Value} {v : Option Value} (t : ∀ (H : AH) (Q : Option Value → AH → Prop), Cl (pj lw) m (.ref p :: as) (ob H p s) Q ↔ Q v (ob H p s1)) : Cl (pj lw) m (.ref p :: as) (ob (ob H p s) q s') Q ↔ Q v (ob (ob H p s1) q s') := by
  rw [ob_comm hs, t, ob_comm hs]
theorem isO2 (hs : p + 13 < q) : isO (ob (ob H p s) q s') p = true := by rw [ob_comm hs]; exact isO_put
theorem sc2 (ha : ar < p) (hs : p + 13 < q) : (isA (ob (ob (H1 cc ar len f) p s) q s') ar = true) = True ∧ alen (ob (ob (H1 cc ar len f) p s) q s') ar = len ∧ (∀ i, (inA (ob (ob (H1 cc ar len f) p s) q s') ar .int i = true) = (0 ≤ i.toInt ∧ i.toInt < len)) ∧ ∀ i, elt (ob (ob (H1 cc ar len f) p s) q s') ar i = .int (f i.toNatClampNeg) := by
  unfold ob
  refine ⟨?_, ?_, fun i => ?_, fun i => ?_⟩
  · rw [isA_ot (Or.inl (by omega)), isA_ot (Or.inl ha), isA_H1]; exact eq_self _ ▸ rfl
  · rw [alen_ot (Or.inl (by omega)), alen_ot (Or.inl ha), alen_H1]
  · rw [inA_ot (Or.inl (by omega)), inA_ot (Or.inl ha)]; exact propext inA_H1
  · rw [elt_ot (Or.inl (by omega)), elt_ot (Or.inl ha), elt_H1]
theorem Ev_ini : Ev (ini0 a b c) := by
  have h1 := cl_rg (lo := 1) (hi := 4) a (by decide)
  have h2 := cl_rg (lo := 2) (hi := 16) b (by decide)
  simp only [Int32.reduceToInt] at h1 h2
  refine ⟨?_, ?_, ?_⟩
  · simp +decide only [ini0, sI_uI, sI_fA, ↓reduceIte]; exact h1
  · simp +decide only [ini0, sI_uI, sI_fA, ↓reduceIte]; exact h2
  · simp +decide only [ini0, sI_uI, sI_fA, sI_z0, and_true, ↓reduceIte, Int32.reduceToInt]
section P5
variable {v : Int32} {t i : Nat} {w x y z : Int32}
theorem uA_5 : uA (uI s 5 v) t i w = uI (uA s t i w) 5 v := rfl
theorem uI_55 : uI (uI s 5 v) 5 w = uI s 5 w := by
  refine St_ext (fun k => ?_) (fun k => by simp only [sJ_uI]) (fun t i => by simp only [sA_uI]) (fun t i => by simp only [sB_uI])
  simp only [sI_uI]; split <;> rfl
theorem I_5 (hx : k ≠ 5) : sI (uI s 5 v) k = sI s k := by rw [sI_uI, if_neg hx]
theorem pc_5 : pc (uI s 5 v) = pc s := by unfold pc; rw [I_5 (by decide)]
theorem drn_5 : drn (uI s 5 v) i = drn s i := by unfold drn; simp only [sA_uI]
theorem wdF_5 : wdF (uI s 5 v) x y = wdF s x y := by funext i; unfold wdF; simp only [sA_uI, drn_5]
theorem rdF_5 : rdF (uI s 5 v) x y = rdF s x y := by funext i; unfold rdF; simp only [sA_uI]
theorem wd_5 : wd (uI s 5 v) x y = wd s x y := by unfold wd; rw [wdF_5, pc_5]
theorem rd_5 : rd (uI s 5 v) x y = rd s x y := by unfold rd; rw [rdF_5, pc_5]
theorem asg_5 : asg (uI s 5 v) x y z = asg s x y z := by unfold asg; rw [I_5 (by decide), wd_5, sA_uI]
theorem tg_5 : tg (uI s 5 v) x y = tg s x y := by unfold tg; rw [rd_5, asg_5, asg_5]
theorem byF_5 : byF (uI s 5 v) x y = byF s x y := by funext i; unfold byF; rw [sA_uI, tg_5]
theorem byd_5 : byd (uI s 5 v) x y = byd s x y := by unfold byd; rw [byF_5, I_5 (by decide)]
theorem rmm_5 : rmm (uI s 5 v) x = rmm s x := by unfold rmm; rw [sA_uI, I_5 (by decide)]
theorem sdr_5 : sdr (uI s 5 v) x = sdr s x := by unfold sdr; simp only [sA_uI]
theorem chs_5 : chs (uI s 5 v) x = chs s x := by unfold chs; rw [sdr_5, byd_5, byd_5, sA_uI, wd_5, wd_5]
theorem eQ_5 : eQ (uI s 5 v) i = eQ s i := by unfold eQ; simp only [sA_uI]
theorem eD_5 : eD (uI s 5 v) i x y = eD s i x y := by unfold eD; rw [eQ_5, sA_uI, I_5 (by decide)]
theorem etS_5 : etS (uI s 5 v) i x y = etS s i x y := by unfold etS; rw [eD_5, sA_uI, I_5 (by decide)]
theorem bsF_5 : ∀ (m i : Nat) (z w : Int32), bsF (uI s 5 v) x y m i z w = bsF s x y m i z w
  | 0, _, _, _ => rfl
  | m + 1, i, z, w => by rw [bsF, bsF, etS_5, bsF_5, bsF_5]
theorem asB_5 : asB (uI s 5 v) x y = asB s x y := by unfold asB asB0; rw [bsF_5, sA_uI, I_5 (by decide), etS_5]
theorem asS_5 : asS (uI s 5 v) x y = uI (asS s x y) 5 v := by unfold asS; rw [wd_5, asB_5, uA_5, uA_5]; split <;> rfl
theorem itF_5 {F : St → Nat → St} (hF : ∀ s v e, F (uI s 5 v) e = uI (F s e) 5 v) : ∀ (m e : Nat) (s : St), itF F m e (uI s 5 v) = uI (itF F m e s) 5 v
  | 0, _, _ => rfl
  | m + 1, e, s => by rw [itF, itF, hF, itF_5 hF]
theorem dpS_5 : dpS (uI s 5 v) = uI (dpS s) 5 v := by
  unfold dpS; rw [I_5 (by decide)]
  exact itF_5 (fun s v e => by unfold dpF; rw [asS_5, asS_5]) _ _ _
theorem arS_5 : arS (uI s 5 v) = uI (arS s) 5 v := by
  unfold arS; rw [pc_5]
  exact itF_5 (fun s v e => by unfold arF; rw [sA_uI, sA_uI, I_5 (by decide), uA_5]; split <;> rfl) _ _ _
theorem ss1_5 : ss1 (uI s 5 v) x = uI (ss1 s x) 5 v := by unfold ss1; rw [chs_5, uA_5]
theorem ssS_5 : ssS (uI s 5 v) x = uI (ssS s x) 5 v := by
  unfold ssS; rw [ss1_5, chs_5, rmm_5, wd_5, byd_5, sA_uI, uA_5, uA_5, uA_5, uA_5]; (repeat' split) <;> rfl
theorem scS_5 : scS (uI s 5 v) x = uI (scS s x) 5 v := by
  unfold scS; rw [ss1_5, chs_5, rmm_5, wd_5, sA_uI, uA_5, uA_5, uA_5, uA_5]; (repeat' split) <;> rfl
theorem sm2_5 : sm2 (uI s 5 v) x = uI (sm2 s x) 5 v := by unfold sm2 sm1 smf; rw [sA_uI, sA_uI, sA_uI, uA_5, uA_5]
theorem smS_5 : smS (uI s 5 v) x = uI (smS s x) 5 v := by
  unfold smS smp; rw [sm2_5, rd_5, rmm_5, asg_5, asg_5, byd_5]
  have e1 : smf (uI s 5 v) x = smf s x := by unfold smf; rw [sA_uI, sA_uI]
  have e2 : sm1 (uI s 5 v) x = uI (sm1 s x) 5 v := by unfold sm1; rw [sA_uI, uA_5]
  rw [e1, e2, sA_uI, sA_uI, uA_5, uA_5, uA_5, uA_5, uA_5]; (repeat' split) <;> rfl
theorem bdF_5 {x y z : Int32} : ∀ (m i : Nat) (w : Int32) (s : St), bdF x y z m i w (uI s 5 v) = ((bdF x y z m i w s).1, uI (bdF x y z m i w s).2 5 v)
  | 0, _, _, _ => rfl
  | m + 1, i, w, s => by
    rw [bdF, bdF, rmm_5, wdF_5]
    have e : bd1 (uI s 5 v) x i = uI (bd1 s x i) 5 v := by unfold bd1; rw [sA_uI, I_5 (by decide), uA_5, uA_5, uA_5, uA_5]
    rw [e, bdF_5, bdF_5]; (repeat' split) <;> rfl
theorem add5 (v a b c : Int32) : v + (b - a) + (c - b) = v + (c - a) := by
  rw [Int32.add_assoc]; congr 1
  rw [Int32.add_comm, Int32.sub_eq_add_neg, Int32.sub_eq_add_neg, Int32.sub_eq_add_neg, Int32.add_assoc, ← Int32.add_assoc (-b), Int32.add_left_neg, Int32.zero_add]
theorem self5 : uI s 5 v = uI s 5 (v + (sI s 5 - sI s 5)) := by rw [Int32.sub_self, Int32.add_zero]
theorem dl1_5 : dl1 (uI s 5 v) x i = uI (dl1 s x i) 5 (v + (sI (dl1 s x i) 5 - sI s 5)) := by
  have e : sI (dl1 s x i) 5 = sI s 5 + 1 := by simp +decide only [dl1, sI_uI, ↓reduceIte]
  rw [e, show sI s 5 + 1 - sI s 5 = 1 from by rw [Int32.add_comm, Int32.add_sub_cancel]]
  unfold dl1
  rw [sA_uI, I_5 (by decide), uA_5, uA_5, uA_5, uI_55, uI_55, show sI (uI s 5 v) 5 = v from by rw [sI_uI, if_pos rfl]]
theorem dlF_5 {x y : Int32} : ∀ (m i : Nat) (w : Int32) (s : St) (v : Int32), dlF x y m i w (uI s 5 v) = ((dlF x y m i w s).1, uI (dlF x y m i w s).2 5 (v + (sI (dlF x y m i w s).2 5 - sI s 5)))
  | 0, _, _, s, v => by rw [dlF, dlF]; exact Prod.ext rfl self5
  | m + 1, i, w, s, v => by
    rw [dlF, dlF, rdF_5, dl1_5, dlF_5, dlF_5]
    split
    · rw [add5]
    · rfl
theorem soS_5 : soS (uI s 5 v) x = uI (soS s x) 5 (v + (sI (soS s x) 5 - sI s 5)) := by
  have e0 : dlv (uI s 5 v) x = ((dlv s x).1, uI (dlv s x).2 5 (v + (sI (dlv s x).2 5 - sI s 5))) := by unfold dlv; rw [sA_uI, pc_5, dlF_5]
  have i2 : sI (so2 s x) 5 = sI (dlv s x).2 5 := by unfold so2 so1; rw [sI_uA]
  have i3 : sI (so3 s x) 5 = sI (dlv s x).2 5 := by unfold so3; split; exact i2; unfold brd; rw [bdF_I, i2]
  have i4 : sI (soS s x) 5 = sI (dlv s x).2 5 := by unfold soS so4; (repeat' split) <;> simp only [sI_uA, i3]
  rw [i4]
  generalize hv : v + (sI (dlv s x).2 5 - sI s 5) = v' at *
  have e1 : so1 (uI s 5 v) x = uI (so1 s x) 5 v' := by unfold so1; rw [e0]
  have e2 : so2 (uI s 5 v) x = uI (so2 s x) 5 v' := by unfold so2; rw [e1, chs_5, uA_5]
  have eb : ∀ d, brd (uI (so2 s x) 5 v') x d = ((brd (so2 s x) x d).1, uI (brd (so2 s x) x d).2 5 v') := fun d => by unfold brd; rw [sA_uI, pc_5, bdF_5]
  have e3 : so3 (uI s 5 v) x = uI (so3 s x) 5 v' := by unfold so3; rw [e1, chs_5, e2, eb]; split <;> rfl
  have ec : soc (uI s 5 v) x = soc s x := by unfold soc; rw [e0, e1, chs_5, e2, eb]
  have e4 : so4 (uI (so3 s x) 5 v') x = uI (so4 (so3 s x) x) 5 v' := by unfold so4; rw [sA_uI, uA_5]
  unfold soS; rw [ec, e3, e4, sA_uI, uA_5, uA_5]; (repeat' split) <;> rfl
theorem n5 {F : St → St} (h : ∀ s v, F (uI s 5 v) = uI (F s) 5 v) (hI : ∀ s, sI (F s) 5 = sI s 5) : ∀ s v, F (uI s 5 v) = uI (F s) 5 (v + (sI (F s) 5 - sI s 5)) := fun s v => by rw [h, hI, Int32.sub_self, Int32.add_zero]
theorem rcS_5 : rcS (uI s 5 v) x = uI (rcS s x) 5 (v + (sI (rcS s x) 5 - sI s 5)) := by
  unfold rcS; simp only [sA_uI]
  (repeat' split)
  · exact n5 (F := fun s => ssS s x) (fun s v => ssS_5) (fun s => ssS_I) s v
  · exact n5 (F := fun s => smS s x) (fun s v => smS_5) (fun s => smS_I) s v
  · exact soS_5
  · exact n5 (F := fun s => scS s x) (fun s v => scS_5) (fun s => scS_I) s v
  · exact self5
theorem rcF_5 : ∀ (m e : Nat) (s : St) (v : Int32), itF rcF m e (uI s 5 v) = uI (itF rcF m e s) 5 (v + (sI (itF rcF m e s) 5 - sI s 5))
  | 0, _, s, v => self5
  | m + 1, e, s, v => by
    rw [itF, itF]
    have : rcF (uI s 5 v) e = uI (rcF s e) 5 (v + (sI (rcF s e) 5 - sI s 5)) := rcS_5
    rw [this, rcF_5, add5]
theorem tkS_5 : tkS (uI s 5 v) = uI (tkS s) 5 (v + (sI (tkS s) 5 - sI s 5)) := by
  have e1 : tk1 (uI s 5 v) = uI (tk1 s) 5 v := by unfold tk1; rw [arS_5, dpS_5]
  have e2 : tk2 (uI s 5 v) = uI (tk2 s) 5 (v + (sI (tk2 s) 5 - sI s 5)) := by
    unfold tk2; rw [I_5 (by decide), e1, rcF_5, tk1_I]
  have e3 : sI (tkS s) 5 = sI (tk2 s) 5 := by unfold tkS; rw [sI_uI, if_neg (by decide)]
  rw [e3]; unfold tkS; rw [e2, I_5 (by decide)]
  refine St_ext (fun k => ?_) (fun k => by simp only [sJ_uI]) (fun t i => by simp only [sA_uI]) (fun t i => by simp only [sB_uI])
  simp only [sI_uI]
  by_cases g : k = 3
  · subst g; simp +decide only [↓reduceIte]
  · simp only [g, if_false]
end P5
end F

section G5
variable {s : St} {v x y z : Int32}
theorem Ev5 (h : Ev s) : Ev (uI s 5 v) := h.of (I_5 (by decide)) (I_5 (by decide)) (I_5 (by decide))
theorem gC5 : gC (uI s 5 v) y z = gC s y z := by unfold gC; simp only [sA_uI]; rw [I_5 (by decide)]
theorem gP5 : gP (uI s 5 v) y z = gP s y z := by unfold gP; simp only [sA_uI]; rw [I_5 (by decide)]
theorem hcl5 : hcl (uI s 5 v) y z = hcl s y z := by unfold hcl; rw [wd_5, sA_uI, I_5 (by decide)]
theorem wtn5 : wtn (uI s 5 v) y = wtn s y := by unfold wtn; simp only [sA_uI]; rw [I_5 (by decide), pc_5]
theorem his5 : his (uI s 5 v) y z = his s y z := by
  have : hiF (uI s 5 v) y z = hiF s y z := by funext i; unfold hiF; simp only [sA_uI]
  unfold his; rw [this, pc_5]
theorem wS5 : wS (uI s 5 v) = wS s := by unfold wS; simp only [sA_uI]; rw [pc_5]
theorem jS5 : jS (uI s 5 v) = jS s := by unfold jS; simp only [sA_uI]; rw [pc_5]
def dlN (s : St) : Nat := cnt (fun i => decide (sA s 6 i = 3)) 0 (pc s)
theorem dlN5 : dlN (uI s 5 v) = dlN s := by unfold dlN; simp only [sA_uI]; rw [pc_5]
theorem ap5 : apS (uI s 5 v) x y z = uI (apS s x y z) 5 v ∧ apR (uI s 5 v) x y z = apR s x y z := by
  have e : apR (uI s 5 v) x y z = apR s x y z := by unfold apR; simp +decide only [sI_uI, ↓reduceIte]
  refine ⟨?_, e⟩
  unfold apS; rw [e]; split
  · rfl
  · unfold apN
    refine St_ext (fun k => ?_) (fun k => by simp only [sJ_uI, sJ_uA]) (fun t i => by simp +decide only [sA_uI, sA_uA, sI_uI, ↓reduceIte]) (fun t i => by simp only [sB_uI, sB_uA])
    simp +decide only [sI_uI, sI_uA, ↓reduceIte]
    by_cases g : k = 4
    · subst g; simp +decide only [↓reduceIte]
    · simp only [g, if_false]
theorem ge5 {g : Int32} : ∀ (m : Nat) (i x y : Int32) (s : St), geF g m i x y (uI s 5 v) = ((geF g m i x y s).1, uI (geF g m i x y s).2 5 v)
  | 0, _, _, _, _ => rfl
  | m + 1, i, x, y, s => by
    have e1 : gf (uI s 5 v) x = gf s x := by unfold gf; rw [I_5 (by decide)]
    have e2 : gto (uI s 5 v) x = gto s x := by unfold gto gt0; rw [e1, I_5 (by decide)]
    rw [geF, geF, e1, e2, I_5 (by decide), I_5 (by decide), ap5.1, ap5.2, ge5]; split <;> rfl
theorem gen5 : gen (uI s 5 v) x y z = ((gen s x y z).1, uI (gen s x y z).2 5 v) := ge5 _ _ _ _ _
theorem tkF5 : ∀ (m : Nat) (s : St) (v : Int32), tkF m (uI s 5 v) = uI (tkF m s) 5 (v + (sI (tkF m s) 5 - sI s 5))
  | 0, s, v => self5
  | m + 1, s, v => by rw [tkF, tkF, tkS_5, tkF5, add5]
end G5

section Hh
variable {s s' : St} {a b c d x y z : Int32} {i : Nat}
def ldn (s : St) (c : Nat) : Nat := cnt (fun i => decide (sA s 6 i = 2 ∧ sA s 12 i = Int32.ofNat c)) 0 (pc s)
def IL (s : St) : Prop := (1 ≤ (sI s 2).toInt ∧ (sI s 2).toInt ≤ 8) ∧ ∀ c, c < 4 → (sA s 4 c).toInt = ldn s c ∧ (sA s 4 c).toInt ≤ (sI s 2).toInt
theorem IL.of (h : IL s) (h2 : sI s' 2 = sI s 2) (h4 : sI s' 4 = sI s 4) (a4 : ∀ i, sA s' 4 i = sA s 4 i) (a6 : ∀ i, (sA s' 6 i = 2) = (sA s 6 i = 2)) (a12 : ∀ i, sA s' 12 i = sA s 12 i) : IL s' := by
  have e : ∀ c, ldn s' c = ldn s c := fun c => by unfold ldn pc; rw [h4]; simp only [a6, a12]
  unfold IL; rw [h2]; exact ⟨h.1, fun c hc => by rw [a4, e]; exact h.2 c hc⟩
end Hh

section Ii
variable {s s' : St} {a b c d x y z : Int32} {i : Nat} {I : St → Prop}
def Stp (I : St → Prop) : Prop := (∀ s t i v, (t = 1 ∨ t = 2 ∨ t = 3 ∨ t = 5 ∨ t = 13) → I s → I (uA s t i v)) ∧ (∀ s i, Ev s → i < pc s → sA s 6 i = 0 → sA s 9 i = sI s 3 → I s → I (uA s 6 i 1)) ∧ (∀ s c f i, Ev s → (0 ≤ c.toInt ∧ c.toInt < (sI s 0).toInt) → i < pc s → rdF s c f i = true → I s → I (dl1 s c i)) ∧ (∀ s c d f i, Ev s → (0 ≤ c.toInt ∧ c.toInt < (sI s 0).toInt) → i < pc s → wdF s f d i = true → rmm s c = true → I s → I (bd1 s c i))
theorem Stp.plain {I : St → Prop} (h : Stp I) : ∀ s t i v, (t = 1 ∨ t = 2 ∨ t = 3 ∨ t = 5 ∨ t = 13) → I s → I (uA s t i v) := h.1
theorem Stp.arr {I : St → Prop} (h : Stp I) : ∀ s i, Ev s → i < pc s → sA s 6 i = 0 → sA s 9 i = sI s 3 → I s → I (uA s 6 i 1) := h.2.1
theorem Stp.del {I : St → Prop} (h : Stp I) : ∀ s c f i, Ev s → (0 ≤ c.toInt ∧ c.toInt < (sI s 0).toInt) → i < pc s → rdF s c f i = true → I s → I (dl1 s c i) := h.2.2.1
theorem Stp.brd {I : St → Prop} (h : Stp I) : ∀ s c d f i, Ev s → (0 ≤ c.toInt ∧ c.toInt < (sI s 0).toInt) → i < pc s → wdF s f d i = true → rmm s c = true → I s → I (bd1 s c i) := h.2.2.2
theorem Stp.dlF (h : Stp I) {f : Int32} : ∀ (m i : Nat) (y : Int32) (s : St), Ev s → (0 ≤ c.toInt ∧ c.toInt < (sI s 0).toInt) → i + m ≤ pc s → I s → I (dlF c f m i y s).2
  | 0, _, _, _, _, _, _, g => g
  | m + 1, i, y, s, hE, hc, hi, g => by
    rw [Pj.dlF]; split
    · rename_i r
      exact Stp.dlF h m (i + 1) 1 _ (hE.of (dl1_I (by decide)) (dl1_I (by decide)) (dl1_I (by decide))) (by rw [dl1_I (by decide)]; exact hc) (by unfold pc; rw [dl1_I (by decide)]; unfold pc at hi; omega) (h.del s c f i hE hc (by omega) r g)
    · exact Stp.dlF h m (i + 1) y s hE hc (by omega) g
theorem Stp.bdF (h : Stp I) {f : Int32} : ∀ (m i : Nat) (y : Int32) (s : St), Ev s → (0 ≤ c.toInt ∧ c.toInt < (sI s 0).toInt) → i + m ≤ pc s → I s → I (bdF c d f m i y s).2
  | 0, _, _, _, _, _, _, g => g
  | m + 1, i, y, s, hE, hc, hi, g => by
    rw [Pj.bdF]; split
    · rename_i rm
      split
      · rename_i r
        exact Stp.bdF h m (i + 1) 1 _ (hE.of bd1_I bd1_I bd1_I) (by rw [bd1_I]; exact hc) (by unfold pc; rw [bd1_I]; unfold pc at hi; omega) (h.brd s c d f i hE hc (by omega) r rm g)
      · exact Stp.bdF h m (i + 1) y s hE hc (by omega) g
    · exact g
theorem Stp.rc (h : Stp I) (hE : Ev s) (hc : 0 ≤ c.toInt ∧ c.toInt < (sI s 0).toInt) (g : I s) : I (rcS s c) := by
  have P := fun (s : St) (t i : Nat) (v : Int32) (ht : t = 1 ∨ t = 2 ∨ t = 3 ∨ t = 5 ∨ t = 13) (g : I s) => h.plain s t i v ht g
  unfold rcS; (repeat' split)
  · have h1 : I (ss1 s c) := P _ _ _ _ (by decide) g
    unfold ssS; (repeat' split)
    · exact h1
    · exact P _ _ _ _ (by decide) (P _ _ _ _ (by decide) h1)
    · exact P _ _ _ _ (by decide) (P _ _ _ _ (by decide) h1)
    · exact h1
  · have h1 : I (sm1 s c) := P _ _ _ _ (by decide) g
    have h2 : I (sm2 s c) := P _ _ _ _ (by decide) h1
    unfold smS; (repeat' split)
    · exact h1
    · exact P _ _ _ _ (by decide) (P _ _ _ _ (by decide) h2)
    · exact P _ _ _ _ (by decide) h2
    · exact P _ _ _ _ (by decide) (P _ _ _ _ (by decide) h2)
  · have e1 : ∀ x, x ≠ 5 → sI (so1 s c) x = sI s x := fun x hx => dlF_I hx _ _ _ _
    have h1 : I (so1 s c) := h.dlF _ _ _ _ hE hc (by omega) g
    have E1 : Ev (so1 s c) := hE.of (e1 0 (by decide)) (e1 1 (by decide)) (e1 4 (by decide))
    have h2 : I (so2 s c) := P _ _ _ _ (by decide) h1
    have h3 : I (so3 s c) := by
      unfold so3; split
      · exact h2
      · exact h.bdF _ _ _ _ (Ev_A E1) (by unfold so2; rw [sI_uA, e1 0 (by decide)]; exact hc) (by omega) h2
    have h4 : I (so4 (so3 s c) c) := P _ _ _ _ (by decide) h3
    unfold soS; (repeat' split)
    · exact P _ _ _ _ (by decide) h3
    · exact P _ _ _ _ (by decide) h4
    · exact h4
  · have h1 : I (ss1 s c) := P _ _ _ _ (by decide) g
    unfold scS; split
    · exact P _ _ _ _ (by decide) (P _ _ _ _ (by decide) h1)
    · exact P _ _ _ _ (by decide) (P _ _ _ _ (by decide) h1)
  · exact g
theorem Stp.tk2 (h : Stp I) (hE : Ev s) (g : I s) : I (tk2 s) := by
  have h1 : I (arS s) := (itF_ind (I := fun v => (Ev v ∧ sI v 4 = sI s 4) ∧ I v) _ _ _ (fun v k _ hk g => by
    refine ⟨⟨g.1.1.of arF_I arF_I arF_I, by rw [arF_I]; exact g.1.2⟩, ?_⟩
    unfold arF; split
    · rename_i r
      exact h.arr v k g.1.1 (by unfold pc at *; rw [g.1.2]; omega) r.1 r.2 g.2
    · exact g.2) ⟨⟨hE, rfl⟩, g⟩).2
  have h2 : I (tk1 s) := by
    unfold tk1 dpS
    refine itF_inv (I := I) (fun v e g => ?_) _ _ _ h1
    have P := fun (v : St) (f x : Int32) (g : I v) => (show I (asS v f x) by unfold asS; split <;> exact h.plain _ _ _ _ (by decide) g)
    exact P _ _ _ (P _ _ _ g)
  unfold Pj.tk2
  refine (itF_ind (I := fun v => (Ev v ∧ sI v 0 = sI s 0) ∧ I v) _ _ _ (fun v k _ hk g => ?_) ⟨⟨hE.of tk1_I tk1_I tk1_I, tk1_I⟩, h2⟩).2
  have e0 : (Int32.ofNat k).toInt = k := Int32.toInt_ofNat_of_lt (by have := hE.1; omega)
  exact ⟨⟨Ev_rc g.1.1, (rcS_I (by decide)).trans g.1.2⟩, h.rc g.1.1 (by rw [e0, g.1.2]; have := hE.1; omega) g.2⟩
end Ii

end Jvm.JX.Pj
namespace Jvm.JX.Lw
open Jvm Jvm.ClassFile Sem Op Lib Jvm.JX Jvm.JX.Pj
def lr0 : List Row := [(0, .new 7, 3, 19), (3, .dup, 1, 0), (4, .iconst 2, 1, 0), (5, .bipush 6, 2, 0), (7, .iconst 3, 1, 0), (8, .invokespecial 9, 3, 1), (11, .astore_n 1, 1, 0), (12, .new 7, 3, 19), (15, .dup, 1, 0), (16, .iconst 2, 1, 0), (17, .bipush 6, 2, 0), (19, .iconst 3, 1, 0), (20, .invokespecial 9, 3, 1), (23, .astore_n 2, 1, 0), (24, .iconst 0, 1, 0), (25, .istore_n 3, 1, 0), (26, .iconst 0, 1, 0), (27, .istore 4, 2, 0), (29, .iload 4, 2, 0), (31, .iconst 3, 1, 0), (32, .iadd, 1, 0), (33, .aload_n 0, 1, 0), (34, .arraylength, 1, 0), (35, .if_icmp .ge 273, 3, 0), (38, .iload_n 3, 1, 0), (39, .bipush 48, 2, 0), (41, .if_icmp .ge 267, 3, 0), (44, .iinc 3 1, 3, 0), (47, .aload_n 0, 1, 0), (48, .iload 4, 2, 0), (50, .iaload, 1, 0), (51, .iconst 3, 1, 0), (52, .iand, 1, 0), (53, .istore 5, 2, 0), (55, .aload_n 0, 1, 0), (56, .iload 4, 2, 0), (58, .iconst 1, 1, 0), (59, .iadd, 1, 0), (60, .iaload, 1, 0), (61, .bipush 7, 2, 0), (63, .iand, 1, 0), (64, .iconst 1, 1, 0), (65, .iadd, 1, 0), (66, .istore 6, 2, 0), (68, .aload_n 0, 1, 0), (69, .iload 4, 2, 0), (71, .iconst 2, 1, 0), (72, .iadd, 1, 0), (73, .iaload, 1, 0), (74, .bipush 7, 2, 0), (76, .iand, 1, 0), (77, .istore 7, 2, 0), (79, .aload_n 0, 1, 0), (80, .iload 4, 2, 0), (82, .iconst 3, 1, 0), (83, .iadd, 1, 0), (84, .iaload, 1, 0), (85, .bipush 7, 2, 0), (87, .iand, 1, 0), (88, .istore 8, 2, 0), (90, .iload 5, 2, 0), (92, .iconst 1, 1, 0), (93, .if_icmp .gt 57, 3, 0), (96, .aload_n 1, 1, 0), (97, .invokevirtual 12, 3, 5), (100, .aload_n 0, 1, 0), (101, .iload 4, 2, 0), (103, .iconst 1, 1, 0), (104, .iadd, 1, 0), (105, .iaload, 1, 0), (106, .bipush 7, 2, 0), (108, .iand, 1, 0), (109, .iadd, 1, 0), (110, .iconst 1, 1, 0), (111, .isub, 1, 0), (112, .istore 9, 2, 0), (114, .aload_n 1, 1, 0), (115, .iload 9, 2, 0), (117, .iload 7, 2, 0), (119, .iload 8, 2, 0), (121, .invokevirtual 16, 3, 2), (124, .istore 10, 2, 0), (126, .aload_n 2, 1, 0), (127, .iload 9, 2, 0), (129, .iload 7, 2, 0), (131, .iload 8, 2, 0), (133, .invokevirtual 16, 3, 2), (136, .istore 11, 2, 0), (138, .iload 10, 2, 0), (140, .iload 11, 2, 0), (142, .if_icmp .eq 5, 3, 0), (145, .iconst 0, 1, 0), (146, .ireturn, 1, 0), (147, .goto 155, 3, 0), (150, .iload 5, 2, 0), (152, .iconst 2, 1, 0), (153, .if_icmp .ne 55, 3, 0), (156, .aload_n 1, 1, 0), (157, .aload_n 0, 1, 0), (158, .iload 4, 2, 0), (160, .iconst 1, 1, 0), (161, .iadd, 1, 0), (162, .iaload, 1, 0), (163, .iload 7, 2, 0), (165, .iconst 3, 1, 0), (166, .iand, 1, 0), (167, .iload 8, 2, 0), (169, .iconst 3, 1, 0), (170, .iand, 1, 0), (171, .invokevirtual 20, 3, 3), (174, .istore 9, 2, 0), (176, .aload_n 2, 1, 0), (177, .aload_n 0, 1, 0), (178, .iload 4, 2, 0), (180, .iconst 1, 1, 0), (181, .iadd, 1, 0), (182, .iaload, 1, 0), (183, .iload 7, 2, 0), (185, .iconst 3, 1, 0), (186, .iand, 1, 0), (187, .iload 8, 2, 0), (189, .iconst 3, 1, 0), (190, .iand, 1, 0), (191, .invokevirtual 20, 3, 3), (194, .istore 10, 2, 0), (196, .iload 9, 2, 0), (198, .iload 10, 2, 0), (200, .if_icmp .eq 5, 3, 0), (203, .iconst 0, 1, 0), (204, .ireturn, 1, 0), (205, .goto 97, 3, 0), (208, .iload 7, 2, 0), (210, .iconst 1, 1, 0), (211, .iadd, 1, 0), (212, .istore 9, 2, 0), (214, .aload_n 1, 1, 0), (215, .iload 6, 2, 0), (217, .iload 9, 2, 0), (219, .iadd, 1, 0), (220, .invokevirtual 23, 3, 4), (223, .istore 10, 2, 0), (225, .aload_n 2, 1, 0), (226, .iload 6, 2, 0), (228, .invokevirtual 23, 3, 4), (231, .istore 11, 2, 0), (233, .aload_n 2, 1, 0), (234, .invokevirtual 27, 3, 6), (237, .istore 12, 2, 0), (239, .aload_n 2, 1, 0), (240, .iconst 0, 1, 0), (241, .iconst 2, 1, 0), (242, .iconst 2, 1, 0), (243, .invokevirtual 16, 3, 2), (246, .istore 13, 2, 0), (248, .iload 12, 2, 0), (250, .bipush 32, 2, 0), (252, .if_icmp .ne 7, 3, 0), (255, .iconst (-1), 1, 0), (256, .goto 5, 3, 0), (259, .bipush (-2), 2, 0), (261, .istore 14, 2, 0), (263, .iload 13, 2, 0), (265, .iload 14, 2, 0), (267, .if_icmp .eq 5, 3, 0), (270, .iconst 0, 1, 0), (271, .ireturn, 1, 0), (272, .aload_n 2, 1, 0), (273, .iload 9, 2, 0), (275, .invokevirtual 23, 3, 4), (278, .istore 15, 2, 0), (280, .iload 10, 2, 0), (282, .iload 11, 2, 0), (284, .iload 15, 2, 0), (286, .iadd, 1, 0), (287, .if_icmp .eq 5, 3, 0), (290, .iconst 0, 1, 0), (291, .ireturn, 1, 0), (292, .aload_n 1, 1, 0), (293, .aload_n 2, 1, 0), (294, .invokestatic 30, 3, 103), (297, .ifCond .ne 5, 3, 0), (300, .iconst 0, 1, 0), (301, .ireturn, 1, 0), (302, .iinc 4 4, 3, 0), (305, .goto (-276), 3, 0), (308, .iconst 1, 1, 0), (309, .ireturn, 1, 0)]
def lr3 : List Row := [(0, .aload_n 0, 1, 0), (1, .invokevirtual 12, 3, 5), (4, .aload_n 1, 1, 0), (5, .invokevirtual 12, 3, 5), (8, .if_icmp .ne 25, 3, 0), (11, .aload_n 0, 1, 0), (12, .invokevirtual 27, 3, 6), (15, .aload_n 1, 1, 0), (16, .invokevirtual 27, 3, 6), (19, .if_icmp .ne 14, 3, 0), (22, .aload_n 0, 1, 0), (23, .invokevirtual 36, 3, 7), (26, .aload_n 1, 1, 0), (27, .invokevirtual 36, 3, 7), (30, .if_icmp .eq 5, 3, 0), (33, .iconst 0, 1, 0), (34, .ireturn, 1, 0), (35, .aload_n 0, 1, 0), (36, .invokevirtual 39, 3, 12), (39, .aload_n 1, 1, 0), (40, .invokevirtual 39, 3, 12), (43, .if_icmp .ne 14, 3, 0), (46, .aload_n 0, 1, 0), (47, .invokevirtual 42, 3, 13), (50, .aload_n 1, 1, 0), (51, .invokevirtual 42, 3, 13), (54, .if_icmp .eq 5, 3, 0), (57, .iconst 0, 1, 0), (58, .ireturn, 1, 0), (59, .iconst 0, 1, 0), (60, .istore_n 2, 1, 0), (61, .iload_n 2, 1, 0), (62, .bipush 10, 2, 0), (64, .if_icmp .ge 34, 3, 0), (67, .aload_n 0, 1, 0), (68, .iload_n 2, 1, 0), (69, .iconst 5, 1, 0), (70, .idiv, 1, 0), (71, .iload_n 2, 1, 0), (72, .iconst 5, 1, 0), (73, .irem, 1, 0), (74, .invokevirtual 45, 3, 8), (77, .aload_n 1, 1, 0), (78, .iload_n 2, 1, 0), (79, .iconst 5, 1, 0), (80, .idiv, 1, 0), (81, .iload_n 2, 1, 0), (82, .iconst 5, 1, 0), (83, .irem, 1, 0), (84, .invokevirtual 45, 3, 8), (87, .if_icmp .eq 5, 3, 0), (90, .iconst 0, 1, 0), (91, .ireturn, 1, 0), (92, .iinc 2 1, 3, 0), (95, .goto (-34), 3, 0), (98, .iconst 0, 1, 0), (99, .istore_n 2, 1, 0), (100, .iload_n 2, 1, 0), (101, .sipush 224, 3, 0), (104, .if_icmp .ge 38, 3, 0), (107, .aload_n 0, 1, 0), (108, .iload_n 2, 1, 0), (109, .bipush 7, 2, 0), (111, .idiv, 1, 0), (112, .iload_n 2, 1, 0), (113, .bipush 7, 2, 0), (115, .irem, 1, 0), (116, .invokevirtual 49, 3, 9), (119, .aload_n 1, 1, 0), (120, .iload_n 2, 1, 0), (121, .bipush 7, 2, 0), (123, .idiv, 1, 0), (124, .iload_n 2, 1, 0), (125, .bipush 7, 2, 0), (127, .irem, 1, 0), (128, .invokevirtual 49, 3, 9), (131, .if_icmp .eq 5, 3, 0), (134, .iconst 0, 1, 0), (135, .ireturn, 1, 0), (136, .iinc 2 1, 3, 0), (139, .goto (-39), 3, 0), (142, .iconst 0, 1, 0), (143, .istore_n 2, 1, 0), (144, .iload_n 2, 1, 0), (145, .bipush 6, 2, 0), (147, .if_icmp .ge 58, 3, 0), (150, .aload_n 0, 1, 0), (151, .iload_n 2, 1, 0), (152, .invokevirtual 52, 3, 11), (155, .aload_n 1, 1, 0), (156, .iload_n 2, 1, 0), (157, .invokevirtual 52, 3, 11), (160, .if_icmp .eq 5, 3, 0), (163, .iconst 0, 1, 0), (164, .ireturn, 1, 0), (165, .aload_n 0, 1, 0), (166, .iload_n 2, 1, 0), (167, .iconst 1, 1, 0), (168, .invokevirtual 55, 3, 10), (171, .aload_n 1, 1, 0), (172, .iload_n 2, 1, 0), (173, .iconst 1, 1, 0), (174, .invokevirtual 55, 3, 10), (177, .if_icmp .eq 5, 3, 0), (180, .iconst 0, 1, 0), (181, .ireturn, 1, 0), (182, .aload_n 0, 1, 0), (183, .iload_n 2, 1, 0), (184, .iconst (-1), 1, 0), (185, .invokevirtual 55, 3, 10), (188, .aload_n 1, 1, 0), (189, .iload_n 2, 1, 0), (190, .iconst (-1), 1, 0), (191, .invokevirtual 55, 3, 10), (194, .if_icmp .eq 5, 3, 0), (197, .iconst 0, 1, 0), (198, .ireturn, 1, 0), (199, .iinc 2 1, 3, 0), (202, .goto (-58), 3, 0), (205, .iconst 0, 1, 0), (206, .istore_n 2, 1, 0), (207, .iload_n 2, 1, 0), (208, .bipush 16, 2, 0), (210, .if_icmp .ge 38, 3, 0), (213, .aload_n 0, 1, 0), (214, .iload_n 2, 1, 0), (215, .bipush 8, 2, 0), (217, .idiv, 1, 0), (218, .iload_n 2, 1, 0), (219, .bipush 8, 2, 0), (221, .irem, 1, 0), (222, .invokevirtual 58, 3, 14), (225, .aload_n 1, 1, 0), (226, .iload_n 2, 1, 0), (227, .bipush 8, 2, 0), (229, .idiv, 1, 0), (230, .iload_n 2, 1, 0), (231, .bipush 8, 2, 0), (233, .irem, 1, 0), (234, .invokevirtual 58, 3, 14), (237, .if_icmp .eq 5, 3, 0), (240, .iconst 0, 1, 0), (241, .ireturn, 1, 0), (242, .iinc 2 1, 3, 0), (245, .goto (-38), 3, 0), (248, .iconst 1, 1, 0), (249, .ireturn, 1, 0)]
def lrows : List (List Row) := [lr0, [], [], lr3]
def linfo : List MInfo := [(1, 16, 9, some .boolean, { frames := 13, cells := 64, slots := 1280, locals := 272 }), (0, 0, 9, none, {}), (0, 0, 9, none, {}), (2, 3, 0, some .boolean, { frames := 3, cells := 0, slots := 0, locals := 43 })]
def lw : LW := (fun j pc => (lrows.getD j []).lookup pc, fun j => linfo.getD j (0, 0, 9, none, {}))
section LPc
variable {L : List Slot} {S : List Value} {k n : Nat} {H : AH} {Q : Option Value → AH → Prop}
theorem c100 {x0 : Nat} : Cl (pj lw) 100 [.ref x0] H Q ↔ W (pj lw) 100 0 [.val (.ref x0), .unset, .unset, .unset, .unset, .unset, .unset, .unset, .unset, .unset, .unset, .unset, .unset, .unset, .unset, .unset] [] 0 0 H Q := cl_unf rfl
theorem w100_0 : W (pj lw) 100 0 L S k n H Q ↔ ((k + 1 ≤ 64 ∧ n + 19 ≤ 1280) ∧ W (pj lw) 100 3 L (.ref H.1 :: S) (k + 1) (n + 19) (mkO (pj lw) H) Q) := W_new' (rfl : (pj lw).1 100 0 = some (.new 7, 3, 19)) (by decide)
theorem w100_3 {x : Nat} : W (pj lw) 100 3 L (.ref x :: S) k n H Q ↔ W (pj lw) 100 4 L (.ref x :: .ref x :: S) k n H Q := W_s (rfl : (pj lw).1 100 3 = some (.dup, 1, 0)) rfl rfl rfl
theorem w100_4 : W (pj lw) 100 4 L S k n H Q ↔ W (pj lw) 100 5 L (.int 2 :: S) k n H Q := W_s (rfl : (pj lw).1 100 4 = some (.iconst 2, 1, 0)) rfl rfl rfl
theorem w100_5 : W (pj lw) 100 5 L S k n H Q ↔ W (pj lw) 100 7 L (.int 6 :: S) k n H Q := W_s (rfl : (pj lw).1 100 5 = some (.bipush 6, 2, 0)) rfl rfl rfl
theorem w100_7 : W (pj lw) 100 7 L S k n H Q ↔ W (pj lw) 100 8 L (.int 3 :: S) k n H Q := W_s (rfl : (pj lw).1 100 7 = some (.iconst 3, 1, 0)) rfl rfl rfl
theorem w100_8 {a : Nat} {x0 : Int32} {x1 : Int32} {x2 : Int32} : W (pj lw) 100 8 L (.int x2 :: .int x1 :: .int x0 :: .ref a :: S) k n H Q ↔ ((isO H a = true ∧ cs S + (5 + 11) + 16 ≤ 272 ∧ k + 13 ≤ 64 ∧ n + 276 ≤ 1280) ∧ Cl (pj lw) 1 [.ref a, .int x0, .int x1, .int x2] H (fun v H => W (pj lw) 100 11 L (v.toList ++ S) (k + 13) (n + 276) H Q)) := W_init (as := [.int x0, .int x1, .int x2]) (rfl : (pj lw).1 100 8 = some (.invokespecial 9, 3, 1)) rfl rfl rfl (Nat.le_of_ble_eq_true rfl) (Nat.le_of_ble_eq_true rfl) (fun h => absurd (show (13 : Nat) = 0 from h.1) (by decide))
theorem w100_11 {x : Nat} {l0 : Slot} : W (pj lw) 100 11 (l0 :: .unset :: L) (.ref x :: S) k n H Q ↔ W (pj lw) 100 12 (l0 :: .val (.ref x) :: L) S k n H Q := W_astn (rfl : (pj lw).1 100 11 = some (.astore_n 1, 1, 0)) rfl rfl
theorem w100_12 : W (pj lw) 100 12 L S k n H Q ↔ ((k + 1 ≤ 64 ∧ n + 19 ≤ 1280) ∧ W (pj lw) 100 15 L (.ref H.1 :: S) (k + 1) (n + 19) (mkO (pj lw) H) Q) := W_new' (rfl : (pj lw).1 100 12 = some (.new 7, 3, 19)) (by decide)
theorem w100_15 {x : Nat} : W (pj lw) 100 15 L (.ref x :: S) k n H Q ↔ W (pj lw) 100 16 L (.ref x :: .ref x :: S) k n H Q := W_s (rfl : (pj lw).1 100 15 = some (.dup, 1, 0)) rfl rfl rfl
theorem w100_16 : W (pj lw) 100 16 L S k n H Q ↔ W (pj lw) 100 17 L (.int 2 :: S) k n H Q := W_s (rfl : (pj lw).1 100 16 = some (.iconst 2, 1, 0)) rfl rfl rfl
theorem w100_17 : W (pj lw) 100 17 L S k n H Q ↔ W (pj lw) 100 19 L (.int 6 :: S) k n H Q := W_s (rfl : (pj lw).1 100 17 = some (.bipush 6, 2, 0)) rfl rfl rfl
theorem w100_19 : W (pj lw) 100 19 L S k n H Q ↔ W (pj lw) 100 20 L (.int 3 :: S) k n H Q := W_s (rfl : (pj lw).1 100 19 = some (.iconst 3, 1, 0)) rfl rfl rfl
theorem w100_20 {a : Nat} {x0 : Int32} {x1 : Int32} {x2 : Int32} : W (pj lw) 100 20 L (.int x2 :: .int x1 :: .int x0 :: .ref a :: S) k n H Q ↔ ((isO H a = true ∧ cs S + (5 + 11) + 16 ≤ 272 ∧ k + 13 ≤ 64 ∧ n + 276 ≤ 1280) ∧ Cl (pj lw) 1 [.ref a, .int x0, .int x1, .int x2] H (fun v H => W (pj lw) 100 23 L (v.toList ++ S) (k + 13) (n + 276) H Q)) := W_init (as := [.int x0, .int x1, .int x2]) (rfl : (pj lw).1 100 20 = some (.invokespecial 9, 3, 1)) rfl rfl rfl (Nat.le_of_ble_eq_true rfl) (Nat.le_of_ble_eq_true rfl) (fun h => absurd (show (13 : Nat) = 0 from h.1) (by decide))
theorem w100_23 {x : Nat} {l0 l1 : Slot} : W (pj lw) 100 23 (l0 :: l1 :: .unset :: L) (.ref x :: S) k n H Q ↔ W (pj lw) 100 24 (l0 :: l1 :: .val (.ref x) :: L) S k n H Q := W_astn (rfl : (pj lw).1 100 23 = some (.astore_n 2, 1, 0)) rfl rfl
theorem w100_24 : W (pj lw) 100 24 L S k n H Q ↔ W (pj lw) 100 25 L (.int 0 :: S) k n H Q := W_s (rfl : (pj lw).1 100 24 = some (.iconst 0, 1, 0)) rfl rfl rfl
theorem w100_25 {x : Int32} {l0 l1 l2 : Slot} : W (pj lw) 100 25 (l0 :: l1 :: l2 :: .unset :: L) (.int x :: S) k n H Q ↔ W (pj lw) 100 26 (l0 :: l1 :: l2 :: .val (.int x) :: L) S k n H Q := W_istn (rfl : (pj lw).1 100 25 = some (.istore_n 3, 1, 0)) rfl rfl
theorem w100_26 : W (pj lw) 100 26 L S k n H Q ↔ W (pj lw) 100 27 L (.int 0 :: S) k n H Q := W_s (rfl : (pj lw).1 100 26 = some (.iconst 0, 1, 0)) rfl rfl rfl
theorem w100_27 {x : Int32} {l0 l1 l2 l3 : Slot} : W (pj lw) 100 27 (l0 :: l1 :: l2 :: l3 :: .unset :: L) (.int x :: S) k n H Q ↔ W (pj lw) 100 29 (l0 :: l1 :: l2 :: l3 :: .val (.int x) :: L) S k n H Q := W_ist (rfl : (pj lw).1 100 27 = some (.istore 4, 2, 0)) rfl rfl
theorem w100_29 {x : Int32} {l0 l1 l2 l3 : Slot} : W (pj lw) 100 29 (l0 :: l1 :: l2 :: l3 :: .val (.int x) :: L) S k n H Q ↔ W (pj lw) 100 31 (l0 :: l1 :: l2 :: l3 :: .val (.int x) :: L) (.int x :: S) k n H Q := W_s (rfl : (pj lw).1 100 29 = some (.iload 4, 2, 0)) rfl rfl rfl
theorem w100_31 : W (pj lw) 100 31 L S k n H Q ↔ W (pj lw) 100 32 L (.int 3 :: S) k n H Q := W_s (rfl : (pj lw).1 100 31 = some (.iconst 3, 1, 0)) rfl rfl rfl
theorem w100_32 {x y : Int32} : W (pj lw) 100 32 L (.int y :: .int x :: S) k n H Q ↔ W (pj lw) 100 33 L (.int (x + y) :: S) k n H Q := W_s (rfl : (pj lw).1 100 32 = some (.iadd, 1, 0)) rfl rfl rfl
theorem w100_33 {x : Nat} : W (pj lw) 100 33 (.val (.ref x) :: L) S k n H Q ↔ W (pj lw) 100 34 (.val (.ref x) :: L) (.ref x :: S) k n H Q := W_s (rfl : (pj lw).1 100 33 = some (.aload_n 0, 1, 0)) rfl rfl rfl
theorem w100_34 {a : Nat} : W (pj lw) 100 34 L (.ref a :: S) k n H Q ↔ (isA H a = true ∧ W (pj lw) 100 35 L (.int (alen H a).toInt32 :: S) k n H Q) := W_alen (rfl : (pj lw).1 100 34 = some (.arraylength, 1, 0))
theorem w100_35 {x y : Int32} : W (pj lw) 100 35 L (.int y :: .int x :: S) k n H Q ↔ (if x < y then W (pj lw) 100 38 L S k n H Q else W (pj lw) 100 308 L S k n H Q) := W_icmp_ge (rfl : (pj lw).1 100 35 = some (.if_icmp .ge 273, 3, 0)) rfl
theorem w100_38 {x : Int32} {l0 l1 l2 : Slot} : W (pj lw) 100 38 (l0 :: l1 :: l2 :: .val (.int x) :: L) S k n H Q ↔ W (pj lw) 100 39 (l0 :: l1 :: l2 :: .val (.int x) :: L) (.int x :: S) k n H Q := W_s (rfl : (pj lw).1 100 38 = some (.iload_n 3, 1, 0)) rfl rfl rfl
theorem w100_39 : W (pj lw) 100 39 L S k n H Q ↔ W (pj lw) 100 41 L (.int 48 :: S) k n H Q := W_s (rfl : (pj lw).1 100 39 = some (.bipush 48, 2, 0)) rfl rfl rfl
theorem w100_41 {x y : Int32} : W (pj lw) 100 41 L (.int y :: .int x :: S) k n H Q ↔ (if x < y then W (pj lw) 100 44 L S k n H Q else W (pj lw) 100 308 L S k n H Q) := W_icmp_ge (rfl : (pj lw).1 100 41 = some (.if_icmp .ge 267, 3, 0)) rfl
theorem w100_44 {x : Int32} {l0 l1 l2 : Slot} : W (pj lw) 100 44 (l0 :: l1 :: l2 :: .val (.int x) :: L) S k n H Q ↔ W (pj lw) 100 47 (l0 :: l1 :: l2 :: .val (.int (x + 1)) :: L) S k n H Q := W_s (rfl : (pj lw).1 100 44 = some (.iinc 3 1, 3, 0)) rfl rfl rfl
theorem w100_47 {x : Nat} : W (pj lw) 100 47 (.val (.ref x) :: L) S k n H Q ↔ W (pj lw) 100 48 (.val (.ref x) :: L) (.ref x :: S) k n H Q := W_s (rfl : (pj lw).1 100 47 = some (.aload_n 0, 1, 0)) rfl rfl rfl
theorem w100_48 {x : Int32} {l0 l1 l2 l3 : Slot} : W (pj lw) 100 48 (l0 :: l1 :: l2 :: l3 :: .val (.int x) :: L) S k n H Q ↔ W (pj lw) 100 50 (l0 :: l1 :: l2 :: l3 :: .val (.int x) :: L) (.int x :: S) k n H Q := W_s (rfl : (pj lw).1 100 48 = some (.iload 4, 2, 0)) rfl rfl rfl
theorem w100_50 {i : Int32} {a : Nat} : W (pj lw) 100 50 L (.int i :: .ref a :: S) k n H Q ↔ (inA H a .int i = true ∧ W (pj lw) 100 51 L (elt H a i :: S) k n H Q) := W_iaload (rfl : (pj lw).1 100 50 = some (.iaload, 1, 0))
theorem w100_51 : W (pj lw) 100 51 L S k n H Q ↔ W (pj lw) 100 52 L (.int 3 :: S) k n H Q := W_s (rfl : (pj lw).1 100 51 = some (.iconst 3, 1, 0)) rfl rfl rfl
theorem w100_52 {x y : Int32} : W (pj lw) 100 52 L (.int y :: .int x :: S) k n H Q ↔ W (pj lw) 100 53 L (.int (x &&& y) :: S) k n H Q := W_s (rfl : (pj lw).1 100 52 = some (.iand, 1, 0)) rfl rfl rfl
theorem w100_53 {x : Int32} {l0 l1 l2 l3 l4 : Slot} : W (pj lw) 100 53 (l0 :: l1 :: l2 :: l3 :: l4 :: .unset :: L) (.int x :: S) k n H Q ↔ W (pj lw) 100 55 (l0 :: l1 :: l2 :: l3 :: l4 :: .val (.int x) :: L) S k n H Q := W_ist (rfl : (pj lw).1 100 53 = some (.istore 5, 2, 0)) rfl rfl
theorem w100_55 {x : Nat} : W (pj lw) 100 55 (.val (.ref x) :: L) S k n H Q ↔ W (pj lw) 100 56 (.val (.ref x) :: L) (.ref x :: S) k n H Q := W_s (rfl : (pj lw).1 100 55 = some (.aload_n 0, 1, 0)) rfl rfl rfl
theorem w100_56 {x : Int32} {l0 l1 l2 l3 : Slot} : W (pj lw) 100 56 (l0 :: l1 :: l2 :: l3 :: .val (.int x) :: L) S k n H Q ↔ W (pj lw) 100 58 (l0 :: l1 :: l2 :: l3 :: .val (.int x) :: L) (.int x :: S) k n H Q := W_s (rfl : (pj lw).1 100 56 = some (.iload 4, 2, 0)) rfl rfl rfl
theorem w100_58 : W (pj lw) 100 58 L S k n H Q ↔ W (pj lw) 100 59 L (.int 1 :: S) k n H Q := W_s (rfl : (pj lw).1 100 58 = some (.iconst 1, 1, 0)) rfl rfl rfl
theorem w100_59 {x y : Int32} : W (pj lw) 100 59 L (.int y :: .int x :: S) k n H Q ↔ W (pj lw) 100 60 L (.int (x + y) :: S) k n H Q := W_s (rfl : (pj lw).1 100 59 = some (.iadd, 1, 0)) rfl rfl rfl
theorem w100_60 {i : Int32} {a : Nat} : W (pj lw) 100 60 L (.int i :: .ref a :: S) k n H Q ↔ (inA H a .int i = true ∧ W (pj lw) 100 61 L (elt H a i :: S) k n H Q) := W_iaload (rfl : (pj lw).1 100 60 = some (.iaload, 1, 0))
theorem w100_61 : W (pj lw) 100 61 L S k n H Q ↔ W (pj lw) 100 63 L (.int 7 :: S) k n H Q := W_s (rfl : (pj lw).1 100 61 = some (.bipush 7, 2, 0)) rfl rfl rfl
theorem w100_63 {x y : Int32} : W (pj lw) 100 63 L (.int y :: .int x :: S) k n H Q ↔ W (pj lw) 100 64 L (.int (x &&& y) :: S) k n H Q := W_s (rfl : (pj lw).1 100 63 = some (.iand, 1, 0)) rfl rfl rfl
theorem w100_64 : W (pj lw) 100 64 L S k n H Q ↔ W (pj lw) 100 65 L (.int 1 :: S) k n H Q := W_s (rfl : (pj lw).1 100 64 = some (.iconst 1, 1, 0)) rfl rfl rfl
theorem w100_65 {x y : Int32} : W (pj lw) 100 65 L (.int y :: .int x :: S) k n H Q ↔ W (pj lw) 100 66 L (.int (x + y) :: S) k n H Q := W_s (rfl : (pj lw).1 100 65 = some (.iadd, 1, 0)) rfl rfl rfl
theorem w100_66 {x : Int32} {l0 l1 l2 l3 l4 l5 : Slot} : W (pj lw) 100 66 (l0 :: l1 :: l2 :: l3 :: l4 :: l5 :: .unset :: L) (.int x :: S) k n H Q ↔ W (pj lw) 100 68 (l0 :: l1 :: l2 :: l3 :: l4 :: l5 :: .val (.int x) :: L) S k n H Q := W_ist (rfl : (pj lw).1 100 66 = some (.istore 6, 2, 0)) rfl rfl
theorem w100_68 {x : Nat} : W (pj lw) 100 68 (.val (.ref x) :: L) S k n H Q ↔ W (pj lw) 100 69 (.val (.ref x) :: L) (.ref x :: S) k n H Q := W_s (rfl : (pj lw).1 100 68 = some (.aload_n 0, 1, 0)) rfl rfl rfl
theorem w100_69 {x : Int32} {l0 l1 l2 l3 : Slot} : W (pj lw) 100 69 (l0 :: l1 :: l2 :: l3 :: .val (.int x) :: L) S k n H Q ↔ W (pj lw) 100 71 (l0 :: l1 :: l2 :: l3 :: .val (.int x) :: L) (.int x :: S) k n H Q := W_s (rfl : (pj lw).1 100 69 = some (.iload 4, 2, 0)) rfl rfl rfl
theorem w100_71 : W (pj lw) 100 71 L S k n H Q ↔ W (pj lw) 100 72 L (.int 2 :: S) k n H Q := W_s (rfl : (pj lw).1 100 71 = some (.iconst 2, 1, 0)) rfl rfl rfl
theorem w100_72 {x y : Int32} : W (pj lw) 100 72 L (.int y :: .int x :: S) k n H Q ↔ W (pj lw) 100 73 L (.int (x + y) :: S) k n H Q := W_s (rfl : (pj lw).1 100 72 = some (.iadd, 1, 0)) rfl rfl rfl
theorem w100_73 {i : Int32} {a : Nat} : W (pj lw) 100 73 L (.int i :: .ref a :: S) k n H Q ↔ (inA H a .int i = true ∧ W (pj lw) 100 74 L (elt H a i :: S) k n H Q) := W_iaload (rfl : (pj lw).1 100 73 = some (.iaload, 1, 0))
theorem w100_74 : W (pj lw) 100 74 L S k n H Q ↔ W (pj lw) 100 76 L (.int 7 :: S) k n H Q := W_s (rfl : (pj lw).1 100 74 = some (.bipush 7, 2, 0)) rfl rfl rfl
theorem w100_76 {x y : Int32} : W (pj lw) 100 76 L (.int y :: .int x :: S) k n H Q ↔ W (pj lw) 100 77 L (.int (x &&& y) :: S) k n H Q := W_s (rfl : (pj lw).1 100 76 = some (.iand, 1, 0)) rfl rfl rfl
theorem w100_77 {x : Int32} {l0 l1 l2 l3 l4 l5 l6 : Slot} : W (pj lw) 100 77 (l0 :: l1 :: l2 :: l3 :: l4 :: l5 :: l6 :: .unset :: L) (.int x :: S) k n H Q ↔ W (pj lw) 100 79 (l0 :: l1 :: l2 :: l3 :: l4 :: l5 :: l6 :: .val (.int x) :: L) S k n H Q := W_ist (rfl : (pj lw).1 100 77 = some (.istore 7, 2, 0)) rfl rfl
theorem w100_79 {x : Nat} : W (pj lw) 100 79 (.val (.ref x) :: L) S k n H Q ↔ W (pj lw) 100 80 (.val (.ref x) :: L) (.ref x :: S) k n H Q := W_s (rfl : (pj lw).1 100 79 = some (.aload_n 0, 1, 0)) rfl rfl rfl
theorem w100_80 {x : Int32} {l0 l1 l2 l3 : Slot} : W (pj lw) 100 80 (l0 :: l1 :: l2 :: l3 :: .val (.int x) :: L) S k n H Q ↔ W (pj lw) 100 82 (l0 :: l1 :: l2 :: l3 :: .val (.int x) :: L) (.int x :: S) k n H Q := W_s (rfl : (pj lw).1 100 80 = some (.iload 4, 2, 0)) rfl rfl rfl
theorem w100_82 : W (pj lw) 100 82 L S k n H Q ↔ W (pj lw) 100 83 L (.int 3 :: S) k n H Q := W_s (rfl : (pj lw).1 100 82 = some (.iconst 3, 1, 0)) rfl rfl rfl
theorem w100_83 {x y : Int32} : W (pj lw) 100 83 L (.int y :: .int x :: S) k n H Q ↔ W (pj lw) 100 84 L (.int (x + y) :: S) k n H Q := W_s (rfl : (pj lw).1 100 83 = some (.iadd, 1, 0)) rfl rfl rfl
theorem w100_84 {i : Int32} {a : Nat} : W (pj lw) 100 84 L (.int i :: .ref a :: S) k n H Q ↔ (inA H a .int i = true ∧ W (pj lw) 100 85 L (elt H a i :: S) k n H Q) := W_iaload (rfl : (pj lw).1 100 84 = some (.iaload, 1, 0))
theorem w100_85 : W (pj lw) 100 85 L S k n H Q ↔ W (pj lw) 100 87 L (.int 7 :: S) k n H Q := W_s (rfl : (pj lw).1 100 85 = some (.bipush 7, 2, 0)) rfl rfl rfl
theorem w100_87 {x y : Int32} : W (pj lw) 100 87 L (.int y :: .int x :: S) k n H Q ↔ W (pj lw) 100 88 L (.int (x &&& y) :: S) k n H Q := W_s (rfl : (pj lw).1 100 87 = some (.iand, 1, 0)) rfl rfl rfl
theorem w100_88 {x : Int32} {l0 l1 l2 l3 l4 l5 l6 l7 : Slot} : W (pj lw) 100 88 (l0 :: l1 :: l2 :: l3 :: l4 :: l5 :: l6 :: l7 :: .unset :: L) (.int x :: S) k n H Q ↔ W (pj lw) 100 90 (l0 :: l1 :: l2 :: l3 :: l4 :: l5 :: l6 :: l7 :: .val (.int x) :: L) S k n H Q := W_ist (rfl : (pj lw).1 100 88 = some (.istore 8, 2, 0)) rfl rfl
theorem w100_90 {x : Int32} {l0 l1 l2 l3 l4 : Slot} : W (pj lw) 100 90 (l0 :: l1 :: l2 :: l3 :: l4 :: .val (.int x) :: L) S k n H Q ↔ W (pj lw) 100 92 (l0 :: l1 :: l2 :: l3 :: l4 :: .val (.int x) :: L) (.int x :: S) k n H Q := W_s (rfl : (pj lw).1 100 90 = some (.iload 5, 2, 0)) rfl rfl rfl
theorem w100_92 : W (pj lw) 100 92 L S k n H Q ↔ W (pj lw) 100 93 L (.int 1 :: S) k n H Q := W_s (rfl : (pj lw).1 100 92 = some (.iconst 1, 1, 0)) rfl rfl rfl
theorem w100_93 {x y : Int32} : W (pj lw) 100 93 L (.int y :: .int x :: S) k n H Q ↔ (if y < x then W (pj lw) 100 150 L S k n H Q else W (pj lw) 100 96 L S k n H Q) := W_icmp_gt (rfl : (pj lw).1 100 93 = some (.if_icmp .gt 57, 3, 0)) rfl
theorem w100_96 {x : Nat} {l0 : Slot} : W (pj lw) 100 96 (l0 :: .val (.ref x) :: L) S k n H Q ↔ W (pj lw) 100 97 (l0 :: .val (.ref x) :: L) (.ref x :: S) k n H Q := W_s (rfl : (pj lw).1 100 96 = some (.aload_n 1, 1, 0)) rfl rfl rfl
theorem w100_97 {a : Nat} : W (pj lw) 100 97 L (.ref a :: S) k n H Q ↔ ((isO H a = true ∧ cs S + (1 + 11) + 0 ≤ 272) ∧ Cl (pj lw) 5 [.ref a] H (fun v H => W (pj lw) 100 100 L (v.toList ++ S) k n H Q)) := W_inst (as := []) (rfl : (pj lw).1 100 97 = some (.invokevirtual 12, 3, 5)) rfl rfl rfl (Nat.le_of_ble_eq_true rfl) (Nat.le_of_ble_eq_true rfl) ⟨rfl, rfl⟩
theorem w100_100 {x : Nat} : W (pj lw) 100 100 (.val (.ref x) :: L) S k n H Q ↔ W (pj lw) 100 101 (.val (.ref x) :: L) (.ref x :: S) k n H Q := W_s (rfl : (pj lw).1 100 100 = some (.aload_n 0, 1, 0)) rfl rfl rfl
theorem w100_101 {x : Int32} {l0 l1 l2 l3 : Slot} : W (pj lw) 100 101 (l0 :: l1 :: l2 :: l3 :: .val (.int x) :: L) S k n H Q ↔ W (pj lw) 100 103 (l0 :: l1 :: l2 :: l3 :: .val (.int x) :: L) (.int x :: S) k n H Q := W_s (rfl : (pj lw).1 100 101 = some (.iload 4, 2, 0)) rfl rfl rfl
theorem w100_103 : W (pj lw) 100 103 L S k n H Q ↔ W (pj lw) 100 104 L (.int 1 :: S) k n H Q := W_s (rfl : (pj lw).1 100 103 = some (.iconst 1, 1, 0)) rfl rfl rfl
theorem w100_104 {x y : Int32} : W (pj lw) 100 104 L (.int y :: .int x :: S) k n H Q ↔ W (pj lw) 100 105 L (.int (x + y) :: S) k n H Q := W_s (rfl : (pj lw).1 100 104 = some (.iadd, 1, 0)) rfl rfl rfl
theorem w100_105 {i : Int32} {a : Nat} : W (pj lw) 100 105 L (.int i :: .ref a :: S) k n H Q ↔ (inA H a .int i = true ∧ W (pj lw) 100 106 L (elt H a i :: S) k n H Q) := W_iaload (rfl : (pj lw).1 100 105 = some (.iaload, 1, 0))
theorem w100_106 : W (pj lw) 100 106 L S k n H Q ↔ W (pj lw) 100 108 L (.int 7 :: S) k n H Q := W_s (rfl : (pj lw).1 100 106 = some (.bipush 7, 2, 0)) rfl rfl rfl
theorem w100_108 {x y : Int32} : W (pj lw) 100 108 L (.int y :: .int x :: S) k n H Q ↔ W (pj lw) 100 109 L (.int (x &&& y) :: S) k n H Q := W_s (rfl : (pj lw).1 100 108 = some (.iand, 1, 0)) rfl rfl rfl
theorem w100_109 {x y : Int32} : W (pj lw) 100 109 L (.int y :: .int x :: S) k n H Q ↔ W (pj lw) 100 110 L (.int (x + y) :: S) k n H Q := W_s (rfl : (pj lw).1 100 109 = some (.iadd, 1, 0)) rfl rfl rfl
theorem w100_110 : W (pj lw) 100 110 L S k n H Q ↔ W (pj lw) 100 111 L (.int 1 :: S) k n H Q := W_s (rfl : (pj lw).1 100 110 = some (.iconst 1, 1, 0)) rfl rfl rfl
theorem w100_111 {x y : Int32} : W (pj lw) 100 111 L (.int y :: .int x :: S) k n H Q ↔ W (pj lw) 100 112 L (.int (x - y) :: S) k n H Q := W_s (rfl : (pj lw).1 100 111 = some (.isub, 1, 0)) rfl rfl rfl
theorem w100_112 {x : Int32} {l0 l1 l2 l3 l4 l5 l6 l7 l8 : Slot} : W (pj lw) 100 112 (l0 :: l1 :: l2 :: l3 :: l4 :: l5 :: l6 :: l7 :: l8 :: .unset :: L) (.int x :: S) k n H Q ↔ W (pj lw) 100 114 (l0 :: l1 :: l2 :: l3 :: l4 :: l5 :: l6 :: l7 :: l8 :: .val (.int x) :: L) S k n H Q := W_ist (rfl : (pj lw).1 100 112 = some (.istore 9, 2, 0)) rfl rfl
theorem w100_114 {x : Nat} {l0 : Slot} : W (pj lw) 100 114 (l0 :: .val (.ref x) :: L) S k n H Q ↔ W (pj lw) 100 115 (l0 :: .val (.ref x) :: L) (.ref x :: S) k n H Q := W_s (rfl : (pj lw).1 100 114 = some (.aload_n 1, 1, 0)) rfl rfl rfl
theorem w100_115 {x : Int32} {l0 l1 l2 l3 l4 l5 l6 l7 l8 : Slot} : W (pj lw) 100 115 (l0 :: l1 :: l2 :: l3 :: l4 :: l5 :: l6 :: l7 :: l8 :: .val (.int x) :: L) S k n H Q ↔ W (pj lw) 100 117 (l0 :: l1 :: l2 :: l3 :: l4 :: l5 :: l6 :: l7 :: l8 :: .val (.int x) :: L) (.int x :: S) k n H Q := W_s (rfl : (pj lw).1 100 115 = some (.iload 9, 2, 0)) rfl rfl rfl
theorem w100_117 {x : Int32} {l0 l1 l2 l3 l4 l5 l6 : Slot} : W (pj lw) 100 117 (l0 :: l1 :: l2 :: l3 :: l4 :: l5 :: l6 :: .val (.int x) :: L) S k n H Q ↔ W (pj lw) 100 119 (l0 :: l1 :: l2 :: l3 :: l4 :: l5 :: l6 :: .val (.int x) :: L) (.int x :: S) k n H Q := W_s (rfl : (pj lw).1 100 117 = some (.iload 7, 2, 0)) rfl rfl rfl
theorem w100_119 {x : Int32} {l0 l1 l2 l3 l4 l5 l6 l7 : Slot} : W (pj lw) 100 119 (l0 :: l1 :: l2 :: l3 :: l4 :: l5 :: l6 :: l7 :: .val (.int x) :: L) S k n H Q ↔ W (pj lw) 100 121 (l0 :: l1 :: l2 :: l3 :: l4 :: l5 :: l6 :: l7 :: .val (.int x) :: L) (.int x :: S) k n H Q := W_s (rfl : (pj lw).1 100 119 = some (.iload 8, 2, 0)) rfl rfl rfl
theorem w100_121 {a : Nat} {x0 : Int32} {x1 : Int32} {x2 : Int32} : W (pj lw) 100 121 L (.int x2 :: .int x1 :: .int x0 :: .ref a :: S) k n H Q ↔ ((isO H a = true ∧ cs S + (5 + 11) + 0 ≤ 272) ∧ Cl (pj lw) 2 [.ref a, .int x0, .int x1, .int x2] H (fun v H => W (pj lw) 100 124 L (v.toList ++ S) k n H Q)) := W_inst (as := [.int x0, .int x1, .int x2]) (rfl : (pj lw).1 100 121 = some (.invokevirtual 16, 3, 2)) rfl rfl rfl (Nat.le_of_ble_eq_true rfl) (Nat.le_of_ble_eq_true rfl) ⟨rfl, rfl⟩
theorem w100_124 {x : Int32} {l0 l1 l2 l3 l4 l5 l6 l7 l8 l9 : Slot} : W (pj lw) 100 124 (l0 :: l1 :: l2 :: l3 :: l4 :: l5 :: l6 :: l7 :: l8 :: l9 :: .unset :: L) (.int x :: S) k n H Q ↔ W (pj lw) 100 126 (l0 :: l1 :: l2 :: l3 :: l4 :: l5 :: l6 :: l7 :: l8 :: l9 :: .val (.int x) :: L) S k n H Q := W_ist (rfl : (pj lw).1 100 124 = some (.istore 10, 2, 0)) rfl rfl
theorem w100_126 {x : Nat} {l0 l1 : Slot} : W (pj lw) 100 126 (l0 :: l1 :: .val (.ref x) :: L) S k n H Q ↔ W (pj lw) 100 127 (l0 :: l1 :: .val (.ref x) :: L) (.ref x :: S) k n H Q := W_s (rfl : (pj lw).1 100 126 = some (.aload_n 2, 1, 0)) rfl rfl rfl
theorem w100_127 {x : Int32} {l0 l1 l2 l3 l4 l5 l6 l7 l8 : Slot} : W (pj lw) 100 127 (l0 :: l1 :: l2 :: l3 :: l4 :: l5 :: l6 :: l7 :: l8 :: .val (.int x) :: L) S k n H Q ↔ W (pj lw) 100 129 (l0 :: l1 :: l2 :: l3 :: l4 :: l5 :: l6 :: l7 :: l8 :: .val (.int x) :: L) (.int x :: S) k n H Q := W_s (rfl : (pj lw).1 100 127 = some (.iload 9, 2, 0)) rfl rfl rfl
theorem w100_129 {x : Int32} {l0 l1 l2 l3 l4 l5 l6 : Slot} : W (pj lw) 100 129 (l0 :: l1 :: l2 :: l3 :: l4 :: l5 :: l6 :: .val (.int x) :: L) S k n H Q ↔ W (pj lw) 100 131 (l0 :: l1 :: l2 :: l3 :: l4 :: l5 :: l6 :: .val (.int x) :: L) (.int x :: S) k n H Q := W_s (rfl : (pj lw).1 100 129 = some (.iload 7, 2, 0)) rfl rfl rfl
theorem w100_131 {x : Int32} {l0 l1 l2 l3 l4 l5 l6 l7 : Slot} : W (pj lw) 100 131 (l0 :: l1 :: l2 :: l3 :: l4 :: l5 :: l6 :: l7 :: .val (.int x) :: L) S k n H Q ↔ W (pj lw) 100 133 (l0 :: l1 :: l2 :: l3 :: l4 :: l5 :: l6 :: l7 :: .val (.int x) :: L) (.int x :: S) k n H Q := W_s (rfl : (pj lw).1 100 131 = some (.iload 8, 2, 0)) rfl rfl rfl
theorem w100_133 {a : Nat} {x0 : Int32} {x1 : Int32} {x2 : Int32} : W (pj lw) 100 133 L (.int x2 :: .int x1 :: .int x0 :: .ref a :: S) k n H Q ↔ ((isO H a = true ∧ cs S + (5 + 11) + 0 ≤ 272) ∧ Cl (pj lw) 2 [.ref a, .int x0, .int x1, .int x2] H (fun v H => W (pj lw) 100 136 L (v.toList ++ S) k n H Q)) := W_inst (as := [.int x0, .int x1, .int x2]) (rfl : (pj lw).1 100 133 = some (.invokevirtual 16, 3, 2)) rfl rfl rfl (Nat.le_of_ble_eq_true rfl) (Nat.le_of_ble_eq_true rfl) ⟨rfl, rfl⟩
theorem w100_136 {x : Int32} {l0 l1 l2 l3 l4 l5 l6 l7 l8 l9 l10 : Slot} : W (pj lw) 100 136 (l0 :: l1 :: l2 :: l3 :: l4 :: l5 :: l6 :: l7 :: l8 :: l9 :: l10 :: .unset :: L) (.int x :: S) k n H Q ↔ W (pj lw) 100 138 (l0 :: l1 :: l2 :: l3 :: l4 :: l5 :: l6 :: l7 :: l8 :: l9 :: l10 :: .val (.int x) :: L) S k n H Q := W_ist (rfl : (pj lw).1 100 136 = some (.istore 11, 2, 0)) rfl rfl
theorem w100_138 {x : Int32} {l0 l1 l2 l3 l4 l5 l6 l7 l8 l9 : Slot} : W (pj lw) 100 138 (l0 :: l1 :: l2 :: l3 :: l4 :: l5 :: l6 :: l7 :: l8 :: l9 :: .val (.int x) :: L) S k n H Q ↔ W (pj lw) 100 140 (l0 :: l1 :: l2 :: l3 :: l4 :: l5 :: l6 :: l7 :: l8 :: l9 :: .val (.int x) :: L) (.int x :: S) k n H Q := W_s (rfl : (pj lw).1 100 138 = some (.iload 10, 2, 0)) rfl rfl rfl
theorem w100_140 {x : Int32} {l0 l1 l2 l3 l4 l5 l6 l7 l8 l9 l10 : Slot} : W (pj lw) 100 140 (l0 :: l1 :: l2 :: l3 :: l4 :: l5 :: l6 :: l7 :: l8 :: l9 :: l10 :: .val (.int x) :: L) S k n H Q ↔ W (pj lw) 100 142 (l0 :: l1 :: l2 :: l3 :: l4 :: l5 :: l6 :: l7 :: l8 :: l9 :: l10 :: .val (.int x) :: L) (.int x :: S) k n H Q := W_s (rfl : (pj lw).1 100 140 = some (.iload 11, 2, 0)) rfl rfl rfl
theorem w100_142 {x y : Int32} : W (pj lw) 100 142 L (.int y :: .int x :: S) k n H Q ↔ (if x = y then W (pj lw) 100 147 L S k n H Q else W (pj lw) 100 145 L S k n H Q) := W_icmp_eq (rfl : (pj lw).1 100 142 = some (.if_icmp .eq 5, 3, 0)) rfl
theorem w100_147 : W (pj lw) 100 147 L S k n H Q ↔ W (pj lw) 100 302 L S k n H Q := W_goto (rfl : (pj lw).1 100 147 = some (.goto 155, 3, 0)) rfl
theorem w100_150 {x : Int32} {l0 l1 l2 l3 l4 : Slot} : W (pj lw) 100 150 (l0 :: l1 :: l2 :: l3 :: l4 :: .val (.int x) :: L) S k n H Q ↔ W (pj lw) 100 152 (l0 :: l1 :: l2 :: l3 :: l4 :: .val (.int x) :: L) (.int x :: S) k n H Q := W_s (rfl : (pj lw).1 100 150 = some (.iload 5, 2, 0)) rfl rfl rfl
theorem w100_152 : W (pj lw) 100 152 L S k n H Q ↔ W (pj lw) 100 153 L (.int 2 :: S) k n H Q := W_s (rfl : (pj lw).1 100 152 = some (.iconst 2, 1, 0)) rfl rfl rfl
theorem w100_153 {x y : Int32} : W (pj lw) 100 153 L (.int y :: .int x :: S) k n H Q ↔ (if x = y then W (pj lw) 100 156 L S k n H Q else W (pj lw) 100 208 L S k n H Q) := W_icmp_ne (rfl : (pj lw).1 100 153 = some (.if_icmp .ne 55, 3, 0)) rfl
theorem w100_156 {x : Nat} {l0 : Slot} : W (pj lw) 100 156 (l0 :: .val (.ref x) :: L) S k n H Q ↔ W (pj lw) 100 157 (l0 :: .val (.ref x) :: L) (.ref x :: S) k n H Q := W_s (rfl : (pj lw).1 100 156 = some (.aload_n 1, 1, 0)) rfl rfl rfl
theorem w100_157 {x : Nat} : W (pj lw) 100 157 (.val (.ref x) :: L) S k n H Q ↔ W (pj lw) 100 158 (.val (.ref x) :: L) (.ref x :: S) k n H Q := W_s (rfl : (pj lw).1 100 157 = some (.aload_n 0, 1, 0)) rfl rfl rfl
theorem w100_158 {x : Int32} {l0 l1 l2 l3 : Slot} : W (pj lw) 100 158 (l0 :: l1 :: l2 :: l3 :: .val (.int x) :: L) S k n H Q ↔ W (pj lw) 100 160 (l0 :: l1 :: l2 :: l3 :: .val (.int x) :: L) (.int x :: S) k n H Q := W_s (rfl : (pj lw).1 100 158 = some (.iload 4, 2, 0)) rfl rfl rfl
theorem w100_160 : W (pj lw) 100 160 L S k n H Q ↔ W (pj lw) 100 161 L (.int 1 :: S) k n H Q := W_s (rfl : (pj lw).1 100 160 = some (.iconst 1, 1, 0)) rfl rfl rfl
theorem w100_161 {x y : Int32} : W (pj lw) 100 161 L (.int y :: .int x :: S) k n H Q ↔ W (pj lw) 100 162 L (.int (x + y) :: S) k n H Q := W_s (rfl : (pj lw).1 100 161 = some (.iadd, 1, 0)) rfl rfl rfl
theorem w100_162 {i : Int32} {a : Nat} : W (pj lw) 100 162 L (.int i :: .ref a :: S) k n H Q ↔ (inA H a .int i = true ∧ W (pj lw) 100 163 L (elt H a i :: S) k n H Q) := W_iaload (rfl : (pj lw).1 100 162 = some (.iaload, 1, 0))
theorem w100_163 {x : Int32} {l0 l1 l2 l3 l4 l5 l6 : Slot} : W (pj lw) 100 163 (l0 :: l1 :: l2 :: l3 :: l4 :: l5 :: l6 :: .val (.int x) :: L) S k n H Q ↔ W (pj lw) 100 165 (l0 :: l1 :: l2 :: l3 :: l4 :: l5 :: l6 :: .val (.int x) :: L) (.int x :: S) k n H Q := W_s (rfl : (pj lw).1 100 163 = some (.iload 7, 2, 0)) rfl rfl rfl
theorem w100_165 : W (pj lw) 100 165 L S k n H Q ↔ W (pj lw) 100 166 L (.int 3 :: S) k n H Q := W_s (rfl : (pj lw).1 100 165 = some (.iconst 3, 1, 0)) rfl rfl rfl
theorem w100_166 {x y : Int32} : W (pj lw) 100 166 L (.int y :: .int x :: S) k n H Q ↔ W (pj lw) 100 167 L (.int (x &&& y) :: S) k n H Q := W_s (rfl : (pj lw).1 100 166 = some (.iand, 1, 0)) rfl rfl rfl
theorem w100_167 {x : Int32} {l0 l1 l2 l3 l4 l5 l6 l7 : Slot} : W (pj lw) 100 167 (l0 :: l1 :: l2 :: l3 :: l4 :: l5 :: l6 :: l7 :: .val (.int x) :: L) S k n H Q ↔ W (pj lw) 100 169 (l0 :: l1 :: l2 :: l3 :: l4 :: l5 :: l6 :: l7 :: .val (.int x) :: L) (.int x :: S) k n H Q := W_s (rfl : (pj lw).1 100 167 = some (.iload 8, 2, 0)) rfl rfl rfl
theorem w100_169 : W (pj lw) 100 169 L S k n H Q ↔ W (pj lw) 100 170 L (.int 3 :: S) k n H Q := W_s (rfl : (pj lw).1 100 169 = some (.iconst 3, 1, 0)) rfl rfl rfl
theorem w100_170 {x y : Int32} : W (pj lw) 100 170 L (.int y :: .int x :: S) k n H Q ↔ W (pj lw) 100 171 L (.int (x &&& y) :: S) k n H Q := W_s (rfl : (pj lw).1 100 170 = some (.iand, 1, 0)) rfl rfl rfl
theorem w100_171 {a : Nat} {x0 : Int32} {x1 : Int32} {x2 : Int32} : W (pj lw) 100 171 L (.int x2 :: .int x1 :: .int x0 :: .ref a :: S) k n H Q ↔ ((isO H a = true ∧ cs S + (15 + 11) + 16 ≤ 272) ∧ Cl (pj lw) 3 [.ref a, .int x0, .int x1, .int x2] H (fun v H => W (pj lw) 100 174 L (v.toList ++ S) k n H Q)) := W_inst (as := [.int x0, .int x1, .int x2]) (rfl : (pj lw).1 100 171 = some (.invokevirtual 20, 3, 3)) rfl rfl rfl (Nat.le_of_ble_eq_true rfl) (Nat.le_of_ble_eq_true rfl) ⟨rfl, rfl⟩
theorem w100_174 {x : Int32} {l0 l1 l2 l3 l4 l5 l6 l7 l8 : Slot} : W (pj lw) 100 174 (l0 :: l1 :: l2 :: l3 :: l4 :: l5 :: l6 :: l7 :: l8 :: .unset :: L) (.int x :: S) k n H Q ↔ W (pj lw) 100 176 (l0 :: l1 :: l2 :: l3 :: l4 :: l5 :: l6 :: l7 :: l8 :: .val (.int x) :: L) S k n H Q := W_ist (rfl : (pj lw).1 100 174 = some (.istore 9, 2, 0)) rfl rfl
theorem w100_176 {x : Nat} {l0 l1 : Slot} : W (pj lw) 100 176 (l0 :: l1 :: .val (.ref x) :: L) S k n H Q ↔ W (pj lw) 100 177 (l0 :: l1 :: .val (.ref x) :: L) (.ref x :: S) k n H Q := W_s (rfl : (pj lw).1 100 176 = some (.aload_n 2, 1, 0)) rfl rfl rfl
theorem w100_177 {x : Nat} : W (pj lw) 100 177 (.val (.ref x) :: L) S k n H Q ↔ W (pj lw) 100 178 (.val (.ref x) :: L) (.ref x :: S) k n H Q := W_s (rfl : (pj lw).1 100 177 = some (.aload_n 0, 1, 0)) rfl rfl rfl
theorem w100_178 {x : Int32} {l0 l1 l2 l3 : Slot} : W (pj lw) 100 178 (l0 :: l1 :: l2 :: l3 :: .val (.int x) :: L) S k n H Q ↔ W (pj lw) 100 180 (l0 :: l1 :: l2 :: l3 :: .val (.int x) :: L) (.int x :: S) k n H Q := W_s (rfl : (pj lw).1 100 178 = some (.iload 4, 2, 0)) rfl rfl rfl
theorem w100_180 : W (pj lw) 100 180 L S k n H Q ↔ W (pj lw) 100 181 L (.int 1 :: S) k n H Q := W_s (rfl : (pj lw).1 100 180 = some (.iconst 1, 1, 0)) rfl rfl rfl
theorem w100_181 {x y : Int32} : W (pj lw) 100 181 L (.int y :: .int x :: S) k n H Q ↔ W (pj lw) 100 182 L (.int (x + y) :: S) k n H Q := W_s (rfl : (pj lw).1 100 181 = some (.iadd, 1, 0)) rfl rfl rfl
theorem w100_182 {i : Int32} {a : Nat} : W (pj lw) 100 182 L (.int i :: .ref a :: S) k n H Q ↔ (inA H a .int i = true ∧ W (pj lw) 100 183 L (elt H a i :: S) k n H Q) := W_iaload (rfl : (pj lw).1 100 182 = some (.iaload, 1, 0))
theorem w100_183 {x : Int32} {l0 l1 l2 l3 l4 l5 l6 : Slot} : W (pj lw) 100 183 (l0 :: l1 :: l2 :: l3 :: l4 :: l5 :: l6 :: .val (.int x) :: L) S k n H Q ↔ W (pj lw) 100 185 (l0 :: l1 :: l2 :: l3 :: l4 :: l5 :: l6 :: .val (.int x) :: L) (.int x :: S) k n H Q := W_s (rfl : (pj lw).1 100 183 = some (.iload 7, 2, 0)) rfl rfl rfl
theorem w100_185 : W (pj lw) 100 185 L S k n H Q ↔ W (pj lw) 100 186 L (.int 3 :: S) k n H Q := W_s (rfl : (pj lw).1 100 185 = some (.iconst 3, 1, 0)) rfl rfl rfl
theorem w100_186 {x y : Int32} : W (pj lw) 100 186 L (.int y :: .int x :: S) k n H Q ↔ W (pj lw) 100 187 L (.int (x &&& y) :: S) k n H Q := W_s (rfl : (pj lw).1 100 186 = some (.iand, 1, 0)) rfl rfl rfl
theorem w100_187 {x : Int32} {l0 l1 l2 l3 l4 l5 l6 l7 : Slot} : W (pj lw) 100 187 (l0 :: l1 :: l2 :: l3 :: l4 :: l5 :: l6 :: l7 :: .val (.int x) :: L) S k n H Q ↔ W (pj lw) 100 189 (l0 :: l1 :: l2 :: l3 :: l4 :: l5 :: l6 :: l7 :: .val (.int x) :: L) (.int x :: S) k n H Q := W_s (rfl : (pj lw).1 100 187 = some (.iload 8, 2, 0)) rfl rfl rfl
theorem w100_189 : W (pj lw) 100 189 L S k n H Q ↔ W (pj lw) 100 190 L (.int 3 :: S) k n H Q := W_s (rfl : (pj lw).1 100 189 = some (.iconst 3, 1, 0)) rfl rfl rfl
theorem w100_190 {x y : Int32} : W (pj lw) 100 190 L (.int y :: .int x :: S) k n H Q ↔ W (pj lw) 100 191 L (.int (x &&& y) :: S) k n H Q := W_s (rfl : (pj lw).1 100 190 = some (.iand, 1, 0)) rfl rfl rfl
theorem w100_191 {a : Nat} {x0 : Int32} {x1 : Int32} {x2 : Int32} : W (pj lw) 100 191 L (.int x2 :: .int x1 :: .int x0 :: .ref a :: S) k n H Q ↔ ((isO H a = true ∧ cs S + (15 + 11) + 16 ≤ 272) ∧ Cl (pj lw) 3 [.ref a, .int x0, .int x1, .int x2] H (fun v H => W (pj lw) 100 194 L (v.toList ++ S) k n H Q)) := W_inst (as := [.int x0, .int x1, .int x2]) (rfl : (pj lw).1 100 191 = some (.invokevirtual 20, 3, 3)) rfl rfl rfl (Nat.le_of_ble_eq_true rfl) (Nat.le_of_ble_eq_true rfl) ⟨rfl, rfl⟩
theorem w100_194 {x : Int32} {l0 l1 l2 l3 l4 l5 l6 l7 l8 l9 : Slot} : W (pj lw) 100 194 (l0 :: l1 :: l2 :: l3 :: l4 :: l5 :: l6 :: l7 :: l8 :: l9 :: .unset :: L) (.int x :: S) k n H Q ↔ W (pj lw) 100 196 (l0 :: l1 :: l2 :: l3 :: l4 :: l5 :: l6 :: l7 :: l8 :: l9 :: .val (.int x) :: L) S k n H Q := W_ist (rfl : (pj lw).1 100 194 = some (.istore 10, 2, 0)) rfl rfl
theorem w100_196 {x : Int32} {l0 l1 l2 l3 l4 l5 l6 l7 l8 : Slot} : W (pj lw) 100 196 (l0 :: l1 :: l2 :: l3 :: l4 :: l5 :: l6 :: l7 :: l8 :: .val (.int x) :: L) S k n H Q ↔ W (pj lw) 100 198 (l0 :: l1 :: l2 :: l3 :: l4 :: l5 :: l6 :: l7 :: l8 :: .val (.int x) :: L) (.int x :: S) k n H Q := W_s (rfl : (pj lw).1 100 196 = some (.iload 9, 2, 0)) rfl rfl rfl
theorem w100_198 {x : Int32} {l0 l1 l2 l3 l4 l5 l6 l7 l8 l9 : Slot} : W (pj lw) 100 198 (l0 :: l1 :: l2 :: l3 :: l4 :: l5 :: l6 :: l7 :: l8 :: l9 :: .val (.int x) :: L) S k n H Q ↔ W (pj lw) 100 200 (l0 :: l1 :: l2 :: l3 :: l4 :: l5 :: l6 :: l7 :: l8 :: l9 :: .val (.int x) :: L) (.int x :: S) k n H Q := W_s (rfl : (pj lw).1 100 198 = some (.iload 10, 2, 0)) rfl rfl rfl
theorem w100_200 {x y : Int32} : W (pj lw) 100 200 L (.int y :: .int x :: S) k n H Q ↔ (if x = y then W (pj lw) 100 205 L S k n H Q else W (pj lw) 100 203 L S k n H Q) := W_icmp_eq (rfl : (pj lw).1 100 200 = some (.if_icmp .eq 5, 3, 0)) rfl
theorem w100_205 : W (pj lw) 100 205 L S k n H Q ↔ W (pj lw) 100 302 L S k n H Q := W_goto (rfl : (pj lw).1 100 205 = some (.goto 97, 3, 0)) rfl
theorem w100_208 {x : Int32} {l0 l1 l2 l3 l4 l5 l6 : Slot} : W (pj lw) 100 208 (l0 :: l1 :: l2 :: l3 :: l4 :: l5 :: l6 :: .val (.int x) :: L) S k n H Q ↔ W (pj lw) 100 210 (l0 :: l1 :: l2 :: l3 :: l4 :: l5 :: l6 :: .val (.int x) :: L) (.int x :: S) k n H Q := W_s (rfl : (pj lw).1 100 208 = some (.iload 7, 2, 0)) rfl rfl rfl
theorem w100_210 : W (pj lw) 100 210 L S k n H Q ↔ W (pj lw) 100 211 L (.int 1 :: S) k n H Q := W_s (rfl : (pj lw).1 100 210 = some (.iconst 1, 1, 0)) rfl rfl rfl
theorem w100_211 {x y : Int32} : W (pj lw) 100 211 L (.int y :: .int x :: S) k n H Q ↔ W (pj lw) 100 212 L (.int (x + y) :: S) k n H Q := W_s (rfl : (pj lw).1 100 211 = some (.iadd, 1, 0)) rfl rfl rfl
theorem w100_212 {x : Int32} {l0 l1 l2 l3 l4 l5 l6 l7 l8 : Slot} : W (pj lw) 100 212 (l0 :: l1 :: l2 :: l3 :: l4 :: l5 :: l6 :: l7 :: l8 :: .unset :: L) (.int x :: S) k n H Q ↔ W (pj lw) 100 214 (l0 :: l1 :: l2 :: l3 :: l4 :: l5 :: l6 :: l7 :: l8 :: .val (.int x) :: L) S k n H Q := W_ist (rfl : (pj lw).1 100 212 = some (.istore 9, 2, 0)) rfl rfl
theorem w100_214 {x : Nat} {l0 : Slot} : W (pj lw) 100 214 (l0 :: .val (.ref x) :: L) S k n H Q ↔ W (pj lw) 100 215 (l0 :: .val (.ref x) :: L) (.ref x :: S) k n H Q := W_s (rfl : (pj lw).1 100 214 = some (.aload_n 1, 1, 0)) rfl rfl rfl
theorem w100_215 {x : Int32} {l0 l1 l2 l3 l4 l5 : Slot} : W (pj lw) 100 215 (l0 :: l1 :: l2 :: l3 :: l4 :: l5 :: .val (.int x) :: L) S k n H Q ↔ W (pj lw) 100 217 (l0 :: l1 :: l2 :: l3 :: l4 :: l5 :: .val (.int x) :: L) (.int x :: S) k n H Q := W_s (rfl : (pj lw).1 100 215 = some (.iload 6, 2, 0)) rfl rfl rfl
theorem w100_217 {x : Int32} {l0 l1 l2 l3 l4 l5 l6 l7 l8 : Slot} : W (pj lw) 100 217 (l0 :: l1 :: l2 :: l3 :: l4 :: l5 :: l6 :: l7 :: l8 :: .val (.int x) :: L) S k n H Q ↔ W (pj lw) 100 219 (l0 :: l1 :: l2 :: l3 :: l4 :: l5 :: l6 :: l7 :: l8 :: .val (.int x) :: L) (.int x :: S) k n H Q := W_s (rfl : (pj lw).1 100 217 = some (.iload 9, 2, 0)) rfl rfl rfl
theorem w100_219 {x y : Int32} : W (pj lw) 100 219 L (.int y :: .int x :: S) k n H Q ↔ W (pj lw) 100 220 L (.int (x + y) :: S) k n H Q := W_s (rfl : (pj lw).1 100 219 = some (.iadd, 1, 0)) rfl rfl rfl
theorem w100_220 {a : Nat} {x0 : Int32} : W (pj lw) 100 220 L (.int x0 :: .ref a :: S) k n H Q ↔ ((isO H a = true ∧ cs S + (4 + 11) + 132 ≤ 272) ∧ Cl (pj lw) 4 [.ref a, .int x0] H (fun v H => W (pj lw) 100 223 L (v.toList ++ S) k n H Q)) := W_inst (as := [.int x0]) (rfl : (pj lw).1 100 220 = some (.invokevirtual 23, 3, 4)) rfl rfl rfl (Nat.le_of_ble_eq_true rfl) (Nat.le_of_ble_eq_true rfl) ⟨rfl, rfl⟩
theorem w100_223 {x : Int32} {l0 l1 l2 l3 l4 l5 l6 l7 l8 l9 : Slot} : W (pj lw) 100 223 (l0 :: l1 :: l2 :: l3 :: l4 :: l5 :: l6 :: l7 :: l8 :: l9 :: .unset :: L) (.int x :: S) k n H Q ↔ W (pj lw) 100 225 (l0 :: l1 :: l2 :: l3 :: l4 :: l5 :: l6 :: l7 :: l8 :: l9 :: .val (.int x) :: L) S k n H Q := W_ist (rfl : (pj lw).1 100 223 = some (.istore 10, 2, 0)) rfl rfl
theorem w100_225 {x : Nat} {l0 l1 : Slot} : W (pj lw) 100 225 (l0 :: l1 :: .val (.ref x) :: L) S k n H Q ↔ W (pj lw) 100 226 (l0 :: l1 :: .val (.ref x) :: L) (.ref x :: S) k n H Q := W_s (rfl : (pj lw).1 100 225 = some (.aload_n 2, 1, 0)) rfl rfl rfl
theorem w100_226 {x : Int32} {l0 l1 l2 l3 l4 l5 : Slot} : W (pj lw) 100 226 (l0 :: l1 :: l2 :: l3 :: l4 :: l5 :: .val (.int x) :: L) S k n H Q ↔ W (pj lw) 100 228 (l0 :: l1 :: l2 :: l3 :: l4 :: l5 :: .val (.int x) :: L) (.int x :: S) k n H Q := W_s (rfl : (pj lw).1 100 226 = some (.iload 6, 2, 0)) rfl rfl rfl
theorem w100_228 {a : Nat} {x0 : Int32} : W (pj lw) 100 228 L (.int x0 :: .ref a :: S) k n H Q ↔ ((isO H a = true ∧ cs S + (4 + 11) + 132 ≤ 272) ∧ Cl (pj lw) 4 [.ref a, .int x0] H (fun v H => W (pj lw) 100 231 L (v.toList ++ S) k n H Q)) := W_inst (as := [.int x0]) (rfl : (pj lw).1 100 228 = some (.invokevirtual 23, 3, 4)) rfl rfl rfl (Nat.le_of_ble_eq_true rfl) (Nat.le_of_ble_eq_true rfl) ⟨rfl, rfl⟩
theorem w100_231 {x : Int32} {l0 l1 l2 l3 l4 l5 l6 l7 l8 l9 l10 : Slot} : W (pj lw) 100 231 (l0 :: l1 :: l2 :: l3 :: l4 :: l5 :: l6 :: l7 :: l8 :: l9 :: l10 :: .unset :: L) (.int x :: S) k n H Q ↔ W (pj lw) 100 233 (l0 :: l1 :: l2 :: l3 :: l4 :: l5 :: l6 :: l7 :: l8 :: l9 :: l10 :: .val (.int x) :: L) S k n H Q := W_ist (rfl : (pj lw).1 100 231 = some (.istore 11, 2, 0)) rfl rfl
theorem w100_233 {x : Nat} {l0 l1 : Slot} : W (pj lw) 100 233 (l0 :: l1 :: .val (.ref x) :: L) S k n H Q ↔ W (pj lw) 100 234 (l0 :: l1 :: .val (.ref x) :: L) (.ref x :: S) k n H Q := W_s (rfl : (pj lw).1 100 233 = some (.aload_n 2, 1, 0)) rfl rfl rfl
theorem w100_234 {a : Nat} : W (pj lw) 100 234 L (.ref a :: S) k n H Q ↔ ((isO H a = true ∧ cs S + (1 + 11) + 0 ≤ 272) ∧ Cl (pj lw) 6 [.ref a] H (fun v H => W (pj lw) 100 237 L (v.toList ++ S) k n H Q)) := W_inst (as := []) (rfl : (pj lw).1 100 234 = some (.invokevirtual 27, 3, 6)) rfl rfl rfl (Nat.le_of_ble_eq_true rfl) (Nat.le_of_ble_eq_true rfl) ⟨rfl, rfl⟩
theorem w100_237 {x : Int32} {l0 l1 l2 l3 l4 l5 l6 l7 l8 l9 l10 l11 : Slot} : W (pj lw) 100 237 (l0 :: l1 :: l2 :: l3 :: l4 :: l5 :: l6 :: l7 :: l8 :: l9 :: l10 :: l11 :: .unset :: L) (.int x :: S) k n H Q ↔ W (pj lw) 100 239 (l0 :: l1 :: l2 :: l3 :: l4 :: l5 :: l6 :: l7 :: l8 :: l9 :: l10 :: l11 :: .val (.int x) :: L) S k n H Q := W_ist (rfl : (pj lw).1 100 237 = some (.istore 12, 2, 0)) rfl rfl
theorem w100_239 {x : Nat} {l0 l1 : Slot} : W (pj lw) 100 239 (l0 :: l1 :: .val (.ref x) :: L) S k n H Q ↔ W (pj lw) 100 240 (l0 :: l1 :: .val (.ref x) :: L) (.ref x :: S) k n H Q := W_s (rfl : (pj lw).1 100 239 = some (.aload_n 2, 1, 0)) rfl rfl rfl
theorem w100_240 : W (pj lw) 100 240 L S k n H Q ↔ W (pj lw) 100 241 L (.int 0 :: S) k n H Q := W_s (rfl : (pj lw).1 100 240 = some (.iconst 0, 1, 0)) rfl rfl rfl
theorem w100_241 : W (pj lw) 100 241 L S k n H Q ↔ W (pj lw) 100 242 L (.int 2 :: S) k n H Q := W_s (rfl : (pj lw).1 100 241 = some (.iconst 2, 1, 0)) rfl rfl rfl
theorem w100_242 : W (pj lw) 100 242 L S k n H Q ↔ W (pj lw) 100 243 L (.int 2 :: S) k n H Q := W_s (rfl : (pj lw).1 100 242 = some (.iconst 2, 1, 0)) rfl rfl rfl
theorem w100_243 {a : Nat} {x0 : Int32} {x1 : Int32} {x2 : Int32} : W (pj lw) 100 243 L (.int x2 :: .int x1 :: .int x0 :: .ref a :: S) k n H Q ↔ ((isO H a = true ∧ cs S + (5 + 11) + 0 ≤ 272) ∧ Cl (pj lw) 2 [.ref a, .int x0, .int x1, .int x2] H (fun v H => W (pj lw) 100 246 L (v.toList ++ S) k n H Q)) := W_inst (as := [.int x0, .int x1, .int x2]) (rfl : (pj lw).1 100 243 = some (.invokevirtual 16, 3, 2)) rfl rfl rfl (Nat.le_of_ble_eq_true rfl) (Nat.le_of_ble_eq_true rfl) ⟨rfl, rfl⟩
theorem w100_246 {x : Int32} {l0 l1 l2 l3 l4 l5 l6 l7 l8 l9 l10 l11 l12 : Slot} : W (pj lw) 100 246 (l0 :: l1 :: l2 :: l3 :: l4 :: l5 :: l6 :: l7 :: l8 :: l9 :: l10 :: l11 :: l12 :: .unset :: L) (.int x :: S) k n H Q ↔ W (pj lw) 100 248 (l0 :: l1 :: l2 :: l3 :: l4 :: l5 :: l6 :: l7 :: l8 :: l9 :: l10 :: l11 :: l12 :: .val (.int x) :: L) S k n H Q := W_ist (rfl : (pj lw).1 100 246 = some (.istore 13, 2, 0)) rfl rfl
theorem w100_248 {x : Int32} {l0 l1 l2 l3 l4 l5 l6 l7 l8 l9 l10 l11 : Slot} : W (pj lw) 100 248 (l0 :: l1 :: l2 :: l3 :: l4 :: l5 :: l6 :: l7 :: l8 :: l9 :: l10 :: l11 :: .val (.int x) :: L) S k n H Q ↔ W (pj lw) 100 250 (l0 :: l1 :: l2 :: l3 :: l4 :: l5 :: l6 :: l7 :: l8 :: l9 :: l10 :: l11 :: .val (.int x) :: L) (.int x :: S) k n H Q := W_s (rfl : (pj lw).1 100 248 = some (.iload 12, 2, 0)) rfl rfl rfl
theorem w100_250 : W (pj lw) 100 250 L S k n H Q ↔ W (pj lw) 100 252 L (.int 32 :: S) k n H Q := W_s (rfl : (pj lw).1 100 250 = some (.bipush 32, 2, 0)) rfl rfl rfl
theorem w100_252 {x y : Int32} : W (pj lw) 100 252 L (.int y :: .int x :: S) k n H Q ↔ (if x = y then W (pj lw) 100 255 L S k n H Q else W (pj lw) 100 259 L S k n H Q) := W_icmp_ne (rfl : (pj lw).1 100 252 = some (.if_icmp .ne 7, 3, 0)) rfl
theorem w100_255 : W (pj lw) 100 255 L S k n H Q ↔ W (pj lw) 100 256 L (.int (-1) :: S) k n H Q := W_s (rfl : (pj lw).1 100 255 = some (.iconst (-1), 1, 0)) rfl rfl rfl
theorem w100_256 : W (pj lw) 100 256 L S k n H Q ↔ W (pj lw) 100 261 L S k n H Q := W_goto (rfl : (pj lw).1 100 256 = some (.goto 5, 3, 0)) rfl
theorem w100_259 : W (pj lw) 100 259 L S k n H Q ↔ W (pj lw) 100 261 L (.int (-2) :: S) k n H Q := W_s (rfl : (pj lw).1 100 259 = some (.bipush (-2), 2, 0)) rfl rfl rfl
theorem w100_261 {x : Int32} {l0 l1 l2 l3 l4 l5 l6 l7 l8 l9 l10 l11 l12 l13 : Slot} : W (pj lw) 100 261 (l0 :: l1 :: l2 :: l3 :: l4 :: l5 :: l6 :: l7 :: l8 :: l9 :: l10 :: l11 :: l12 :: l13 :: .unset :: L) (.int x :: S) k n H Q ↔ W (pj lw) 100 263 (l0 :: l1 :: l2 :: l3 :: l4 :: l5 :: l6 :: l7 :: l8 :: l9 :: l10 :: l11 :: l12 :: l13 :: .val (.int x) :: L) S k n H Q := W_ist (rfl : (pj lw).1 100 261 = some (.istore 14, 2, 0)) rfl rfl
theorem w100_263 {x : Int32} {l0 l1 l2 l3 l4 l5 l6 l7 l8 l9 l10 l11 l12 : Slot} : W (pj lw) 100 263 (l0 :: l1 :: l2 :: l3 :: l4 :: l5 :: l6 :: l7 :: l8 :: l9 :: l10 :: l11 :: l12 :: .val (.int x) :: L) S k n H Q ↔ W (pj lw) 100 265 (l0 :: l1 :: l2 :: l3 :: l4 :: l5 :: l6 :: l7 :: l8 :: l9 :: l10 :: l11 :: l12 :: .val (.int x) :: L) (.int x :: S) k n H Q := W_s (rfl : (pj lw).1 100 263 = some (.iload 13, 2, 0)) rfl rfl rfl
theorem w100_265 {x : Int32} {l0 l1 l2 l3 l4 l5 l6 l7 l8 l9 l10 l11 l12 l13 : Slot} : W (pj lw) 100 265 (l0 :: l1 :: l2 :: l3 :: l4 :: l5 :: l6 :: l7 :: l8 :: l9 :: l10 :: l11 :: l12 :: l13 :: .val (.int x) :: L) S k n H Q ↔ W (pj lw) 100 267 (l0 :: l1 :: l2 :: l3 :: l4 :: l5 :: l6 :: l7 :: l8 :: l9 :: l10 :: l11 :: l12 :: l13 :: .val (.int x) :: L) (.int x :: S) k n H Q := W_s (rfl : (pj lw).1 100 265 = some (.iload 14, 2, 0)) rfl rfl rfl
theorem w100_267 {x y : Int32} : W (pj lw) 100 267 L (.int y :: .int x :: S) k n H Q ↔ (if x = y then W (pj lw) 100 272 L S k n H Q else W (pj lw) 100 270 L S k n H Q) := W_icmp_eq (rfl : (pj lw).1 100 267 = some (.if_icmp .eq 5, 3, 0)) rfl
theorem w100_272 {x : Nat} {l0 l1 : Slot} : W (pj lw) 100 272 (l0 :: l1 :: .val (.ref x) :: L) S k n H Q ↔ W (pj lw) 100 273 (l0 :: l1 :: .val (.ref x) :: L) (.ref x :: S) k n H Q := W_s (rfl : (pj lw).1 100 272 = some (.aload_n 2, 1, 0)) rfl rfl rfl
theorem w100_273 {x : Int32} {l0 l1 l2 l3 l4 l5 l6 l7 l8 : Slot} : W (pj lw) 100 273 (l0 :: l1 :: l2 :: l3 :: l4 :: l5 :: l6 :: l7 :: l8 :: .val (.int x) :: L) S k n H Q ↔ W (pj lw) 100 275 (l0 :: l1 :: l2 :: l3 :: l4 :: l5 :: l6 :: l7 :: l8 :: .val (.int x) :: L) (.int x :: S) k n H Q := W_s (rfl : (pj lw).1 100 273 = some (.iload 9, 2, 0)) rfl rfl rfl
theorem w100_275 {a : Nat} {x0 : Int32} : W (pj lw) 100 275 L (.int x0 :: .ref a :: S) k n H Q ↔ ((isO H a = true ∧ cs S + (4 + 11) + 132 ≤ 272) ∧ Cl (pj lw) 4 [.ref a, .int x0] H (fun v H => W (pj lw) 100 278 L (v.toList ++ S) k n H Q)) := W_inst (as := [.int x0]) (rfl : (pj lw).1 100 275 = some (.invokevirtual 23, 3, 4)) rfl rfl rfl (Nat.le_of_ble_eq_true rfl) (Nat.le_of_ble_eq_true rfl) ⟨rfl, rfl⟩
theorem w100_278 {x : Int32} {l0 l1 l2 l3 l4 l5 l6 l7 l8 l9 l10 l11 l12 l13 l14 : Slot} : W (pj lw) 100 278 (l0 :: l1 :: l2 :: l3 :: l4 :: l5 :: l6 :: l7 :: l8 :: l9 :: l10 :: l11 :: l12 :: l13 :: l14 :: .unset :: L) (.int x :: S) k n H Q ↔ W (pj lw) 100 280 (l0 :: l1 :: l2 :: l3 :: l4 :: l5 :: l6 :: l7 :: l8 :: l9 :: l10 :: l11 :: l12 :: l13 :: l14 :: .val (.int x) :: L) S k n H Q := W_ist (rfl : (pj lw).1 100 278 = some (.istore 15, 2, 0)) rfl rfl
theorem w100_280 {x : Int32} {l0 l1 l2 l3 l4 l5 l6 l7 l8 l9 : Slot} : W (pj lw) 100 280 (l0 :: l1 :: l2 :: l3 :: l4 :: l5 :: l6 :: l7 :: l8 :: l9 :: .val (.int x) :: L) S k n H Q ↔ W (pj lw) 100 282 (l0 :: l1 :: l2 :: l3 :: l4 :: l5 :: l6 :: l7 :: l8 :: l9 :: .val (.int x) :: L) (.int x :: S) k n H Q := W_s (rfl : (pj lw).1 100 280 = some (.iload 10, 2, 0)) rfl rfl rfl
theorem w100_282 {x : Int32} {l0 l1 l2 l3 l4 l5 l6 l7 l8 l9 l10 : Slot} : W (pj lw) 100 282 (l0 :: l1 :: l2 :: l3 :: l4 :: l5 :: l6 :: l7 :: l8 :: l9 :: l10 :: .val (.int x) :: L) S k n H Q ↔ W (pj lw) 100 284 (l0 :: l1 :: l2 :: l3 :: l4 :: l5 :: l6 :: l7 :: l8 :: l9 :: l10 :: .val (.int x) :: L) (.int x :: S) k n H Q := W_s (rfl : (pj lw).1 100 282 = some (.iload 11, 2, 0)) rfl rfl rfl
theorem w100_284 {x : Int32} {l0 l1 l2 l3 l4 l5 l6 l7 l8 l9 l10 l11 l12 l13 l14 : Slot} : W (pj lw) 100 284 (l0 :: l1 :: l2 :: l3 :: l4 :: l5 :: l6 :: l7 :: l8 :: l9 :: l10 :: l11 :: l12 :: l13 :: l14 :: .val (.int x) :: L) S k n H Q ↔ W (pj lw) 100 286 (l0 :: l1 :: l2 :: l3 :: l4 :: l5 :: l6 :: l7 :: l8 :: l9 :: l10 :: l11 :: l12 :: l13 :: l14 :: .val (.int x) :: L) (.int x :: S) k n H Q := W_s (rfl : (pj lw).1 100 284 = some (.iload 15, 2, 0)) rfl rfl rfl
theorem w100_286 {x y : Int32} : W (pj lw) 100 286 L (.int y :: .int x :: S) k n H Q ↔ W (pj lw) 100 287 L (.int (x + y) :: S) k n H Q := W_s (rfl : (pj lw).1 100 286 = some (.iadd, 1, 0)) rfl rfl rfl
theorem w100_287 {x y : Int32} : W (pj lw) 100 287 L (.int y :: .int x :: S) k n H Q ↔ (if x = y then W (pj lw) 100 292 L S k n H Q else W (pj lw) 100 290 L S k n H Q) := W_icmp_eq (rfl : (pj lw).1 100 287 = some (.if_icmp .eq 5, 3, 0)) rfl
theorem w100_290 : W (pj lw) 100 290 L S k n H Q ↔ W (pj lw) 100 291 L (.int 0 :: S) k n H Q := W_s (rfl : (pj lw).1 100 290 = some (.iconst 0, 1, 0)) rfl rfl rfl
theorem w100_291 {x : Int32} : W (pj lw) 100 291 L (.int x :: S) k n H Q ↔ ((x = 0 ∨ x = 1) ∧ Q (some (.int x)) H) := W_rz (rfl : (pj lw).1 100 291 = some (.ireturn, 1, 0)) rfl
theorem w100_292 {x : Nat} {l0 : Slot} : W (pj lw) 100 292 (l0 :: .val (.ref x) :: L) S k n H Q ↔ W (pj lw) 100 293 (l0 :: .val (.ref x) :: L) (.ref x :: S) k n H Q := W_s (rfl : (pj lw).1 100 292 = some (.aload_n 1, 1, 0)) rfl rfl rfl
theorem w100_293 {x : Nat} {l0 l1 : Slot} : W (pj lw) 100 293 (l0 :: l1 :: .val (.ref x) :: L) S k n H Q ↔ W (pj lw) 100 294 (l0 :: l1 :: .val (.ref x) :: L) (.ref x :: S) k n H Q := W_s (rfl : (pj lw).1 100 293 = some (.aload_n 2, 1, 0)) rfl rfl rfl
theorem w100_294 {x0 : Nat} {x1 : Nat} : W (pj lw) 100 294 L (.ref x1 :: .ref x0 :: S) k n H Q ↔ (cs S + (3 + 11) + 43 ≤ 272 ∧ Cl (pj lw) 103 [.ref x0, .ref x1] H (fun v H => W (pj lw) 100 297 L (v.toList ++ S) k n H Q)) := W_stat (a := [.ref x0, .ref x1]) (rfl : (pj lw).1 100 294 = some (.invokestatic 30, 3, 103)) rfl rfl rfl (Nat.le_of_ble_eq_true rfl) (Nat.le_of_ble_eq_true rfl) ⟨rfl, rfl⟩
theorem w100_297 {x : Int32} : W (pj lw) 100 297 L (.int x :: S) k n H Q ↔ (if x = 0 then W (pj lw) 100 300 L S k n H Q else W (pj lw) 100 302 L S k n H Q) := W_if_ne (rfl : (pj lw).1 100 297 = some (.ifCond .ne 5, 3, 0)) rfl
theorem w100_302 {x : Int32} {l0 l1 l2 l3 : Slot} : W (pj lw) 100 302 (l0 :: l1 :: l2 :: l3 :: .val (.int x) :: L) S k n H Q ↔ W (pj lw) 100 305 (l0 :: l1 :: l2 :: l3 :: .val (.int (x + 4)) :: L) S k n H Q := W_s (rfl : (pj lw).1 100 302 = some (.iinc 4 4, 3, 0)) rfl rfl rfl
theorem w100_305 : W (pj lw) 100 305 L S k n H Q ↔ W (pj lw) 100 29 L S k n H Q := W_goto (rfl : (pj lw).1 100 305 = some (.goto (-276), 3, 0)) rfl
theorem w100_308 : W (pj lw) 100 308 L S k n H Q ↔ W (pj lw) 100 309 L (.int 1 :: S) k n H Q := W_s (rfl : (pj lw).1 100 308 = some (.iconst 1, 1, 0)) rfl rfl rfl
theorem w100_309 {x : Int32} : W (pj lw) 100 309 L (.int x :: S) k n H Q ↔ ((x = 0 ∨ x = 1) ∧ Q (some (.int x)) H) := W_rz (rfl : (pj lw).1 100 309 = some (.ireturn, 1, 0)) rfl
theorem c103 {x0 : Nat} {x1 : Nat} : Cl (pj lw) 103 [.ref x0, .ref x1] H Q ↔ W (pj lw) 103 0 [.val (.ref x0), .val (.ref x1), .unset] [] 0 0 H Q := cl_unf rfl
theorem w103_0 {x : Nat} : W (pj lw) 103 0 (.val (.ref x) :: L) S k n H Q ↔ W (pj lw) 103 1 (.val (.ref x) :: L) (.ref x :: S) k n H Q := W_s (rfl : (pj lw).1 103 0 = some (.aload_n 0, 1, 0)) rfl rfl rfl
theorem w103_1 {a : Nat} : W (pj lw) 103 1 L (.ref a :: S) k n H Q ↔ ((isO H a = true ∧ cs S + (1 + 11) + 0 ≤ 43) ∧ Cl (pj lw) 5 [.ref a] H (fun v H => W (pj lw) 103 4 L (v.toList ++ S) k n H Q)) := W_inst (as := []) (rfl : (pj lw).1 103 1 = some (.invokevirtual 12, 3, 5)) rfl rfl rfl (Nat.le_of_ble_eq_true rfl) (Nat.le_of_ble_eq_true rfl) ⟨rfl, rfl⟩
theorem w103_4 {x : Nat} {l0 : Slot} : W (pj lw) 103 4 (l0 :: .val (.ref x) :: L) S k n H Q ↔ W (pj lw) 103 5 (l0 :: .val (.ref x) :: L) (.ref x :: S) k n H Q := W_s (rfl : (pj lw).1 103 4 = some (.aload_n 1, 1, 0)) rfl rfl rfl
theorem w103_5 {a : Nat} : W (pj lw) 103 5 L (.ref a :: S) k n H Q ↔ ((isO H a = true ∧ cs S + (1 + 11) + 0 ≤ 43) ∧ Cl (pj lw) 5 [.ref a] H (fun v H => W (pj lw) 103 8 L (v.toList ++ S) k n H Q)) := W_inst (as := []) (rfl : (pj lw).1 103 5 = some (.invokevirtual 12, 3, 5)) rfl rfl rfl (Nat.le_of_ble_eq_true rfl) (Nat.le_of_ble_eq_true rfl) ⟨rfl, rfl⟩
theorem w103_8 {x y : Int32} : W (pj lw) 103 8 L (.int y :: .int x :: S) k n H Q ↔ (if x = y then W (pj lw) 103 11 L S k n H Q else W (pj lw) 103 33 L S k n H Q) := W_icmp_ne (rfl : (pj lw).1 103 8 = some (.if_icmp .ne 25, 3, 0)) rfl
theorem w103_11 {x : Nat} : W (pj lw) 103 11 (.val (.ref x) :: L) S k n H Q ↔ W (pj lw) 103 12 (.val (.ref x) :: L) (.ref x :: S) k n H Q := W_s (rfl : (pj lw).1 103 11 = some (.aload_n 0, 1, 0)) rfl rfl rfl
theorem w103_12 {a : Nat} : W (pj lw) 103 12 L (.ref a :: S) k n H Q ↔ ((isO H a = true ∧ cs S + (1 + 11) + 0 ≤ 43) ∧ Cl (pj lw) 6 [.ref a] H (fun v H => W (pj lw) 103 15 L (v.toList ++ S) k n H Q)) := W_inst (as := []) (rfl : (pj lw).1 103 12 = some (.invokevirtual 27, 3, 6)) rfl rfl rfl (Nat.le_of_ble_eq_true rfl) (Nat.le_of_ble_eq_true rfl) ⟨rfl, rfl⟩
theorem w103_15 {x : Nat} {l0 : Slot} : W (pj lw) 103 15 (l0 :: .val (.ref x) :: L) S k n H Q ↔ W (pj lw) 103 16 (l0 :: .val (.ref x) :: L) (.ref x :: S) k n H Q := W_s (rfl : (pj lw).1 103 15 = some (.aload_n 1, 1, 0)) rfl rfl rfl
theorem w103_16 {a : Nat} : W (pj lw) 103 16 L (.ref a :: S) k n H Q ↔ ((isO H a = true ∧ cs S + (1 + 11) + 0 ≤ 43) ∧ Cl (pj lw) 6 [.ref a] H (fun v H => W (pj lw) 103 19 L (v.toList ++ S) k n H Q)) := W_inst (as := []) (rfl : (pj lw).1 103 16 = some (.invokevirtual 27, 3, 6)) rfl rfl rfl (Nat.le_of_ble_eq_true rfl) (Nat.le_of_ble_eq_true rfl) ⟨rfl, rfl⟩
theorem w103_19 {x y : Int32} : W (pj lw) 103 19 L (.int y :: .int x :: S) k n H Q ↔ (if x = y then W (pj lw) 103 22 L S k n H Q else W (pj lw) 103 33 L S k n H Q) := W_icmp_ne (rfl : (pj lw).1 103 19 = some (.if_icmp .ne 14, 3, 0)) rfl
theorem w103_22 {x : Nat} : W (pj lw) 103 22 (.val (.ref x) :: L) S k n H Q ↔ W (pj lw) 103 23 (.val (.ref x) :: L) (.ref x :: S) k n H Q := W_s (rfl : (pj lw).1 103 22 = some (.aload_n 0, 1, 0)) rfl rfl rfl
theorem w103_23 {a : Nat} : W (pj lw) 103 23 L (.ref a :: S) k n H Q ↔ ((isO H a = true ∧ cs S + (3 + 11) + 0 ≤ 43) ∧ Cl (pj lw) 7 [.ref a] H (fun v H => W (pj lw) 103 26 L (v.toList ++ S) k n H Q)) := W_inst (as := []) (rfl : (pj lw).1 103 23 = some (.invokevirtual 36, 3, 7)) rfl rfl rfl (Nat.le_of_ble_eq_true rfl) (Nat.le_of_ble_eq_true rfl) ⟨rfl, rfl⟩
theorem w103_26 {x : Nat} {l0 : Slot} : W (pj lw) 103 26 (l0 :: .val (.ref x) :: L) S k n H Q ↔ W (pj lw) 103 27 (l0 :: .val (.ref x) :: L) (.ref x :: S) k n H Q := W_s (rfl : (pj lw).1 103 26 = some (.aload_n 1, 1, 0)) rfl rfl rfl
theorem w103_27 {a : Nat} : W (pj lw) 103 27 L (.ref a :: S) k n H Q ↔ ((isO H a = true ∧ cs S + (3 + 11) + 0 ≤ 43) ∧ Cl (pj lw) 7 [.ref a] H (fun v H => W (pj lw) 103 30 L (v.toList ++ S) k n H Q)) := W_inst (as := []) (rfl : (pj lw).1 103 27 = some (.invokevirtual 36, 3, 7)) rfl rfl rfl (Nat.le_of_ble_eq_true rfl) (Nat.le_of_ble_eq_true rfl) ⟨rfl, rfl⟩
theorem w103_30 {x y : Int32} : W (pj lw) 103 30 L (.int y :: .int x :: S) k n H Q ↔ (if x = y then W (pj lw) 103 35 L S k n H Q else W (pj lw) 103 33 L S k n H Q) := W_icmp_eq (rfl : (pj lw).1 103 30 = some (.if_icmp .eq 5, 3, 0)) rfl
theorem w103_35 {x : Nat} : W (pj lw) 103 35 (.val (.ref x) :: L) S k n H Q ↔ W (pj lw) 103 36 (.val (.ref x) :: L) (.ref x :: S) k n H Q := W_s (rfl : (pj lw).1 103 35 = some (.aload_n 0, 1, 0)) rfl rfl rfl
theorem w103_36 {a : Nat} : W (pj lw) 103 36 L (.ref a :: S) k n H Q ↔ ((isO H a = true ∧ cs S + (3 + 11) + 0 ≤ 43) ∧ Cl (pj lw) 12 [.ref a] H (fun v H => W (pj lw) 103 39 L (v.toList ++ S) k n H Q)) := W_inst (as := []) (rfl : (pj lw).1 103 36 = some (.invokevirtual 39, 3, 12)) rfl rfl rfl (Nat.le_of_ble_eq_true rfl) (Nat.le_of_ble_eq_true rfl) ⟨rfl, rfl⟩
theorem w103_39 {x : Nat} {l0 : Slot} : W (pj lw) 103 39 (l0 :: .val (.ref x) :: L) S k n H Q ↔ W (pj lw) 103 40 (l0 :: .val (.ref x) :: L) (.ref x :: S) k n H Q := W_s (rfl : (pj lw).1 103 39 = some (.aload_n 1, 1, 0)) rfl rfl rfl
theorem w103_40 {a : Nat} : W (pj lw) 103 40 L (.ref a :: S) k n H Q ↔ ((isO H a = true ∧ cs S + (3 + 11) + 0 ≤ 43) ∧ Cl (pj lw) 12 [.ref a] H (fun v H => W (pj lw) 103 43 L (v.toList ++ S) k n H Q)) := W_inst (as := []) (rfl : (pj lw).1 103 40 = some (.invokevirtual 39, 3, 12)) rfl rfl rfl (Nat.le_of_ble_eq_true rfl) (Nat.le_of_ble_eq_true rfl) ⟨rfl, rfl⟩
theorem w103_43 {x y : Int32} : W (pj lw) 103 43 L (.int y :: .int x :: S) k n H Q ↔ (if x = y then W (pj lw) 103 46 L S k n H Q else W (pj lw) 103 57 L S k n H Q) := W_icmp_ne (rfl : (pj lw).1 103 43 = some (.if_icmp .ne 14, 3, 0)) rfl
theorem w103_46 {x : Nat} : W (pj lw) 103 46 (.val (.ref x) :: L) S k n H Q ↔ W (pj lw) 103 47 (.val (.ref x) :: L) (.ref x :: S) k n H Q := W_s (rfl : (pj lw).1 103 46 = some (.aload_n 0, 1, 0)) rfl rfl rfl
theorem w103_47 {a : Nat} : W (pj lw) 103 47 L (.ref a :: S) k n H Q ↔ ((isO H a = true ∧ cs S + (3 + 11) + 0 ≤ 43) ∧ Cl (pj lw) 13 [.ref a] H (fun v H => W (pj lw) 103 50 L (v.toList ++ S) k n H Q)) := W_inst (as := []) (rfl : (pj lw).1 103 47 = some (.invokevirtual 42, 3, 13)) rfl rfl rfl (Nat.le_of_ble_eq_true rfl) (Nat.le_of_ble_eq_true rfl) ⟨rfl, rfl⟩
theorem w103_50 {x : Nat} {l0 : Slot} : W (pj lw) 103 50 (l0 :: .val (.ref x) :: L) S k n H Q ↔ W (pj lw) 103 51 (l0 :: .val (.ref x) :: L) (.ref x :: S) k n H Q := W_s (rfl : (pj lw).1 103 50 = some (.aload_n 1, 1, 0)) rfl rfl rfl
theorem w103_51 {a : Nat} : W (pj lw) 103 51 L (.ref a :: S) k n H Q ↔ ((isO H a = true ∧ cs S + (3 + 11) + 0 ≤ 43) ∧ Cl (pj lw) 13 [.ref a] H (fun v H => W (pj lw) 103 54 L (v.toList ++ S) k n H Q)) := W_inst (as := []) (rfl : (pj lw).1 103 51 = some (.invokevirtual 42, 3, 13)) rfl rfl rfl (Nat.le_of_ble_eq_true rfl) (Nat.le_of_ble_eq_true rfl) ⟨rfl, rfl⟩
theorem w103_54 {x y : Int32} : W (pj lw) 103 54 L (.int y :: .int x :: S) k n H Q ↔ (if x = y then W (pj lw) 103 59 L S k n H Q else W (pj lw) 103 57 L S k n H Q) := W_icmp_eq (rfl : (pj lw).1 103 54 = some (.if_icmp .eq 5, 3, 0)) rfl
theorem w103_59 : W (pj lw) 103 59 L S k n H Q ↔ W (pj lw) 103 60 L (.int 0 :: S) k n H Q := W_s (rfl : (pj lw).1 103 59 = some (.iconst 0, 1, 0)) rfl rfl rfl
theorem w103_60 {x : Int32} {l0 l1 : Slot} : W (pj lw) 103 60 (l0 :: l1 :: .unset :: L) (.int x :: S) k n H Q ↔ W (pj lw) 103 61 (l0 :: l1 :: .val (.int x) :: L) S k n H Q := W_istn (rfl : (pj lw).1 103 60 = some (.istore_n 2, 1, 0)) rfl rfl
theorem w103_61 {x : Int32} {l0 l1 : Slot} : W (pj lw) 103 61 (l0 :: l1 :: .val (.int x) :: L) S k n H Q ↔ W (pj lw) 103 62 (l0 :: l1 :: .val (.int x) :: L) (.int x :: S) k n H Q := W_s (rfl : (pj lw).1 103 61 = some (.iload_n 2, 1, 0)) rfl rfl rfl
theorem w103_62 : W (pj lw) 103 62 L S k n H Q ↔ W (pj lw) 103 64 L (.int 10 :: S) k n H Q := W_s (rfl : (pj lw).1 103 62 = some (.bipush 10, 2, 0)) rfl rfl rfl
theorem w103_64 {x y : Int32} : W (pj lw) 103 64 L (.int y :: .int x :: S) k n H Q ↔ (if x < y then W (pj lw) 103 67 L S k n H Q else W (pj lw) 103 98 L S k n H Q) := W_icmp_ge (rfl : (pj lw).1 103 64 = some (.if_icmp .ge 34, 3, 0)) rfl
theorem w103_67 {x : Nat} : W (pj lw) 103 67 (.val (.ref x) :: L) S k n H Q ↔ W (pj lw) 103 68 (.val (.ref x) :: L) (.ref x :: S) k n H Q := W_s (rfl : (pj lw).1 103 67 = some (.aload_n 0, 1, 0)) rfl rfl rfl
theorem w103_68 {x : Int32} {l0 l1 : Slot} : W (pj lw) 103 68 (l0 :: l1 :: .val (.int x) :: L) S k n H Q ↔ W (pj lw) 103 69 (l0 :: l1 :: .val (.int x) :: L) (.int x :: S) k n H Q := W_s (rfl : (pj lw).1 103 68 = some (.iload_n 2, 1, 0)) rfl rfl rfl
theorem w103_69 : W (pj lw) 103 69 L S k n H Q ↔ W (pj lw) 103 70 L (.int 5 :: S) k n H Q := W_s (rfl : (pj lw).1 103 69 = some (.iconst 5, 1, 0)) rfl rfl rfl
theorem w103_70 {x y : Int32} : W (pj lw) 103 70 L (.int y :: .int x :: S) k n H Q ↔ (¬ y = 0 ∧ W (pj lw) 103 71 L (.int (x / y) :: S) k n H Q) := W_idiv (rfl : (pj lw).1 103 70 = some (.idiv, 1, 0))
theorem w103_71 {x : Int32} {l0 l1 : Slot} : W (pj lw) 103 71 (l0 :: l1 :: .val (.int x) :: L) S k n H Q ↔ W (pj lw) 103 72 (l0 :: l1 :: .val (.int x) :: L) (.int x :: S) k n H Q := W_s (rfl : (pj lw).1 103 71 = some (.iload_n 2, 1, 0)) rfl rfl rfl
theorem w103_72 : W (pj lw) 103 72 L S k n H Q ↔ W (pj lw) 103 73 L (.int 5 :: S) k n H Q := W_s (rfl : (pj lw).1 103 72 = some (.iconst 5, 1, 0)) rfl rfl rfl
theorem w103_73 {x y : Int32} : W (pj lw) 103 73 L (.int y :: .int x :: S) k n H Q ↔ (¬ y = 0 ∧ W (pj lw) 103 74 L (.int (x % y) :: S) k n H Q) := W_irem (rfl : (pj lw).1 103 73 = some (.irem, 1, 0))
theorem w103_74 {a : Nat} {x0 : Int32} {x1 : Int32} : W (pj lw) 103 74 L (.int x1 :: .int x0 :: .ref a :: S) k n H Q ↔ ((isO H a = true ∧ cs S + (3 + 11) + 0 ≤ 43) ∧ Cl (pj lw) 8 [.ref a, .int x0, .int x1] H (fun v H => W (pj lw) 103 77 L (v.toList ++ S) k n H Q)) := W_inst (as := [.int x0, .int x1]) (rfl : (pj lw).1 103 74 = some (.invokevirtual 45, 3, 8)) rfl rfl rfl (Nat.le_of_ble_eq_true rfl) (Nat.le_of_ble_eq_true rfl) ⟨rfl, rfl⟩
theorem w103_77 {x : Nat} {l0 : Slot} : W (pj lw) 103 77 (l0 :: .val (.ref x) :: L) S k n H Q ↔ W (pj lw) 103 78 (l0 :: .val (.ref x) :: L) (.ref x :: S) k n H Q := W_s (rfl : (pj lw).1 103 77 = some (.aload_n 1, 1, 0)) rfl rfl rfl
theorem w103_78 {x : Int32} {l0 l1 : Slot} : W (pj lw) 103 78 (l0 :: l1 :: .val (.int x) :: L) S k n H Q ↔ W (pj lw) 103 79 (l0 :: l1 :: .val (.int x) :: L) (.int x :: S) k n H Q := W_s (rfl : (pj lw).1 103 78 = some (.iload_n 2, 1, 0)) rfl rfl rfl
theorem w103_79 : W (pj lw) 103 79 L S k n H Q ↔ W (pj lw) 103 80 L (.int 5 :: S) k n H Q := W_s (rfl : (pj lw).1 103 79 = some (.iconst 5, 1, 0)) rfl rfl rfl
theorem w103_80 {x y : Int32} : W (pj lw) 103 80 L (.int y :: .int x :: S) k n H Q ↔ (¬ y = 0 ∧ W (pj lw) 103 81 L (.int (x / y) :: S) k n H Q) := W_idiv (rfl : (pj lw).1 103 80 = some (.idiv, 1, 0))
theorem w103_81 {x : Int32} {l0 l1 : Slot} : W (pj lw) 103 81 (l0 :: l1 :: .val (.int x) :: L) S k n H Q ↔ W (pj lw) 103 82 (l0 :: l1 :: .val (.int x) :: L) (.int x :: S) k n H Q := W_s (rfl : (pj lw).1 103 81 = some (.iload_n 2, 1, 0)) rfl rfl rfl
theorem w103_82 : W (pj lw) 103 82 L S k n H Q ↔ W (pj lw) 103 83 L (.int 5 :: S) k n H Q := W_s (rfl : (pj lw).1 103 82 = some (.iconst 5, 1, 0)) rfl rfl rfl
theorem w103_83 {x y : Int32} : W (pj lw) 103 83 L (.int y :: .int x :: S) k n H Q ↔ (¬ y = 0 ∧ W (pj lw) 103 84 L (.int (x % y) :: S) k n H Q) := W_irem (rfl : (pj lw).1 103 83 = some (.irem, 1, 0))
theorem w103_84 {a : Nat} {x0 : Int32} {x1 : Int32} : W (pj lw) 103 84 L (.int x1 :: .int x0 :: .ref a :: S) k n H Q ↔ ((isO H a = true ∧ cs S + (3 + 11) + 0 ≤ 43) ∧ Cl (pj lw) 8 [.ref a, .int x0, .int x1] H (fun v H => W (pj lw) 103 87 L (v.toList ++ S) k n H Q)) := W_inst (as := [.int x0, .int x1]) (rfl : (pj lw).1 103 84 = some (.invokevirtual 45, 3, 8)) rfl rfl rfl (Nat.le_of_ble_eq_true rfl) (Nat.le_of_ble_eq_true rfl) ⟨rfl, rfl⟩
theorem w103_87 {x y : Int32} : W (pj lw) 103 87 L (.int y :: .int x :: S) k n H Q ↔ (if x = y then W (pj lw) 103 92 L S k n H Q else W (pj lw) 103 90 L S k n H Q) := W_icmp_eq (rfl : (pj lw).1 103 87 = some (.if_icmp .eq 5, 3, 0)) rfl
theorem w103_92 {x : Int32} {l0 l1 : Slot} : W (pj lw) 103 92 (l0 :: l1 :: .val (.int x) :: L) S k n H Q ↔ W (pj lw) 103 95 (l0 :: l1 :: .val (.int (x + 1)) :: L) S k n H Q := W_s (rfl : (pj lw).1 103 92 = some (.iinc 2 1, 3, 0)) rfl rfl rfl
theorem w103_95 : W (pj lw) 103 95 L S k n H Q ↔ W (pj lw) 103 61 L S k n H Q := W_goto (rfl : (pj lw).1 103 95 = some (.goto (-34), 3, 0)) rfl
theorem w103_98 : W (pj lw) 103 98 L S k n H Q ↔ W (pj lw) 103 99 L (.int 0 :: S) k n H Q := W_s (rfl : (pj lw).1 103 98 = some (.iconst 0, 1, 0)) rfl rfl rfl
theorem w103_99i {y : Int32} {x : Int32} {l0 l1 : Slot} : W (pj lw) 103 99 (l0 :: l1 :: .val (.int y) :: L) (.int x :: S) k n H Q ↔ W (pj lw) 103 100 (l0 :: l1 :: .val (.int x) :: L) S k n H Q := W_istn (rfl : (pj lw).1 103 99 = some (.istore_n 2, 1, 0)) rfl rfl
theorem w103_100 {x : Int32} {l0 l1 : Slot} : W (pj lw) 103 100 (l0 :: l1 :: .val (.int x) :: L) S k n H Q ↔ W (pj lw) 103 101 (l0 :: l1 :: .val (.int x) :: L) (.int x :: S) k n H Q := W_s (rfl : (pj lw).1 103 100 = some (.iload_n 2, 1, 0)) rfl rfl rfl
theorem w103_101 : W (pj lw) 103 101 L S k n H Q ↔ W (pj lw) 103 104 L (.int 224 :: S) k n H Q := W_s (rfl : (pj lw).1 103 101 = some (.sipush 224, 3, 0)) rfl rfl rfl
theorem w103_104 {x y : Int32} : W (pj lw) 103 104 L (.int y :: .int x :: S) k n H Q ↔ (if x < y then W (pj lw) 103 107 L S k n H Q else W (pj lw) 103 142 L S k n H Q) := W_icmp_ge (rfl : (pj lw).1 103 104 = some (.if_icmp .ge 38, 3, 0)) rfl
theorem w103_107 {x : Nat} : W (pj lw) 103 107 (.val (.ref x) :: L) S k n H Q ↔ W (pj lw) 103 108 (.val (.ref x) :: L) (.ref x :: S) k n H Q := W_s (rfl : (pj lw).1 103 107 = some (.aload_n 0, 1, 0)) rfl rfl rfl
theorem w103_108 {x : Int32} {l0 l1 : Slot} : W (pj lw) 103 108 (l0 :: l1 :: .val (.int x) :: L) S k n H Q ↔ W (pj lw) 103 109 (l0 :: l1 :: .val (.int x) :: L) (.int x :: S) k n H Q := W_s (rfl : (pj lw).1 103 108 = some (.iload_n 2, 1, 0)) rfl rfl rfl
theorem w103_109 : W (pj lw) 103 109 L S k n H Q ↔ W (pj lw) 103 111 L (.int 7 :: S) k n H Q := W_s (rfl : (pj lw).1 103 109 = some (.bipush 7, 2, 0)) rfl rfl rfl
theorem w103_111 {x y : Int32} : W (pj lw) 103 111 L (.int y :: .int x :: S) k n H Q ↔ (¬ y = 0 ∧ W (pj lw) 103 112 L (.int (x / y) :: S) k n H Q) := W_idiv (rfl : (pj lw).1 103 111 = some (.idiv, 1, 0))
theorem w103_112 {x : Int32} {l0 l1 : Slot} : W (pj lw) 103 112 (l0 :: l1 :: .val (.int x) :: L) S k n H Q ↔ W (pj lw) 103 113 (l0 :: l1 :: .val (.int x) :: L) (.int x :: S) k n H Q := W_s (rfl : (pj lw).1 103 112 = some (.iload_n 2, 1, 0)) rfl rfl rfl
theorem w103_113 : W (pj lw) 103 113 L S k n H Q ↔ W (pj lw) 103 115 L (.int 7 :: S) k n H Q := W_s (rfl : (pj lw).1 103 113 = some (.bipush 7, 2, 0)) rfl rfl rfl
theorem w103_115 {x y : Int32} : W (pj lw) 103 115 L (.int y :: .int x :: S) k n H Q ↔ (¬ y = 0 ∧ W (pj lw) 103 116 L (.int (x % y) :: S) k n H Q) := W_irem (rfl : (pj lw).1 103 115 = some (.irem, 1, 0))
theorem w103_116 {a : Nat} {x0 : Int32} {x1 : Int32} : W (pj lw) 103 116 L (.int x1 :: .int x0 :: .ref a :: S) k n H Q ↔ ((isO H a = true ∧ cs S + (3 + 11) + 0 ≤ 43) ∧ Cl (pj lw) 9 [.ref a, .int x0, .int x1] H (fun v H => W (pj lw) 103 119 L (v.toList ++ S) k n H Q)) := W_inst (as := [.int x0, .int x1]) (rfl : (pj lw).1 103 116 = some (.invokevirtual 49, 3, 9)) rfl rfl rfl (Nat.le_of_ble_eq_true rfl) (Nat.le_of_ble_eq_true rfl) ⟨rfl, rfl⟩
theorem w103_119 {x : Nat} {l0 : Slot} : W (pj lw) 103 119 (l0 :: .val (.ref x) :: L) S k n H Q ↔ W (pj lw) 103 120 (l0 :: .val (.ref x) :: L) (.ref x :: S) k n H Q := W_s (rfl : (pj lw).1 103 119 = some (.aload_n 1, 1, 0)) rfl rfl rfl
theorem w103_120 {x : Int32} {l0 l1 : Slot} : W (pj lw) 103 120 (l0 :: l1 :: .val (.int x) :: L) S k n H Q ↔ W (pj lw) 103 121 (l0 :: l1 :: .val (.int x) :: L) (.int x :: S) k n H Q := W_s (rfl : (pj lw).1 103 120 = some (.iload_n 2, 1, 0)) rfl rfl rfl
theorem w103_121 : W (pj lw) 103 121 L S k n H Q ↔ W (pj lw) 103 123 L (.int 7 :: S) k n H Q := W_s (rfl : (pj lw).1 103 121 = some (.bipush 7, 2, 0)) rfl rfl rfl
theorem w103_123 {x y : Int32} : W (pj lw) 103 123 L (.int y :: .int x :: S) k n H Q ↔ (¬ y = 0 ∧ W (pj lw) 103 124 L (.int (x / y) :: S) k n H Q) := W_idiv (rfl : (pj lw).1 103 123 = some (.idiv, 1, 0))
theorem w103_124 {x : Int32} {l0 l1 : Slot} : W (pj lw) 103 124 (l0 :: l1 :: .val (.int x) :: L) S k n H Q ↔ W (pj lw) 103 125 (l0 :: l1 :: .val (.int x) :: L) (.int x :: S) k n H Q := W_s (rfl : (pj lw).1 103 124 = some (.iload_n 2, 1, 0)) rfl rfl rfl
theorem w103_125 : W (pj lw) 103 125 L S k n H Q ↔ W (pj lw) 103 127 L (.int 7 :: S) k n H Q := W_s (rfl : (pj lw).1 103 125 = some (.bipush 7, 2, 0)) rfl rfl rfl
theorem w103_127 {x y : Int32} : W (pj lw) 103 127 L (.int y :: .int x :: S) k n H Q ↔ (¬ y = 0 ∧ W (pj lw) 103 128 L (.int (x % y) :: S) k n H Q) := W_irem (rfl : (pj lw).1 103 127 = some (.irem, 1, 0))
theorem w103_128 {a : Nat} {x0 : Int32} {x1 : Int32} : W (pj lw) 103 128 L (.int x1 :: .int x0 :: .ref a :: S) k n H Q ↔ ((isO H a = true ∧ cs S + (3 + 11) + 0 ≤ 43) ∧ Cl (pj lw) 9 [.ref a, .int x0, .int x1] H (fun v H => W (pj lw) 103 131 L (v.toList ++ S) k n H Q)) := W_inst (as := [.int x0, .int x1]) (rfl : (pj lw).1 103 128 = some (.invokevirtual 49, 3, 9)) rfl rfl rfl (Nat.le_of_ble_eq_true rfl) (Nat.le_of_ble_eq_true rfl) ⟨rfl, rfl⟩
theorem w103_131 {x y : Int32} : W (pj lw) 103 131 L (.int y :: .int x :: S) k n H Q ↔ (if x = y then W (pj lw) 103 136 L S k n H Q else W (pj lw) 103 134 L S k n H Q) := W_icmp_eq (rfl : (pj lw).1 103 131 = some (.if_icmp .eq 5, 3, 0)) rfl
theorem w103_136 {x : Int32} {l0 l1 : Slot} : W (pj lw) 103 136 (l0 :: l1 :: .val (.int x) :: L) S k n H Q ↔ W (pj lw) 103 139 (l0 :: l1 :: .val (.int (x + 1)) :: L) S k n H Q := W_s (rfl : (pj lw).1 103 136 = some (.iinc 2 1, 3, 0)) rfl rfl rfl
theorem w103_139 : W (pj lw) 103 139 L S k n H Q ↔ W (pj lw) 103 100 L S k n H Q := W_goto (rfl : (pj lw).1 103 139 = some (.goto (-39), 3, 0)) rfl
theorem w103_142 : W (pj lw) 103 142 L S k n H Q ↔ W (pj lw) 103 143 L (.int 0 :: S) k n H Q := W_s (rfl : (pj lw).1 103 142 = some (.iconst 0, 1, 0)) rfl rfl rfl
theorem w103_143i {y : Int32} {x : Int32} {l0 l1 : Slot} : W (pj lw) 103 143 (l0 :: l1 :: .val (.int y) :: L) (.int x :: S) k n H Q ↔ W (pj lw) 103 144 (l0 :: l1 :: .val (.int x) :: L) S k n H Q := W_istn (rfl : (pj lw).1 103 143 = some (.istore_n 2, 1, 0)) rfl rfl
theorem w103_144 {x : Int32} {l0 l1 : Slot} : W (pj lw) 103 144 (l0 :: l1 :: .val (.int x) :: L) S k n H Q ↔ W (pj lw) 103 145 (l0 :: l1 :: .val (.int x) :: L) (.int x :: S) k n H Q := W_s (rfl : (pj lw).1 103 144 = some (.iload_n 2, 1, 0)) rfl rfl rfl
theorem w103_145 : W (pj lw) 103 145 L S k n H Q ↔ W (pj lw) 103 147 L (.int 6 :: S) k n H Q := W_s (rfl : (pj lw).1 103 145 = some (.bipush 6, 2, 0)) rfl rfl rfl
theorem w103_147 {x y : Int32} : W (pj lw) 103 147 L (.int y :: .int x :: S) k n H Q ↔ (if x < y then W (pj lw) 103 150 L S k n H Q else W (pj lw) 103 205 L S k n H Q) := W_icmp_ge (rfl : (pj lw).1 103 147 = some (.if_icmp .ge 58, 3, 0)) rfl
theorem w103_150 {x : Nat} : W (pj lw) 103 150 (.val (.ref x) :: L) S k n H Q ↔ W (pj lw) 103 151 (.val (.ref x) :: L) (.ref x :: S) k n H Q := W_s (rfl : (pj lw).1 103 150 = some (.aload_n 0, 1, 0)) rfl rfl rfl
theorem w103_151 {x : Int32} {l0 l1 : Slot} : W (pj lw) 103 151 (l0 :: l1 :: .val (.int x) :: L) S k n H Q ↔ W (pj lw) 103 152 (l0 :: l1 :: .val (.int x) :: L) (.int x :: S) k n H Q := W_s (rfl : (pj lw).1 103 151 = some (.iload_n 2, 1, 0)) rfl rfl rfl
theorem w103_152 {a : Nat} {x0 : Int32} : W (pj lw) 103 152 L (.int x0 :: .ref a :: S) k n H Q ↔ ((isO H a = true ∧ cs S + (4 + 11) + 0 ≤ 43) ∧ Cl (pj lw) 11 [.ref a, .int x0] H (fun v H => W (pj lw) 103 155 L (v.toList ++ S) k n H Q)) := W_inst (as := [.int x0]) (rfl : (pj lw).1 103 152 = some (.invokevirtual 52, 3, 11)) rfl rfl rfl (Nat.le_of_ble_eq_true rfl) (Nat.le_of_ble_eq_true rfl) ⟨rfl, rfl⟩
theorem w103_155 {x : Nat} {l0 : Slot} : W (pj lw) 103 155 (l0 :: .val (.ref x) :: L) S k n H Q ↔ W (pj lw) 103 156 (l0 :: .val (.ref x) :: L) (.ref x :: S) k n H Q := W_s (rfl : (pj lw).1 103 155 = some (.aload_n 1, 1, 0)) rfl rfl rfl
theorem w103_156 {x : Int32} {l0 l1 : Slot} : W (pj lw) 103 156 (l0 :: l1 :: .val (.int x) :: L) S k n H Q ↔ W (pj lw) 103 157 (l0 :: l1 :: .val (.int x) :: L) (.int x :: S) k n H Q := W_s (rfl : (pj lw).1 103 156 = some (.iload_n 2, 1, 0)) rfl rfl rfl
theorem w103_157 {a : Nat} {x0 : Int32} : W (pj lw) 103 157 L (.int x0 :: .ref a :: S) k n H Q ↔ ((isO H a = true ∧ cs S + (4 + 11) + 0 ≤ 43) ∧ Cl (pj lw) 11 [.ref a, .int x0] H (fun v H => W (pj lw) 103 160 L (v.toList ++ S) k n H Q)) := W_inst (as := [.int x0]) (rfl : (pj lw).1 103 157 = some (.invokevirtual 52, 3, 11)) rfl rfl rfl (Nat.le_of_ble_eq_true rfl) (Nat.le_of_ble_eq_true rfl) ⟨rfl, rfl⟩
theorem w103_160 {x y : Int32} : W (pj lw) 103 160 L (.int y :: .int x :: S) k n H Q ↔ (if x = y then W (pj lw) 103 165 L S k n H Q else W (pj lw) 103 163 L S k n H Q) := W_icmp_eq (rfl : (pj lw).1 103 160 = some (.if_icmp .eq 5, 3, 0)) rfl
theorem w103_165 {x : Nat} : W (pj lw) 103 165 (.val (.ref x) :: L) S k n H Q ↔ W (pj lw) 103 166 (.val (.ref x) :: L) (.ref x :: S) k n H Q := W_s (rfl : (pj lw).1 103 165 = some (.aload_n 0, 1, 0)) rfl rfl rfl
theorem w103_166 {x : Int32} {l0 l1 : Slot} : W (pj lw) 103 166 (l0 :: l1 :: .val (.int x) :: L) S k n H Q ↔ W (pj lw) 103 167 (l0 :: l1 :: .val (.int x) :: L) (.int x :: S) k n H Q := W_s (rfl : (pj lw).1 103 166 = some (.iload_n 2, 1, 0)) rfl rfl rfl
theorem w103_167 : W (pj lw) 103 167 L S k n H Q ↔ W (pj lw) 103 168 L (.int 1 :: S) k n H Q := W_s (rfl : (pj lw).1 103 167 = some (.iconst 1, 1, 0)) rfl rfl rfl
theorem w103_168 {a : Nat} {x0 : Int32} {x1 : Int32} : W (pj lw) 103 168 L (.int x1 :: .int x0 :: .ref a :: S) k n H Q ↔ ((isO H a = true ∧ cs S + (3 + 11) + 28 ≤ 43) ∧ Cl (pj lw) 10 [.ref a, .int x0, .int x1] H (fun v H => W (pj lw) 103 171 L (v.toList ++ S) k n H Q)) := W_inst (as := [.int x0, .int x1]) (rfl : (pj lw).1 103 168 = some (.invokevirtual 55, 3, 10)) rfl rfl rfl (Nat.le_of_ble_eq_true rfl) (Nat.le_of_ble_eq_true rfl) ⟨rfl, rfl⟩
theorem w103_171 {x : Nat} {l0 : Slot} : W (pj lw) 103 171 (l0 :: .val (.ref x) :: L) S k n H Q ↔ W (pj lw) 103 172 (l0 :: .val (.ref x) :: L) (.ref x :: S) k n H Q := W_s (rfl : (pj lw).1 103 171 = some (.aload_n 1, 1, 0)) rfl rfl rfl
theorem w103_172 {x : Int32} {l0 l1 : Slot} : W (pj lw) 103 172 (l0 :: l1 :: .val (.int x) :: L) S k n H Q ↔ W (pj lw) 103 173 (l0 :: l1 :: .val (.int x) :: L) (.int x :: S) k n H Q := W_s (rfl : (pj lw).1 103 172 = some (.iload_n 2, 1, 0)) rfl rfl rfl
theorem w103_173 : W (pj lw) 103 173 L S k n H Q ↔ W (pj lw) 103 174 L (.int 1 :: S) k n H Q := W_s (rfl : (pj lw).1 103 173 = some (.iconst 1, 1, 0)) rfl rfl rfl
theorem w103_174 {a : Nat} {x0 : Int32} {x1 : Int32} : W (pj lw) 103 174 L (.int x1 :: .int x0 :: .ref a :: S) k n H Q ↔ ((isO H a = true ∧ cs S + (3 + 11) + 28 ≤ 43) ∧ Cl (pj lw) 10 [.ref a, .int x0, .int x1] H (fun v H => W (pj lw) 103 177 L (v.toList ++ S) k n H Q)) := W_inst (as := [.int x0, .int x1]) (rfl : (pj lw).1 103 174 = some (.invokevirtual 55, 3, 10)) rfl rfl rfl (Nat.le_of_ble_eq_true rfl) (Nat.le_of_ble_eq_true rfl) ⟨rfl, rfl⟩
theorem w103_177 {x y : Int32} : W (pj lw) 103 177 L (.int y :: .int x :: S) k n H Q ↔ (if x = y then W (pj lw) 103 182 L S k n H Q else W (pj lw) 103 180 L S k n H Q) := W_icmp_eq (rfl : (pj lw).1 103 177 = some (.if_icmp .eq 5, 3, 0)) rfl
theorem w103_182 {x : Nat} : W (pj lw) 103 182 (.val (.ref x) :: L) S k n H Q ↔ W (pj lw) 103 183 (.val (.ref x) :: L) (.ref x :: S) k n H Q := W_s (rfl : (pj lw).1 103 182 = some (.aload_n 0, 1, 0)) rfl rfl rfl
theorem w103_183 {x : Int32} {l0 l1 : Slot} : W (pj lw) 103 183 (l0 :: l1 :: .val (.int x) :: L) S k n H Q ↔ W (pj lw) 103 184 (l0 :: l1 :: .val (.int x) :: L) (.int x :: S) k n H Q := W_s (rfl : (pj lw).1 103 183 = some (.iload_n 2, 1, 0)) rfl rfl rfl
theorem w103_184 : W (pj lw) 103 184 L S k n H Q ↔ W (pj lw) 103 185 L (.int (-1) :: S) k n H Q := W_s (rfl : (pj lw).1 103 184 = some (.iconst (-1), 1, 0)) rfl rfl rfl
theorem w103_185 {a : Nat} {x0 : Int32} {x1 : Int32} : W (pj lw) 103 185 L (.int x1 :: .int x0 :: .ref a :: S) k n H Q ↔ ((isO H a = true ∧ cs S + (3 + 11) + 28 ≤ 43) ∧ Cl (pj lw) 10 [.ref a, .int x0, .int x1] H (fun v H => W (pj lw) 103 188 L (v.toList ++ S) k n H Q)) := W_inst (as := [.int x0, .int x1]) (rfl : (pj lw).1 103 185 = some (.invokevirtual 55, 3, 10)) rfl rfl rfl (Nat.le_of_ble_eq_true rfl) (Nat.le_of_ble_eq_true rfl) ⟨rfl, rfl⟩
theorem w103_188 {x : Nat} {l0 : Slot} : W (pj lw) 103 188 (l0 :: .val (.ref x) :: L) S k n H Q ↔ W (pj lw) 103 189 (l0 :: .val (.ref x) :: L) (.ref x :: S) k n H Q := W_s (rfl : (pj lw).1 103 188 = some (.aload_n 1, 1, 0)) rfl rfl rfl
theorem w103_189 {x : Int32} {l0 l1 : Slot} : W (pj lw) 103 189 (l0 :: l1 :: .val (.int x) :: L) S k n H Q ↔ W (pj lw) 103 190 (l0 :: l1 :: .val (.int x) :: L) (.int x :: S) k n H Q := W_s (rfl : (pj lw).1 103 189 = some (.iload_n 2, 1, 0)) rfl rfl rfl
theorem w103_190 : W (pj lw) 103 190 L S k n H Q ↔ W (pj lw) 103 191 L (.int (-1) :: S) k n H Q := W_s (rfl : (pj lw).1 103 190 = some (.iconst (-1), 1, 0)) rfl rfl rfl
theorem w103_191 {a : Nat} {x0 : Int32} {x1 : Int32} : W (pj lw) 103 191 L (.int x1 :: .int x0 :: .ref a :: S) k n H Q ↔ ((isO H a = true ∧ cs S + (3 + 11) + 28 ≤ 43) ∧ Cl (pj lw) 10 [.ref a, .int x0, .int x1] H (fun v H => W (pj lw) 103 194 L (v.toList ++ S) k n H Q)) := W_inst (as := [.int x0, .int x1]) (rfl : (pj lw).1 103 191 = some (.invokevirtual 55, 3, 10)) rfl rfl rfl (Nat.le_of_ble_eq_true rfl) (Nat.le_of_ble_eq_true rfl) ⟨rfl, rfl⟩
theorem w103_194 {x y : Int32} : W (pj lw) 103 194 L (.int y :: .int x :: S) k n H Q ↔ (if x = y then W (pj lw) 103 199 L S k n H Q else W (pj lw) 103 197 L S k n H Q) := W_icmp_eq (rfl : (pj lw).1 103 194 = some (.if_icmp .eq 5, 3, 0)) rfl
theorem w103_199 {x : Int32} {l0 l1 : Slot} : W (pj lw) 103 199 (l0 :: l1 :: .val (.int x) :: L) S k n H Q ↔ W (pj lw) 103 202 (l0 :: l1 :: .val (.int (x + 1)) :: L) S k n H Q := W_s (rfl : (pj lw).1 103 199 = some (.iinc 2 1, 3, 0)) rfl rfl rfl
theorem w103_202 : W (pj lw) 103 202 L S k n H Q ↔ W (pj lw) 103 144 L S k n H Q := W_goto (rfl : (pj lw).1 103 202 = some (.goto (-58), 3, 0)) rfl
theorem w103_205 : W (pj lw) 103 205 L S k n H Q ↔ W (pj lw) 103 206 L (.int 0 :: S) k n H Q := W_s (rfl : (pj lw).1 103 205 = some (.iconst 0, 1, 0)) rfl rfl rfl
theorem w103_206i {y : Int32} {x : Int32} {l0 l1 : Slot} : W (pj lw) 103 206 (l0 :: l1 :: .val (.int y) :: L) (.int x :: S) k n H Q ↔ W (pj lw) 103 207 (l0 :: l1 :: .val (.int x) :: L) S k n H Q := W_istn (rfl : (pj lw).1 103 206 = some (.istore_n 2, 1, 0)) rfl rfl
theorem w103_207 {x : Int32} {l0 l1 : Slot} : W (pj lw) 103 207 (l0 :: l1 :: .val (.int x) :: L) S k n H Q ↔ W (pj lw) 103 208 (l0 :: l1 :: .val (.int x) :: L) (.int x :: S) k n H Q := W_s (rfl : (pj lw).1 103 207 = some (.iload_n 2, 1, 0)) rfl rfl rfl
theorem w103_208 : W (pj lw) 103 208 L S k n H Q ↔ W (pj lw) 103 210 L (.int 16 :: S) k n H Q := W_s (rfl : (pj lw).1 103 208 = some (.bipush 16, 2, 0)) rfl rfl rfl
theorem w103_210 {x y : Int32} : W (pj lw) 103 210 L (.int y :: .int x :: S) k n H Q ↔ (if x < y then W (pj lw) 103 213 L S k n H Q else W (pj lw) 103 248 L S k n H Q) := W_icmp_ge (rfl : (pj lw).1 103 210 = some (.if_icmp .ge 38, 3, 0)) rfl
theorem w103_213 {x : Nat} : W (pj lw) 103 213 (.val (.ref x) :: L) S k n H Q ↔ W (pj lw) 103 214 (.val (.ref x) :: L) (.ref x :: S) k n H Q := W_s (rfl : (pj lw).1 103 213 = some (.aload_n 0, 1, 0)) rfl rfl rfl
theorem w103_214 {x : Int32} {l0 l1 : Slot} : W (pj lw) 103 214 (l0 :: l1 :: .val (.int x) :: L) S k n H Q ↔ W (pj lw) 103 215 (l0 :: l1 :: .val (.int x) :: L) (.int x :: S) k n H Q := W_s (rfl : (pj lw).1 103 214 = some (.iload_n 2, 1, 0)) rfl rfl rfl
theorem w103_215 : W (pj lw) 103 215 L S k n H Q ↔ W (pj lw) 103 217 L (.int 8 :: S) k n H Q := W_s (rfl : (pj lw).1 103 215 = some (.bipush 8, 2, 0)) rfl rfl rfl
theorem w103_217 {x y : Int32} : W (pj lw) 103 217 L (.int y :: .int x :: S) k n H Q ↔ (¬ y = 0 ∧ W (pj lw) 103 218 L (.int (x / y) :: S) k n H Q) := W_idiv (rfl : (pj lw).1 103 217 = some (.idiv, 1, 0))
theorem w103_218 {x : Int32} {l0 l1 : Slot} : W (pj lw) 103 218 (l0 :: l1 :: .val (.int x) :: L) S k n H Q ↔ W (pj lw) 103 219 (l0 :: l1 :: .val (.int x) :: L) (.int x :: S) k n H Q := W_s (rfl : (pj lw).1 103 218 = some (.iload_n 2, 1, 0)) rfl rfl rfl
theorem w103_219 : W (pj lw) 103 219 L S k n H Q ↔ W (pj lw) 103 221 L (.int 8 :: S) k n H Q := W_s (rfl : (pj lw).1 103 219 = some (.bipush 8, 2, 0)) rfl rfl rfl
theorem w103_221 {x y : Int32} : W (pj lw) 103 221 L (.int y :: .int x :: S) k n H Q ↔ (¬ y = 0 ∧ W (pj lw) 103 222 L (.int (x % y) :: S) k n H Q) := W_irem (rfl : (pj lw).1 103 221 = some (.irem, 1, 0))
theorem w103_222 {a : Nat} {x0 : Int32} {x1 : Int32} : W (pj lw) 103 222 L (.int x1 :: .int x0 :: .ref a :: S) k n H Q ↔ ((isO H a = true ∧ cs S + (7 + 11) + 13 ≤ 43) ∧ Cl (pj lw) 14 [.ref a, .int x0, .int x1] H (fun v H => W (pj lw) 103 225 L (v.toList ++ S) k n H Q)) := W_inst (as := [.int x0, .int x1]) (rfl : (pj lw).1 103 222 = some (.invokevirtual 58, 3, 14)) rfl rfl rfl (Nat.le_of_ble_eq_true rfl) (Nat.le_of_ble_eq_true rfl) ⟨rfl, rfl⟩
theorem w103_225 {x : Nat} {l0 : Slot} : W (pj lw) 103 225 (l0 :: .val (.ref x) :: L) S k n H Q ↔ W (pj lw) 103 226 (l0 :: .val (.ref x) :: L) (.ref x :: S) k n H Q := W_s (rfl : (pj lw).1 103 225 = some (.aload_n 1, 1, 0)) rfl rfl rfl
theorem w103_226 {x : Int32} {l0 l1 : Slot} : W (pj lw) 103 226 (l0 :: l1 :: .val (.int x) :: L) S k n H Q ↔ W (pj lw) 103 227 (l0 :: l1 :: .val (.int x) :: L) (.int x :: S) k n H Q := W_s (rfl : (pj lw).1 103 226 = some (.iload_n 2, 1, 0)) rfl rfl rfl
theorem w103_227 : W (pj lw) 103 227 L S k n H Q ↔ W (pj lw) 103 229 L (.int 8 :: S) k n H Q := W_s (rfl : (pj lw).1 103 227 = some (.bipush 8, 2, 0)) rfl rfl rfl
theorem w103_229 {x y : Int32} : W (pj lw) 103 229 L (.int y :: .int x :: S) k n H Q ↔ (¬ y = 0 ∧ W (pj lw) 103 230 L (.int (x / y) :: S) k n H Q) := W_idiv (rfl : (pj lw).1 103 229 = some (.idiv, 1, 0))
theorem w103_230 {x : Int32} {l0 l1 : Slot} : W (pj lw) 103 230 (l0 :: l1 :: .val (.int x) :: L) S k n H Q ↔ W (pj lw) 103 231 (l0 :: l1 :: .val (.int x) :: L) (.int x :: S) k n H Q := W_s (rfl : (pj lw).1 103 230 = some (.iload_n 2, 1, 0)) rfl rfl rfl
theorem w103_231 : W (pj lw) 103 231 L S k n H Q ↔ W (pj lw) 103 233 L (.int 8 :: S) k n H Q := W_s (rfl : (pj lw).1 103 231 = some (.bipush 8, 2, 0)) rfl rfl rfl
theorem w103_233 {x y : Int32} : W (pj lw) 103 233 L (.int y :: .int x :: S) k n H Q ↔ (¬ y = 0 ∧ W (pj lw) 103 234 L (.int (x % y) :: S) k n H Q) := W_irem (rfl : (pj lw).1 103 233 = some (.irem, 1, 0))
theorem w103_234 {a : Nat} {x0 : Int32} {x1 : Int32} : W (pj lw) 103 234 L (.int x1 :: .int x0 :: .ref a :: S) k n H Q ↔ ((isO H a = true ∧ cs S + (7 + 11) + 13 ≤ 43) ∧ Cl (pj lw) 14 [.ref a, .int x0, .int x1] H (fun v H => W (pj lw) 103 237 L (v.toList ++ S) k n H Q)) := W_inst (as := [.int x0, .int x1]) (rfl : (pj lw).1 103 234 = some (.invokevirtual 58, 3, 14)) rfl rfl rfl (Nat.le_of_ble_eq_true rfl) (Nat.le_of_ble_eq_true rfl) ⟨rfl, rfl⟩
theorem w103_237 {x y : Int32} : W (pj lw) 103 237 L (.int y :: .int x :: S) k n H Q ↔ (if x = y then W (pj lw) 103 242 L S k n H Q else W (pj lw) 103 240 L S k n H Q) := W_icmp_eq (rfl : (pj lw).1 103 237 = some (.if_icmp .eq 5, 3, 0)) rfl
theorem w103_242 {x : Int32} {l0 l1 : Slot} : W (pj lw) 103 242 (l0 :: l1 :: .val (.int x) :: L) S k n H Q ↔ W (pj lw) 103 245 (l0 :: l1 :: .val (.int (x + 1)) :: L) S k n H Q := W_s (rfl : (pj lw).1 103 242 = some (.iinc 2 1, 3, 0)) rfl rfl rfl
theorem w103_245 : W (pj lw) 103 245 L S k n H Q ↔ W (pj lw) 103 207 L S k n H Q := W_goto (rfl : (pj lw).1 103 245 = some (.goto (-38), 3, 0)) rfl
theorem w103_248 : W (pj lw) 103 248 L S k n H Q ↔ W (pj lw) 103 249 L (.int 1 :: S) k n H Q := W_s (rfl : (pj lw).1 103 248 = some (.iconst 1, 1, 0)) rfl rfl rfl
theorem w103_249 {x : Int32} : W (pj lw) 103 249 L (.int x :: S) k n H Q ↔ ((x = 0 ∨ x = 1) ∧ Q (some (.int x)) H) := W_rz (rfl : (pj lw).1 103 249 = some (.ireturn, 1, 0)) rfl
end LPc
section X9
variable {H : AH} {p q : Nat} {s s' : St} {Q : Option Value → AH → Prop} {k n : Nat} {v x y z : Int32}
section L103
theorem la (hs : p + 13 < q) (hE : Ev s) (m : Nat) : ∀ (i : Int32), i.toInt = 10 - m → m ≤ 10 →
    W (pj lw) 103 98 [.val (.ref p), .val (.ref q), .val (.int 10)] [] k n (ob (ob H p s) q (uI s 5 v)) Q →
    W (pj lw) 103 61 [.val (.ref p), .val (.ref q), .val (.int i)] [] k n (ob (ob H p s) q (uI s 5 v)) Q := by
  have O2 := isO2 (H := H) (s := s) (s' := uI s 5 v) hs
  have A8 := fun (a b : Int32) (Q : Option Value → AH → Prop) => lft (lw := lw) (H := H) (s' := uI s 5 v) (Q := Q) hs (fun H Q => t8 (lw := lw) (H := H) (p := p) (Q := Q) (a := a) (b := b) hE)
  have B8 := fun (a b : Int32) (Q : Option Value → AH → Prop) => t8 (lw := lw) (H := ob H p s) (p := q) (s := uI s 5 v) (Q := Q) (a := a) (b := b) (Ev5 hE)
  simp only [gC5] at B8
  induction m with
  | zero =>
    intro i hi _ hW
    have h1 : ¬ i < 10 := by rw [lt32]; simp only [Int32.reduceToInt]; omega
    have h2 : i = 10 := by rw [eq32]; simp only [Int32.reduceToInt]; omega
    subst h2
    rw [w103_61]; simp +decide only [w103_62, w103_64, ↓reduceIte]
    exact hW
  | succ m ih =>
    intro i hi hm hW
    have h1 : i < 10 := by rw [lt32]; simp only [Int32.reduceToInt]; omega
    have h2 : (i + 1).toInt = i.toInt + 1 := ia (by simp only [Int32.reduceToInt]; omega) (by simp only [Int32.reduceToInt]; omega)
    rw [w103_61]; simp +decide only [w103_62, w103_64, w103_67, w103_68, w103_69, w103_70, w103_71, w103_72, w103_73, w103_74, w103_77, w103_78, w103_79, w103_80, w103_81, w103_82, w103_83, w103_84, w103_87, w103_92, w103_95, isO_put, cs_nil, cs_int, Option.toList_some, List.cons_append, List.nil_append, true_and, and_true, ↓reduceIte, Nat.reduceAdd, Nat.reduceLeDiff, Int32.reduceAdd, Int64.reduceAdd, Nat.add_zero, h1, O2, A8, B8]
    exact ih (i + 1) (by omega) (by omega) hW
theorem lb (hs : p + 13 < q) (hE : Ev s) (m : Nat) : ∀ (i : Int32), i.toInt = 224 - m → m ≤ 224 →
    W (pj lw) 103 142 [.val (.ref p), .val (.ref q), .val (.int 224)] [] k n (ob (ob H p s) q (uI s 5 v)) Q →
    W (pj lw) 103 100 [.val (.ref p), .val (.ref q), .val (.int i)] [] k n (ob (ob H p s) q (uI s 5 v)) Q := by
  have O2 := isO2 (H := H) (s := s) (s' := uI s 5 v) hs
  have A9 := fun (a b : Int32) (Q : Option Value → AH → Prop) => lft (lw := lw) (H := H) (s' := uI s 5 v) (Q := Q) hs (fun H Q => t9 (lw := lw) (H := H) (p := p) (Q := Q) (a := a) (b := b) hE)
  have B9 := fun (a b : Int32) (Q : Option Value → AH → Prop) => t9 (lw := lw) (H := ob H p s) (p := q) (s := uI s 5 v) (Q := Q) (a := a) (b := b) (Ev5 hE)
  simp only [gP5] at B9
  induction m with
  | zero =>
    intro i hi _ hW
    have h1 : ¬ i < 224 := by rw [lt32]; simp only [Int32.reduceToInt]; omega
    have h2 : i = 224 := by rw [eq32]; simp only [Int32.reduceToInt]; omega
    subst h2
    rw [w103_100]; simp +decide only [w103_101, w103_104, ↓reduceIte]
    exact hW
  | succ m ih =>
    intro i hi hm hW
    have h1 : i < 224 := by rw [lt32]; simp only [Int32.reduceToInt]; omega
    have h2 : (i + 1).toInt = i.toInt + 1 := ia (by simp only [Int32.reduceToInt]; omega) (by simp only [Int32.reduceToInt]; omega)
    rw [w103_100]; simp +decide only [w103_101, w103_104, w103_107, w103_108, w103_109, w103_111, w103_112, w103_113, w103_115, w103_116, w103_119, w103_120, w103_121, w103_123, w103_124, w103_125, w103_127, w103_128, w103_131, w103_136, w103_139, isO_put, cs_nil, cs_int, Option.toList_some, List.cons_append, List.nil_append, true_and, and_true, ↓reduceIte, Nat.reduceAdd, Nat.reduceLeDiff, Int32.reduceAdd, Int64.reduceAdd, Nat.add_zero, h1, O2, A9, B9]
    exact ih (i + 1) (by omega) (by omega) hW
theorem lc (hs : p + 13 < q) (hE : Ev s) (m : Nat) : ∀ (i : Int32), i.toInt = 6 - m → m ≤ 6 →
    W (pj lw) 103 205 [.val (.ref p), .val (.ref q), .val (.int 6)] [] k n (ob (ob H p s) q (uI s 5 v)) Q →
    W (pj lw) 103 144 [.val (.ref p), .val (.ref q), .val (.int i)] [] k n (ob (ob H p s) q (uI s 5 v)) Q := by
  have O2 := isO2 (H := H) (s := s) (s' := uI s 5 v) hs
  have A11 := fun (a : Int32) (Q : Option Value → AH → Prop) => lft (lw := lw) (H := H) (s' := uI s 5 v) (Q := Q) hs (fun H Q => t11 (lw := lw) (H := H) (p := p) (Q := Q) (a := a) hE)
  have B11 := fun (a : Int32) (Q : Option Value → AH → Prop) => t11 (lw := lw) (H := ob H p s) (p := q) (s := uI s 5 v) (Q := Q) (a := a) (Ev5 hE)
  simp only [wtn5] at B11
  have A10 := fun (a b : Int32) (Q : Option Value → AH → Prop) => lft (lw := lw) (H := H) (s' := uI s 5 v) (Q := Q) hs (fun H Q => t10 (lw := lw) (H := H) (p := p) (Q := Q) (a := a) (b := b) hE)
  have B10 := fun (a b : Int32) (Q : Option Value → AH → Prop) => t10 (lw := lw) (H := ob H p s) (p := q) (s := uI s 5 v) (Q := Q) (a := a) (b := b) (Ev5 hE)
  simp only [hcl5] at B10
  induction m with
  | zero =>
    intro i hi _ hW
    have h1 : ¬ i < 6 := by rw [lt32]; simp only [Int32.reduceToInt]; omega
    have h2 : i = 6 := by rw [eq32]; simp only [Int32.reduceToInt]; omega
    subst h2
    rw [w103_144]; simp +decide only [w103_145, w103_147, ↓reduceIte]
    exact hW
  | succ m ih =>
    intro i hi hm hW
    have h1 : i < 6 := by rw [lt32]; simp only [Int32.reduceToInt]; omega
    have h2 : (i + 1).toInt = i.toInt + 1 := ia (by simp only [Int32.reduceToInt]; omega) (by simp only [Int32.reduceToInt]; omega)
    rw [w103_144]; simp +decide only [w103_145, w103_147, w103_150, w103_151, w103_152, w103_155, w103_156, w103_157, w103_160, w103_165, w103_166, w103_167, w103_168, w103_171, w103_172, w103_173, w103_174, w103_177, w103_182, w103_183, w103_184, w103_185, w103_188, w103_189, w103_190, w103_191, w103_194, w103_199, w103_202, isO_put, cs_nil, cs_int, Option.toList_some, List.cons_append, List.nil_append, true_and, and_true, ↓reduceIte, Nat.reduceAdd, Nat.reduceLeDiff, Int32.reduceAdd, Int64.reduceAdd, Nat.add_zero, Nat.le_refl, h1, O2, A11, B11, A10, B10]
    exact ih (i + 1) (by omega) (by omega) hW
theorem ld (hs : p + 13 < q) (hE : Ev s) (m : Nat) : ∀ (i : Int32), i.toInt = 16 - m → m ≤ 16 →
    W (pj lw) 103 248 [.val (.ref p), .val (.ref q), .val (.int 16)] [] k n (ob (ob H p s) q (uI s 5 v)) Q →
    W (pj lw) 103 207 [.val (.ref p), .val (.ref q), .val (.int i)] [] k n (ob (ob H p s) q (uI s 5 v)) Q := by
  have O2 := isO2 (H := H) (s := s) (s' := uI s 5 v) hs
  have A14 := fun (a b : Int32) (Q : Option Value → AH → Prop) => lft (lw := lw) (H := H) (s' := uI s 5 v) (Q := Q) hs (fun H Q => t14 (lw := lw) (H := H) (p := p) (Q := Q) (a := a) (b := b) hE)
  have B14 := fun (a b : Int32) (Q : Option Value → AH → Prop) => t14 (lw := lw) (H := ob H p s) (p := q) (s := uI s 5 v) (Q := Q) (a := a) (b := b) (Ev5 hE)
  simp only [his5] at B14
  induction m with
  | zero =>
    intro i hi _ hW
    have h1 : ¬ i < 16 := by rw [lt32]; simp only [Int32.reduceToInt]; omega
    have h2 : i = 16 := by rw [eq32]; simp only [Int32.reduceToInt]; omega
    subst h2
    rw [w103_207]; simp +decide only [w103_208, w103_210, ↓reduceIte]
    exact hW
  | succ m ih =>
    intro i hi hm hW
    have h1 : i < 16 := by rw [lt32]; simp only [Int32.reduceToInt]; omega
    have h2 : (i + 1).toInt = i.toInt + 1 := ia (by simp only [Int32.reduceToInt]; omega) (by simp only [Int32.reduceToInt]; omega)
    rw [w103_207]; simp +decide only [w103_208, w103_210, w103_213, w103_214, w103_215, w103_217, w103_218, w103_219, w103_221, w103_222, w103_225, w103_226, w103_227, w103_229, w103_230, w103_231, w103_233, w103_234, w103_237, w103_242, w103_245, isO_put, cs_nil, cs_int, Option.toList_some, List.cons_append, List.nil_append, true_and, and_true, ↓reduceIte, Nat.reduceAdd, Nat.reduceLeDiff, Int32.reduceAdd, Int64.reduceAdd, Nat.add_zero, h1, O2, A14, B14]
    exact ih (i + 1) (by omega) (by omega) hW
theorem s103 (hs : p + 13 < q) (hE : Ev s) (hW : Q (some (.int 1)) (ob (ob H p s) q (uI s 5 v))) : Cl (pj lw) 103 [.ref p, .ref q] (ob (ob H p s) q (uI s 5 v)) Q := by
  have O2 := isO2 (H := H) (s := s) (s' := uI s 5 v) hs
  have A5 := fun (Q : Option Value → AH → Prop) => lft (lw := lw) (H := H) (s := s) (s' := uI s 5 v) (Q := Q) hs (fun H Q => t5 (lw := lw) (H := H) (p := p) (s := s) (Q := Q))
  have B5 := fun (Q : Option Value → AH → Prop) => t5 (lw := lw) (H := ob H p s) (p := q) (s := uI s 5 v) (Q := Q)
  have A6 := fun (Q : Option Value → AH → Prop) => lft (lw := lw) (H := H) (s := s) (s' := uI s 5 v) (Q := Q) hs (fun H Q => t6 (lw := lw) (H := H) (p := p) (s := s) (Q := Q))
  have B6 := fun (Q : Option Value → AH → Prop) => t6 (lw := lw) (H := ob H p s) (p := q) (s := uI s 5 v) (Q := Q)
  have A7 := fun (Q : Option Value → AH → Prop) => lft (lw := lw) (H := H) (s := s) (s' := uI s 5 v) (Q := Q) hs (fun H Q => t7 (lw := lw) (H := H) (p := p) (s := s) (Q := Q) hE)
  have B7 := fun (Q : Option Value → AH → Prop) => t7 (lw := lw) (H := ob H p s) (p := q) (s := uI s 5 v) (Q := Q) (Ev5 hE)
  have A12 := fun (Q : Option Value → AH → Prop) => lft (lw := lw) (H := H) (s := s) (s' := uI s 5 v) (Q := Q) hs (fun H Q => t12 (lw := lw) (H := H) (p := p) (s := s) (Q := Q) hE)
  have B12 := fun (Q : Option Value → AH → Prop) => t12 (lw := lw) (H := ob H p s) (p := q) (s := uI s 5 v) (Q := Q) (Ev5 hE)
  have A13 := fun (Q : Option Value → AH → Prop) => lft (lw := lw) (H := H) (s := s) (s' := uI s 5 v) (Q := Q) hs (fun H Q => t13 (lw := lw) (H := H) (p := p) (s := s) (Q := Q) hE)
  have B13 := fun (Q : Option Value → AH → Prop) => t13 (lw := lw) (H := ob H p s) (p := q) (s := uI s 5 v) (Q := Q) (Ev5 hE)
  have d5 : Int32.ofNat (cnt (fun i => decide (sA (uI s 5 v) 6 i = 3)) 0 (pc (uI s 5 v))) = Int32.ofNat (cnt (fun i => decide (sA s 6 i = 3)) 0 (pc s)) := congrArg Int32.ofNat dlN5
  rw [I_5 (by decide)] at B5 B6
  rw [d5] at B7
  rw [wS5] at B12
  rw [jS5] at B13
  rw [c103]; simp +decide only [w103_0, w103_1, w103_4, w103_5, w103_8, w103_11, w103_12, w103_15, w103_16, w103_19, w103_22, w103_23, w103_26, w103_27, w103_30, w103_35, w103_36, w103_39, w103_40, w103_43, w103_46, w103_47, w103_50, w103_51, w103_54, w103_59, w103_60, isO_put, cs_nil, cs_int, Option.toList_some, List.cons_append, List.nil_append, true_and, and_true, ↓reduceIte, Nat.reduceAdd, Nat.reduceLeDiff, Int32.reduceAdd, Int64.reduceAdd, Nat.add_zero, O2, A5, B5, A6, B6, A7, B7, A12, B12, A13, B13]
  refine la hs hE 10 0 (by decide) (by decide) ?_
  simp +decide only [w103_98, w103_99i]
  refine lb hs hE 224 0 (by decide) (by decide) ?_
  simp +decide only [w103_142, w103_143i]
  refine lc hs hE 6 0 (by decide) (by decide) ?_
  simp +decide only [w103_205, w103_206i]
  refine ld hs hE 16 0 (by decide) (by decide) ?_
  simp +decide only [w103_248, w103_249, true_and]
  exact hW
end L103
theorem clid {d : Int32} (h : 1 ≤ d.toInt ∧ d.toInt ≤ 32) : cl 1 32 d = d := by
  unfold cl; rw [if_neg (by rw [lt32]; simp only [Int32.reduceToInt]; omega), if_neg (by rw [lt32]; simp only [Int32.reduceToInt]; omega)]
set_option maxRecDepth 100000 in
set_option maxHeartbeats 4000000 in
theorem lp {a len : Nat} {f : Nat → Int32} {c : Nat} (ha : a < p) (hs : p + 13 < q) (hl : len ≤ 260) (m : Nat) : ∀ (i v tn : Int32) (s : St), Ev s → 0 ≤ i.toInt → i.toInt ≤ len + 4 → len + 4 ≤ i.toInt + m →
    W (pj lw) 100 29 [.val (.ref a), .val (.ref p), .val (.ref q), .val (.int tn), .val (.int i), .unset, .unset, .unset, .unset, .unset, .unset, .unset, .unset, .unset, .unset, .unset] [] k n (ob (ob (H1 c a len f) p s) q (uI s 5 v)) (fun v _ => v = some (.int 1)) := by
  have O2 : ∀ (s s' : St), isO (ob (ob (H1 c a len f) p s) q s') p = true := fun s s' => isO2 hs
  have hlen : (len.toInt32).toInt = len := len32 (by omega)
  induction m with
  | zero =>
    intro i v tn s hE h0 h4 hm
    have h3 : (i + 3).toInt = i.toInt + 3 := ia (by simp only [Int32.reduceToInt]; omega) (by simp only [Int32.reduceToInt]; omega)
    obtain ⟨y1, y2, y3, y4⟩ := sc2 (cc := c) (len := len) (f := f) (s := s) (s' := uI s 5 v) ha hs
    have hlt : ¬ i + 3 < len.toInt32 := by rw [lt32]; omega
    rw [w100_29]; simp +decide only [w100_31, w100_32, w100_33, w100_34, w100_35, w100_308, w100_309, and_true, ↓reduceIte, y1, y2, hlt]
  | succ m ih =>
    intro i v tn s hE h0 h4 hm
    have h1 : (i + 1).toInt = i.toInt + 1 := ia (by simp only [Int32.reduceToInt]; omega) (by simp only [Int32.reduceToInt]; omega)
    have h2 : (i + 2).toInt = i.toInt + 2 := ia (by simp only [Int32.reduceToInt]; omega) (by simp only [Int32.reduceToInt]; omega)
    have h3 : (i + 3).toInt = i.toInt + 3 := ia (by simp only [Int32.reduceToInt]; omega) (by simp only [Int32.reduceToInt]; omega)
    have Y := fun (s s' : St) => sc2 (cc := c) (len := len) (f := f) (s := s) (s' := s') ha hs
    have y1 := fun s s' => (Y s s').1
    have y2 := fun s s' => (Y s s').2.1
    have y3 := fun s s' => (Y s s').2.2.1
    have y4 := fun s s' => (Y s s').2.2.2
    by_cases hlt : i + 3 < len.toInt32
    rotate_left
    · rw [w100_29]; simp +decide only [w100_31, w100_32, w100_33, w100_34, w100_35, w100_308, w100_309, and_true, ↓reduceIte, y1, y2, hlt]
    by_cases ht : tn < 48
    rotate_left
    · rw [w100_29]; simp +decide only [w100_31, w100_32, w100_33, w100_34, w100_35, w100_38, w100_39, w100_41, w100_308, w100_309, and_true, ↓reduceIte, y1, y2, hlt, ht]
    have hb : i.toInt + 3 < len := by rw [lt32] at hlt; omega
    have h5 : (i + 4).toInt = i.toInt + 4 := ia (by simp only [Int32.reduceToInt]; omega) (by simp only [Int32.reduceToInt]; omega)
    have j0 : 0 ≤ i.toInt ∧ i.toInt < (len : Int) := by omega
    have j1 : 0 ≤ (i + 1).toInt ∧ (i + 1).toInt < (len : Int) := by omega
    have j2 : 0 ≤ (i + 2).toInt ∧ (i + 2).toInt < (len : Int) := by omega
    have j3 : 0 ≤ (i + 3).toInt ∧ (i + 3).toInt < (len : Int) := by omega
    have key : ∀ (s' : St) (v tn : Int32) (l5 l6 l7 l8 l9 l10 l11 l12 l13 l14 l15 : Slot), Ev s' → cat1 l5 = true → cat1 l6 = true → cat1 l7 = true → cat1 l8 = true → cat1 l9 = true → cat1 l10 = true → cat1 l11 = true → cat1 l12 = true → cat1 l13 = true → cat1 l14 = true → cat1 l15 = true →
        W (pj lw) 100 302 [.val (.ref a), .val (.ref p), .val (.ref q), .val (.int tn), .val (.int i), l5, l6, l7, l8, l9, l10, l11, l12, l13, l14, l15] [] k n (ob (ob (H1 c a len f) p s') q (uI s' 5 v)) (fun v _ => v = some (.int 1)) := by
      intro s' v tn l5 l6 l7 l8 l9 l10 l11 l12 l13 l14 l15 hE' c5 c6 c7 c8 c9 c10 c11 c12 c13 c14 c15
      simp +decide only [w100_302, w100_305]
      exact W_fg (lel_cons <| lel_cons <| lel_cons <| lel_cons <| lel_cons <| lel_un c5 <| lel_un c6 <| lel_un c7 <| lel_un c8 <| lel_un c9 <| lel_un c10 <| lel_un c11 <| lel_un c12 <| lel_un c13 <| lel_un c14 <| lel_un c15 lel_refl) (ih (i + 4) v tn s' hE' (by omega) (by omega) (by omega))
    clear ih
    rw [w100_29]; simp +decide only [w100_31, w100_32, w100_33, w100_34, w100_35, w100_38, w100_39, w100_41, w100_44, w100_47, w100_48, w100_50, w100_51, w100_52, w100_53, w100_55, w100_56, w100_58, w100_59, w100_60, w100_61, w100_63, w100_64, w100_65, w100_66, w100_68, w100_69, w100_71, w100_72, w100_73, w100_74, w100_76, w100_77, w100_79, w100_80, w100_82, w100_83, w100_84, w100_85, w100_87, w100_88, true_and, and_true, ↓reduceIte, y1, y2, y3, y4, hlt, ht, j0, j1, j2, j3]
    have ra := and_rg (x := f (i + 1).toNatClampNeg) (m := 7) (by decide)
    have rc := and_rg (x := f (i + 2).toNatClampNeg) (m := 7) (by decide)
    simp only [Int32.reduceToInt] at ra rc
    generalize f i.toNatClampNeg &&& 3 = op
    generalize f (i + 1).toNatClampNeg = x at *
    generalize f (i + 2).toNatClampNeg &&& 7 = y at *
    generalize f (i + 3).toNatClampNeg &&& 7 = z
    have A5 := fun (Q : Option Value → AH → Prop) => lft (lw := lw) (H := H1 c a len f) (s := s) (s' := uI s 5 v) (Q := Q) hs (fun H Q => t5 (lw := lw) (H := H) (p := p) (s := s) (Q := Q))
    have A2 := fun (w y z : Int32) (Q : Option Value → AH → Prop) => lft (lw := lw) (H := H1 c a len f) (s := s) (s' := uI s 5 v) (Q := Q) hs (fun H Q => t2 (lw := lw) (H := H) (p := p) (s := s) (Q := Q) (a := w) (b := y) (c := z) hE)
    have B2 := fun (s1 : St) (w y z : Int32) (Q : Option Value → AH → Prop) => t2 (lw := lw) (H := ob (H1 c a len f) p s1) (p := q) (s := uI s 5 v) (Q := Q) (a := w) (b := y) (c := z) (Ev5 hE)
    simp only [ap5.1, ap5.2] at B2
    have A3 := fun (w y z : Int32) (Q : Option Value → AH → Prop) => lft (lw := lw) (H := H1 c a len f) (s := s) (s' := uI s 5 v) (Q := Q) hs (fun H Q => t3 (lw := lw) (H := H) (p := p) (s := s) (Q := Q) (a := w) (b := y) (c := z) hE)
    have B3 := fun (s1 : St) (w y z : Int32) (Q : Option Value → AH → Prop) => t3 (lw := lw) (H := ob (H1 c a len f) p s1) (p := q) (s := uI s 5 v) (Q := Q) (a := w) (b := y) (c := z) (Ev5 hE)
    simp only [gen5] at B3
    have hx : f (i + 1).toNatClampNeg = f (i + 1).toNatClampNeg := rfl
    by_cases e1 : 1 < op
    rotate_left
    · simp +decide only [w100_90, w100_92, w100_93, w100_96, w100_97, w100_100, w100_101, w100_103, w100_104, w100_105, w100_106, w100_108, w100_109, w100_110, w100_111, w100_112, w100_114, w100_115, w100_117, w100_119, w100_121, w100_124, w100_126, w100_127, w100_129, w100_131, w100_133, w100_136, w100_138, w100_140, w100_142, w100_147, isO_put, Option.toList_some, List.cons_append, List.nil_append, true_and, and_true, ↓reduceIte, e1, A5, A2, B2, O2, y3, y4, j1]
      exact key _ _ _ _ _ _ _ _ _ _ _ _ _ _ (Ev_ap hE) rfl rfl rfl rfl rfl rfl rfl rfl rfl rfl rfl
    by_cases e2 : op = 2
    · simp +decide only [w100_90, w100_92, w100_93, w100_150, w100_152, w100_153, w100_156, w100_157, w100_158, w100_160, w100_161, w100_162, w100_163, w100_165, w100_166, w100_167, w100_169, w100_170, w100_171, w100_174, w100_176, w100_177, w100_178, w100_180, w100_181, w100_182, w100_183, w100_185, w100_186, w100_187, w100_189, w100_190, w100_191, w100_194, w100_196, w100_198, w100_200, w100_205, isO_put, Option.toList_some, List.cons_append, List.nil_append, true_and, and_true, ↓reduceIte, e2, A3, B3, O2, y3, y4, j1]
      exact key _ _ _ _ _ _ _ _ _ _ _ _ _ _ (Ev_geF _ _ _ _ _ hE) rfl rfl rfl rfl rfl rfl rfl rfl rfl rfl rfl
    · have r1 : ((x &&& 7) + 1).toInt = (x &&& 7).toInt + 1 := ia (by simp only [Int32.reduceToInt]; omega) (by simp only [Int32.reduceToInt]; omega)
      have r2 : (y + 1).toInt = y.toInt + 1 := ia (by simp only [Int32.reduceToInt]; omega) (by simp only [Int32.reduceToInt]; omega)
      have r3 : ((x &&& 7) + 1 + (y + 1)).toInt = (x &&& 7).toInt + 1 + (y.toInt + 1) := by rw [ia (by rw [r1, r2]; omega) (by rw [r1, r2]; omega), r1, r2]
      have A4 := fun (Q : Option Value → AH → Prop) => lft (lw := lw) (H := H1 c a len f) (s := s) (s' := uI s 5 v) (Q := Q) hs (fun H Q => t4 (lw := lw) (H := H) (p := p) (s := s) (Q := Q) (a := (x &&& 7) + 1 + (y + 1)) hE)
      have B4 := fun (s1 : St) (Q : Option Value → AH → Prop) => t4 (lw := lw) (H := ob (H1 c a len f) p s1) (p := q) (s := uI s 5 v) (Q := Q) (a := (x &&& 7) + 1) (Ev5 hE)
      have eT : stS (uI s 5 v) ((x &&& 7) + 1) = tkF ((x &&& 7) + 1).toInt.toNat (uI s 5 0) := by unfold stS; rw [clid (by omega), uI_55]
      have eS : stS s ((x &&& 7) + 1 + (y + 1)) = tkF (y + 1).toInt.toNat (tkF ((x &&& 7) + 1).toInt.toNat (uI s 5 0)) := by
        unfold stS; rw [clid (by omega), ← tkF_add]; congr 1; omega
      rw [eT] at B4
      rw [eS] at A4
      have ET : Ev (tkF ((x &&& 7) + 1).toInt.toNat (uI s 5 0)) := Ev_tkF _ _ (Ev5 hE)
      generalize tkF ((x &&& 7) + 1).toInt.toNat (uI s 5 0) = T at *
      have C4 := fun (s1 : St) (Q : Option Value → AH → Prop) => t4 (lw := lw) (H := ob (H1 c a len f) p s1) (p := q) (s := T) (Q := Q) (a := y + 1) ET
      have eU : stS T (y + 1) = uI (tkF (y + 1).toInt.toNat T) 5 (0 + (sI (tkF (y + 1).toInt.toNat T) 5 - sI T 5)) := by unfold stS; rw [clid (by omega), tkF5]
      rw [eU] at C4
      have EU : Ev (tkF (y + 1).toInt.toNat T) := Ev_tkF _ _ ET
      generalize tkF (y + 1).toInt.toNat T = U at *
      have e55 : sI (uI U 5 (0 + (sI U 5 - sI T 5))) 5 = 0 + (sI U 5 - sI T 5) := by rw [sI_uI, if_pos rfl]
      rw [e55] at C4
      have C6 := fun (s1 : St) (Q : Option Value → AH → Prop) => t6 (lw := lw) (H := ob (H1 c a len f) p s1) (p := q) (s := T) (Q := Q)
      have C2 := fun (s1 : St) (Q : Option Value → AH → Prop) => t2 (lw := lw) (H := ob (H1 c a len f) p s1) (p := q) (s := T) (Q := Q) (a := 0) (b := 2) (c := 2) ET
      have sum : sI U 5 = sI T 5 + (0 + (sI U 5 - sI T 5)) := by rw [Int32.zero_add, Int32.add_comm, Int32.sub_add_cancel]
      have fin : ∀ (l12 l13 l14 : Int32), W (pj lw) 100 292 [.val (.ref a), .val (.ref p), .val (.ref q), .val (.int (tn + 1)), .val (.int i), .val (.int op), .val (.int ((x &&& 7) + 1)), .val (.int y), .val (.int z), .val (.int (y + 1)), .val (.int (sI U 5)), .val (.int (sI T 5)), .val (.int l12), .val (.int l13), .val (.int l14), .val (.int (0 + (sI U 5 - sI T 5)))] [] k n (ob (ob (H1 c a len f) p U) q (uI U 5 (0 + (sI U 5 - sI T 5)))) (fun v _ => v = some (.int 1)) := by
        intro l12 l13 l14
        simp +decide only [w100_292, w100_293, w100_294, true_and]
        refine s103 hs EU ?_
        simp +decide only [w100_297, Option.toList_some, List.cons_append, List.nil_append, ↓reduceIte]
        exact key _ _ _ _ _ _ _ _ _ _ _ _ _ _ EU rfl rfl rfl rfl rfl rfl rfl rfl rfl rfl rfl
      by_cases g : sI T 4 < 32
      · have g32 : ¬ sI T 4 = 32 := fun e => by rw [e] at g; exact absurd g (by decide)
        have eR : apR T 0 2 2 = -2 := by unfold apR; simp +decide only [g, ↓reduceIte, or_true]
        have eA : apS T 0 2 2 = T := by unfold apS; rw [eR]; rfl
        rw [eR, eA] at C2
        simp +decide only [w100_90, w100_92, w100_93, w100_150, w100_152, w100_153, w100_208, w100_210, w100_211, w100_212, w100_214, w100_215, w100_217, w100_219, w100_220, w100_223, w100_225, w100_226, w100_228, w100_231, w100_233, w100_234, w100_237, w100_239, w100_240, w100_241, w100_242, w100_243, w100_246, w100_248, w100_250, w100_252, w100_259, w100_261, w100_263, w100_265, w100_267, w100_272, w100_273, w100_275, w100_278, w100_280, w100_282, w100_284, w100_286, w100_287, w100_290, w100_291, isO_put, Option.toList_some, List.cons_append, List.nil_append, true_and, and_true, ↓reduceIte, e1, e2, A4, B4, C4, C6, C2, O2, g32]
        rw [if_pos sum]
        exact fin _ _ _
      · have g32 : sI T 4 = 32 := by rw [eq32]; rw [lt32] at g; have := ET.2.2; simp only [Int32.reduceToInt] at g ⊢; omega
        have eR : apR T 0 2 2 = -1 := by unfold apR; simp +decide only [g, ↓reduceIte]
        have eA : apS T 0 2 2 = T := by unfold apS; rw [eR]; rfl
        rw [eR, eA] at C2
        simp +decide only [w100_90, w100_92, w100_93, w100_150, w100_152, w100_153, w100_208, w100_210, w100_211, w100_212, w100_214, w100_215, w100_217, w100_219, w100_220, w100_223, w100_225, w100_226, w100_228, w100_231, w100_233, w100_234, w100_237, w100_239, w100_240, w100_241, w100_242, w100_243, w100_246, w100_248, w100_250, w100_252, w100_255, w100_256, w100_261, w100_263, w100_265, w100_267, w100_272, w100_273, w100_275, w100_278, w100_280, w100_282, w100_284, w100_286, w100_287, w100_290, w100_291, isO_put, Option.toList_some, List.cons_append, List.nil_append, true_and, and_true, ↓reduceIte, e1, e2, A4, B4, C4, C6, C2, O2, g32]
        rw [if_pos sum]
        exact fin _ _ _
theorem put_c {c : Nat} : (c, (ob H p s).2) = ob (c, H.2) p s := rfl
theorem H1_c {c N a len : Nat} {f : Nat → Int32} : (c, (H1 N a len f).2) = H1 c a len f := rfl
set_option maxRecDepth 100000 in
theorem law_ok (N a len : Nat) (f : Nat → Int32) (ha : a < N) (hl : len ≤ 260) : Cl (pj lw) 100 [.ref a] (H1 N a len f) (fun v _ => v = some (.int 1)) := by
  rw [c100]
  have e1 : (H1 N a len f).1 = N := rfl
  simp +decide only [w100_0, w100_3, w100_4, w100_5, w100_7, w100_8, w100_11, w100_12, w100_15, w100_16, w100_17, w100_19, w100_20, w100_23, w100_24, w100_25, w100_26, w100_27, isO_put, put_fst, cs_nil, cs_ref, Option.toList_none, List.nil_append, true_and, and_true, Nat.reduceAdd, Nat.reduceLeDiff, Int32.reduceAdd, Int64.reduceAdd, Nat.add_zero, Nat.zero_add, mkO_ob, t1, e1]
  simp only [put_c, H1_c]
  have e5 : ini0 2 6 3 = uI (ini0 2 6 3) 5 0 := by
    refine St_ext (fun k => ?_) (fun k => by simp only [sJ_uI]) (fun t i => by simp only [sA_uI]) (fun t i => by simp only [sB_uI])
    simp only [sI_uI]; split
    · rename_i g; subst g; simp +decide only []
    · rfl
  have := lp (p := N) (q := N + 14) (k := 28) (n := 590) (c := N + 14 + 14) (f := f) ha (by omega) hl (len + 4) 0 0 0 (ini0 2 6 3) Ev_ini (by decide) (by simp only [Int32.reduceToInt]; omega) (by simp only [Int32.reduceToInt]; omega)
  rw [← e5] at this
  exact this
end X9

end Jvm.JX.Lw
namespace Jvm.Pilot.@@N@@
open Jvm Jvm.ClassFile Sem Op Lib Jvm.Free Jvm.Stand Jvm.LawKit Jvm.RoadKit Bundle Jvm.Pilot.@@N@@.Jvm.D Jvm.JX Jvm.JX.Pj Jvm.JX.Lw
def nmL : List (Nat × MethodName) := [(1, ⟨"ElevatorBank", "<init>", "(III)V"⟩), (2, ⟨"ElevatorBank", "addPassenger", "(III)I"⟩), (3, ⟨"ElevatorBank", "generate", "(III)I"⟩), (4, ⟨"ElevatorBank", "step", "(I)I"⟩), (5, ⟨"ElevatorBank", "now", "()I"⟩), (6, ⟨"ElevatorBank", "passengers", "()I"⟩), (7, ⟨"ElevatorBank", "delivered", "()I"⟩), (8, ⟨"ElevatorBank", "car", "(II)I"⟩), (9, ⟨"ElevatorBank", "passenger", "(II)I"⟩), (10, ⟨"ElevatorBank", "hallCall", "(II)I"⟩), (11, ⟨"ElevatorBank", "waiting", "(I)I"⟩), (12, ⟨"ElevatorBank", "waitSum", "()I"⟩), (13, ⟨"ElevatorBank", "journeySum", "()I"⟩), (14, ⟨"ElevatorBank", "histogram", "(II)I"⟩), (15, ⟨"ElevatorBank", "clamp", "(III)I"⟩), (16, ⟨"ElevatorBank", "bucketOf", "(I)I"⟩), (17, ⟨"ElevatorBank", "direction", "(I)I"⟩), (18, ⟨"ElevatorBank", "slotIndex", "(II)I"⟩), (19, ⟨"ElevatorBank", "waitingDir", "(II)Z"⟩), (20, ⟨"ElevatorBank", "assigned", "(III)Z"⟩), (21, ⟨"ElevatorBank", "ridingTo", "(II)Z"⟩), (22, ⟨"ElevatorBank", "isTarget", "(II)Z"⟩), (23, ⟨"ElevatorBank", "beyond", "(II)Z"⟩), (24, ⟨"ElevatorBank", "room", "(I)Z"⟩), (25, ⟨"ElevatorBank", "choose", "(I)I"⟩), (26, ⟨"ElevatorBank", "tick", "()V"⟩), (27, ⟨"ElevatorBank", "arrivals", "()V"⟩), (28, ⟨"ElevatorBank", "dispatch", "()V"⟩), (29, ⟨"ElevatorBank", "assignCall", "(II)V"⟩), (30, ⟨"ElevatorBank", "eta", "(III)I"⟩), (31, ⟨"ElevatorBank", "runCar", "(I)V"⟩), (32, ⟨"ElevatorBank", "stepStopped", "(I)V"⟩), (33, ⟨"ElevatorBank", "stepMoving", "(I)V"⟩), (34, ⟨"ElevatorBank", "stepOpen", "(I)V"⟩), (35, ⟨"ElevatorBank", "deliverAt", "(I)Z"⟩), (36, ⟨"ElevatorBank", "boardAt", "(II)Z"⟩), (37, ⟨"ElevatorBank", "stepClosing", "(I)V"⟩), (100, ⟨"ElevatorBankL7", "law", "([I)Z"⟩), (103, ⟨"ElevatorBankL7", "same", "(LElevatorBank;LElevatorBank;)Z"⟩)]
def nm (m : Nat) : MethodName := (nmL.lookup m).getD ⟨"", "", ""⟩
def btL : List (Nat × ByteArray) := [(1, prog_1_method_1_code), (2, prog_1_method_2_code), (3, prog_1_method_3_code), (4, prog_1_method_4_code), (5, prog_1_method_5_code), (6, prog_1_method_6_code), (7, prog_1_method_7_code), (8, prog_1_method_8_code), (9, prog_1_method_9_code), (10, prog_1_method_10_code), (11, prog_1_method_11_code), (12, prog_1_method_12_code), (13, prog_1_method_13_code), (14, prog_1_method_14_code), (15, prog_1_method_15_code), (16, prog_1_method_16_code), (17, prog_1_method_17_code), (18, prog_1_method_18_code), (19, prog_1_method_19_code), (20, prog_1_method_20_code), (21, prog_1_method_21_code), (22, prog_1_method_22_code), (23, prog_1_method_23_code), (24, prog_1_method_24_code), (25, prog_1_method_25_code), (26, prog_1_method_26_code), (27, prog_1_method_27_code), (28, prog_1_method_28_code), (29, prog_1_method_29_code), (30, prog_1_method_30_code), (31, prog_1_method_31_code), (32, prog_1_method_32_code), (33, prog_1_method_33_code), (34, prog_1_method_34_code), (35, prog_1_method_35_code), (36, prog_1_method_36_code), (37, prog_1_method_37_code), (100, code), (103, method_3_code)]
def bt (m : Nat) : ByteArray := (btL.lookup m).getD ⟨#[]⟩
def fnL : List (String × String) := [("nCars", "I"), ("nFloors", "I"), ("cap", "I"), ("nowT", "I"), ("pCount", "I"), ("deliveredInCall", "I"), ("cFloor", "[I"), ("cState", "[I"), ("cDir", "[I"), ("cLoad", "[I"), ("cTimer", "[I"), ("pState", "[I"), ("pFrom", "[I"), ("pTo", "[I"), ("pArrive", "[I"), ("pBoard", "[I"), ("pDeliver", "[I"), ("pCar", "[I"), ("slot", "[I")]
def fn (k : Nat) : String × String := fnL.getD k ("", "")
def RL : List Nat := [1, 2, 3, 4, 5, 6, 7, 8, 9, 10, 11, 12, 13, 14, 15, 16, 17, 18, 19, 20, 21, 22, 23, 24, 25, 26, 27, 28, 29, 30, 31, 32, 33, 34, 35, 36, 37, 100, 103]
def FS : List Nat := [0, 1, 2, 3, 4, 5, 6, 7, 8, 9, 10, 11, 12, 13, 14, 15, 16, 17, 18]
def WF : List Nat := [0, 1, 2, 3, 4, 5, 6, 7, 8, 9, 10, 11, 12, 13, 14, 15, 16, 17, 18]
def FL : List (Nat × Nat × Nat) := [(0, 7, 6), (0, 13, 7), (0, 16, 8), (0, 19, 9), (0, 22, 10), (0, 25, 11), (0, 28, 12), (0, 31, 13), (0, 34, 14), (0, 37, 15), (0, 40, 16), (0, 43, 17), (0, 46, 18), (0, 53, 0), (0, 57, 1), (0, 60, 2), (0, 63, 4), (0, 66, 3), (0, 73, 5)]
def ML : List (Nat × Nat × Nat) := [(0, 49, 15), (0, 70, 2), (0, 76, 26), (0, 79, 19), (0, 83, 18), (0, 87, 16), (0, 91, 17), (0, 94, 21), (0, 97, 20), (0, 101, 22), (0, 104, 23), (0, 107, 27), (0, 110, 28), (0, 113, 31), (0, 117, 29), (0, 121, 30), (0, 124, 32), (0, 127, 33), (0, 130, 34), (0, 133, 37), (0, 136, 25), (0, 139, 24), (0, 143, 35), (0, 146, 36), (1, 9, 1), (1, 12, 5), (1, 16, 2), (1, 20, 3), (1, 23, 4), (1, 27, 6), (1, 30, 103), (1, 36, 7), (1, 39, 12), (1, 42, 13), (1, 45, 8), (1, 49, 9), (1, 52, 11), (1, 55, 10), (1, 58, 14)]
def KI : List (Nat × Nat × Int) := [(0, 69, 1103515245)]
def KJ : List (Nat × Nat × Int) := []
def ATL : List FieldType := [.int]
def cn (j : Nat) : String := if j = 0 then "ElevatorBank" else "ElevatorBankL7"
def own (m : Nat) : Nat := if m < 100 then 0 else 1
def ini (m : Nat) : Bool := m == 1
def rowsOf (m : Nat) : List Jvm.JX.Row := if m < 100 then prows.getD m [] else lrows.getD (m - 100) []
theorem hFL : ∀ t ∈ FL, t.2.2 ∈ FS ∧ Jvm.Cond.fieldLink (cn t.1) t.2.1 "ElevatorBank" (fn t.2.2).1 (fn t.2.2).2 ∈ tables_1 := (faS ⟨by decide, (List.mem_of_getElem? (i := 10) rfl)⟩ (faS ⟨by decide, (List.mem_of_getElem? (i := 12) rfl)⟩ (faS ⟨by decide, (List.mem_of_getElem? (i := 14) rfl)⟩ (faS ⟨by decide, (List.mem_of_getElem? (i := 16) rfl)⟩ (faS ⟨by decide, (List.mem_of_getElem? (i := 18) rfl)⟩ (faS ⟨by decide, (List.mem_of_getElem? (i := 20) rfl)⟩ (faS ⟨by decide, (List.mem_of_getElem? (i := 22) rfl)⟩ (faS ⟨by decide, (List.mem_of_getElem? (i := 24) rfl)⟩ (faS ⟨by decide, (List.mem_of_getElem? (i := 26) rfl)⟩ (faS ⟨by decide, (List.mem_of_getElem? (i := 28) rfl)⟩ (faS ⟨by decide, (List.mem_of_getElem? (i := 30) rfl)⟩ (faS ⟨by decide, (List.mem_of_getElem? (i := 32) rfl)⟩ (faS ⟨by decide, (List.mem_of_getElem? (i := 34) rfl)⟩ (faS ⟨by decide, (List.mem_of_getElem? (i := 40) rfl)⟩ (faS ⟨by decide, (List.mem_of_getElem? (i := 42) rfl)⟩ (faS ⟨by decide, (List.mem_of_getElem? (i := 44) rfl)⟩ (faS ⟨by decide, (List.mem_of_getElem? (i := 61) rfl)⟩ (faS ⟨by decide, (List.mem_of_getElem? (i := 107) rfl)⟩ (faS ⟨by decide, (List.mem_of_getElem? (i := 51) rfl)⟩ fa0)))))))))))))))))))
theorem hWF : ∀ k ∈ WF, Jvm.Cond.lays "ElevatorBank" "ElevatorBank" (fn k).1 (fn k).2 ∈ tables_1 := (faS (List.mem_of_getElem? (i := 41) rfl) (faS (List.mem_of_getElem? (i := 43) rfl) (faS (List.mem_of_getElem? (i := 45) rfl) (faS (List.mem_of_getElem? (i := 108) rfl) (faS (List.mem_of_getElem? (i := 62) rfl) (faS (List.mem_of_getElem? (i := 52) rfl) (faS (List.mem_of_getElem? (i := 11) rfl) (faS (List.mem_of_getElem? (i := 13) rfl) (faS (List.mem_of_getElem? (i := 15) rfl) (faS (List.mem_of_getElem? (i := 17) rfl) (faS (List.mem_of_getElem? (i := 19) rfl) (faS (List.mem_of_getElem? (i := 21) rfl) (faS (List.mem_of_getElem? (i := 23) rfl) (faS (List.mem_of_getElem? (i := 25) rfl) (faS (List.mem_of_getElem? (i := 27) rfl) (faS (List.mem_of_getElem? (i := 29) rfl) (faS (List.mem_of_getElem? (i := 31) rfl) (faS (List.mem_of_getElem? (i := 33) rfl) (faS (List.mem_of_getElem? (i := 35) rfl) fa0)))))))))))))))))))
theorem hML : ∀ t ∈ ML, t.2.2 ∈ RL ∧ Jvm.Cond.methodLink (cn t.1) t.2.1 (nm t.2.2) ∈ tables_1 := (faS ⟨by decide, (List.mem_of_getElem? (i := 36) rfl)⟩ (faS ⟨by decide, (List.mem_of_getElem? (i := 210) rfl)⟩ (faS ⟨by decide, (List.mem_of_getElem? (i := 53) rfl)⟩ (faS ⟨by decide, (List.mem_of_getElem? (i := 75) rfl)⟩ (faS ⟨by decide, (List.mem_of_getElem? (i := 71) rfl)⟩ (faS ⟨by decide, (List.mem_of_getElem? (i := 200) rfl)⟩ (faS ⟨by decide, (List.mem_of_getElem? (i := 168) rfl)⟩ (faS ⟨by decide, (List.mem_of_getElem? (i := 99) rfl)⟩ (faS ⟨by decide, (List.mem_of_getElem? (i := 103) rfl)⟩ (faS ⟨by decide, (List.mem_of_getElem? (i := 95) rfl)⟩ (faS ⟨by decide, (List.mem_of_getElem? (i := 91) rfl)⟩ (faS ⟨by decide, (List.mem_of_getElem? (i := 57) rfl)⟩ (faS ⟨by decide, (List.mem_of_getElem? (i := 63) rfl)⟩ (faS ⟨by decide, (List.mem_of_getElem? (i := 79) rfl)⟩ (faS ⟨by decide, (List.mem_of_getElem? (i := 67) rfl)⟩ (faS ⟨by decide, (List.mem_of_getElem? (i := 172) rfl)⟩ (faS ⟨by decide, (List.mem_of_getElem? (i := 83) rfl)⟩ (faS ⟨by decide, (List.mem_of_getElem? (i := 180) rfl)⟩ (faS ⟨by decide, (List.mem_of_getElem? (i := 184) rfl)⟩ (faS ⟨by decide, (List.mem_of_getElem? (i := 196) rfl)⟩ (faS ⟨by decide, (List.mem_of_getElem? (i := 87) rfl)⟩ (faS ⟨by decide, (List.mem_of_getElem? (i := 176) rfl)⟩ (faS ⟨by decide, (List.mem_of_getElem? (i := 188) rfl)⟩ (faS ⟨by decide, (List.mem_of_getElem? (i := 192) rfl)⟩ (faS ⟨by decide, (List.mem_of_getElem? (i := 3) rfl)⟩ (faS ⟨by decide, (List.mem_of_getElem? (i := 123) rfl)⟩ (faS ⟨by decide, (List.mem_of_getElem? (i := 114) rfl)⟩ (faS ⟨by decide, (List.mem_of_getElem? (i := 204) rfl)⟩ (faS ⟨by decide, (List.mem_of_getElem? (i := 46) rfl)⟩ (faS ⟨by decide, (List.mem_of_getElem? (i := 109) rfl)⟩ (faS ⟨by decide, (List.mem_of_getElem? (i := 119) rfl)⟩ (faS ⟨by decide, (List.mem_of_getElem? (i := 128) rfl)⟩ (faS ⟨by decide, (List.mem_of_getElem? (i := 133) rfl)⟩ (faS ⟨by decide, (List.mem_of_getElem? (i := 138) rfl)⟩ (faS ⟨by decide, (List.mem_of_getElem? (i := 143) rfl)⟩ (faS ⟨by decide, (List.mem_of_getElem? (i := 148) rfl)⟩ (faS ⟨by decide, (List.mem_of_getElem? (i := 153) rfl)⟩ (faS ⟨by decide, (List.mem_of_getElem? (i := 158) rfl)⟩ (faS ⟨by decide, (List.mem_of_getElem? (i := 163) rfl)⟩ fa0)))))))))))))))))))))))))))))))))))))))
theorem hKI : ∀ t ∈ KI, Jvm.Cond.constant (cn t.1) t.2.1 (Int32.ofInt t.2.2) ∈ tables_1 := (faS (List.mem_of_getElem? (i := 209) rfl) fa0)
theorem hKJ : ∀ t ∈ KJ, Jvm.Cond.constantLong (cn t.1) t.2.1 (Int64.ofInt t.2.2) ∈ tables_1 := fa0
theorem hAT : ∀ t ∈ ATL, Jvm.Cond.arrayClass t ∈ tables_1 := (faS (List.mem_of_getElem? (i := 9) rfl) fa0)
theorem hrows : RL.all (fun m => (rowsOf m).all (rowOne FL ML KI KJ ATL WF 19 7 bt own ini m)) = true := by decide +kernel
theorem cal1 : CalOk (pj lw) tables_1 "ElevatorBank" nm bt 1 := ⟨(List.mem_of_getElem? (i := 5) rfl), (List.mem_of_getElem? (i := 2) rfl), ⟨[.int, .int, .int], none, by decide +kernel, rfl⟩, fun h => absurd h (by decide), fun _ => ⟨rfl, (List.mem_of_getElem? (i := 4) rfl)⟩, fun h => absurd h (by decide), fun h => absurd h (by decide), fun _ => ⟨rfl, rfl⟩⟩
theorem cal2 : CalOk (pj lw) tables_1 "ElevatorBank" nm bt 2 := ⟨(List.mem_of_getElem? (i := 118) rfl), (List.mem_of_getElem? (i := 2) rfl), ⟨[.int, .int, .int], some .int, by decide +kernel, rfl⟩, fun h => absurd h (by decide), fun _ => ⟨rfl, (List.mem_of_getElem? (i := 116) rfl)⟩, fun _ => ⟨(List.mem_of_getElem? (i := 115) rfl), (List.mem_of_getElem? (i := 117) rfl)⟩, fun h => absurd h (by decide), fun h => absurd h (by decide)⟩
theorem cal3 : CalOk (pj lw) tables_1 "ElevatorBank" nm bt 3 := ⟨(List.mem_of_getElem? (i := 208) rfl), (List.mem_of_getElem? (i := 2) rfl), ⟨[.int, .int, .int], some .int, by decide +kernel, rfl⟩, fun h => absurd h (by decide), fun _ => ⟨rfl, (List.mem_of_getElem? (i := 206) rfl)⟩, fun _ => ⟨(List.mem_of_getElem? (i := 205) rfl), (List.mem_of_getElem? (i := 207) rfl)⟩, fun h => absurd h (by decide), fun h => absurd h (by decide)⟩
theorem cal4 : CalOk (pj lw) tables_1 "ElevatorBank" nm bt 4 := ⟨(List.mem_of_getElem? (i := 50) rfl), (List.mem_of_getElem? (i := 2) rfl), ⟨[.int], some .int, by decide +kernel, rfl⟩, fun h => absurd h (by decide), fun _ => ⟨rfl, (List.mem_of_getElem? (i := 48) rfl)⟩, fun _ => ⟨(List.mem_of_getElem? (i := 47) rfl), (List.mem_of_getElem? (i := 49) rfl)⟩, fun h => absurd h (by decide), fun h => absurd h (by decide)⟩
theorem cal5 : CalOk (pj lw) tables_1 "ElevatorBank" nm bt 5 := ⟨(List.mem_of_getElem? (i := 127) rfl), (List.mem_of_getElem? (i := 2) rfl), ⟨[], some .int, by decide +kernel, rfl⟩, fun h => absurd h (by decide), fun _ => ⟨rfl, (List.mem_of_getElem? (i := 125) rfl)⟩, fun _ => ⟨(List.mem_of_getElem? (i := 124) rfl), (List.mem_of_getElem? (i := 126) rfl)⟩, fun h => absurd h (by decide), fun h => absurd h (by decide)⟩
theorem cal6 : CalOk (pj lw) tables_1 "ElevatorBank" nm bt 6 := ⟨(List.mem_of_getElem? (i := 113) rfl), (List.mem_of_getElem? (i := 2) rfl), ⟨[], some .int, by decide +kernel, rfl⟩, fun h => absurd h (by decide), fun _ => ⟨rfl, (List.mem_of_getElem? (i := 111) rfl)⟩, fun _ => ⟨(List.mem_of_getElem? (i := 110) rfl), (List.mem_of_getElem? (i := 112) rfl)⟩, fun h => absurd h (by decide), fun h => absurd h (by decide)⟩
theorem cal7 : CalOk (pj lw) tables_1 "ElevatorBank" nm bt 7 := ⟨(List.mem_of_getElem? (i := 132) rfl), (List.mem_of_getElem? (i := 2) rfl), ⟨[], some .int, by decide +kernel, rfl⟩, fun h => absurd h (by decide), fun _ => ⟨rfl, (List.mem_of_getElem? (i := 130) rfl)⟩, fun _ => ⟨(List.mem_of_getElem? (i := 129) rfl), (List.mem_of_getElem? (i := 131) rfl)⟩, fun h => absurd h (by decide), fun h => absurd h (by decide)⟩
theorem cal8 : CalOk (pj lw) tables_1 "ElevatorBank" nm bt 8 := ⟨(List.mem_of_getElem? (i := 147) rfl), (List.mem_of_getElem? (i := 2) rfl), ⟨[.int, .int], some .int, by decide +kernel, rfl⟩, fun h => absurd h (by decide), fun _ => ⟨rfl, (List.mem_of_getElem? (i := 145) rfl)⟩, fun _ => ⟨(List.mem_of_getElem? (i := 144) rfl), (List.mem_of_getElem? (i := 146) rfl)⟩, fun h => absurd h (by decide), fun h => absurd h (by decide)⟩
theorem cal9 : CalOk (pj lw) tables_1 "ElevatorBank" nm bt 9 := ⟨(List.mem_of_getElem? (i := 152) rfl), (List.mem_of_getElem? (i := 2) rfl), ⟨[.int, .int], some .int, by decide +kernel, rfl⟩, fun h => absurd h (by decide), fun _ => ⟨rfl, (List.mem_of_getElem? (i := 150) rfl)⟩, fun _ => ⟨(List.mem_of_getElem? (i := 149) rfl), (List.mem_of_getElem? (i := 151) rfl)⟩, fun h => absurd h (by decide), fun h => absurd h (by decide)⟩
theorem cal10 : CalOk (pj lw) tables_1 "ElevatorBank" nm bt 10 := ⟨(List.mem_of_getElem? (i := 162) rfl), (List.mem_of_getElem? (i := 2) rfl), ⟨[.int, .int], some .int, by decide +kernel, rfl⟩, fun h => absurd h (by decide), fun _ => ⟨rfl, (List.mem_of_getElem? (i := 160) rfl)⟩, fun _ => ⟨(List.mem_of_getElem? (i := 159) rfl), (List.mem_of_getElem? (i := 161) rfl)⟩, fun h => absurd h (by decide), fun h => absurd h (by decide)⟩
theorem cal11 : CalOk (pj lw) tables_1 "ElevatorBank" nm bt 11 := ⟨(List.mem_of_getElem? (i := 157) rfl), (List.mem_of_getElem? (i := 2) rfl), ⟨[.int], some .int, by decide +kernel, rfl⟩, fun h => absurd h (by decide), fun _ => ⟨rfl, (List.mem_of_getElem? (i := 155) rfl)⟩, fun _ => ⟨(List.mem_of_getElem? (i := 154) rfl), (List.mem_of_getElem? (i := 156) rfl)⟩, fun h => absurd h (by decide), fun h => absurd h (by decide)⟩
theorem cal12 : CalOk (pj lw) tables_1 "ElevatorBank" nm bt 12 := ⟨(List.mem_of_getElem? (i := 137) rfl), (List.mem_of_getElem? (i := 2) rfl), ⟨[], some .int, by decide +kernel, rfl⟩, fun h => absurd h (by decide), fun _ => ⟨rfl, (List.mem_of_getElem? (i := 135) rfl)⟩, fun _ => ⟨(List.mem_of_getElem? (i := 134) rfl), (List.mem_of_getElem? (i := 136) rfl)⟩, fun h => absurd h (by decide), fun h => absurd h (by decide)⟩
theorem cal13 : CalOk (pj lw) tables_1 "ElevatorBank" nm bt 13 := ⟨(List.mem_of_getElem? (i := 142) rfl), (List.mem_of_getElem? (i := 2) rfl), ⟨[], some .int, by decide +kernel, rfl⟩, fun h => absurd h (by decide), fun _ => ⟨rfl, (List.mem_of_getElem? (i := 140) rfl)⟩, fun _ => ⟨(List.mem_of_getElem? (i := 139) rfl), (List.mem_of_getElem? (i := 141) rfl)⟩, fun h => absurd h (by decide), fun h => absurd h (by decide)⟩
theorem cal14 : CalOk (pj lw) tables_1 "ElevatorBank" nm bt 14 := ⟨(List.mem_of_getElem? (i := 167) rfl), (List.mem_of_getElem? (i := 2) rfl), ⟨[.int, .int], some .int, by decide +kernel, rfl⟩, fun h => absurd h (by decide), fun _ => ⟨rfl, (List.mem_of_getElem? (i := 165) rfl)⟩, fun _ => ⟨(List.mem_of_getElem? (i := 164) rfl), (List.mem_of_getElem? (i := 166) rfl)⟩, fun h => absurd h (by decide), fun h => absurd h (by decide)⟩
theorem cal15 : CalOk (pj lw) tables_1 "ElevatorBank" nm bt 15 := ⟨(List.mem_of_getElem? (i := 39) rfl), (List.mem_of_getElem? (i := 2) rfl), ⟨[.int, .int, .int], some .int, by decide +kernel, rfl⟩, fun h => absurd h (by decide), fun _ => ⟨rfl, (List.mem_of_getElem? (i := 37) rfl)⟩, fun h => absurd h (by decide), fun _ => (List.mem_of_getElem? (i := 38) rfl), fun h => absurd h (by decide)⟩
theorem cal16 : CalOk (pj lw) tables_1 "ElevatorBank" nm bt 16 := ⟨(List.mem_of_getElem? (i := 203) rfl), (List.mem_of_getElem? (i := 2) rfl), ⟨[.int], some .int, by decide +kernel, rfl⟩, fun h => absurd h (by decide), fun _ => ⟨rfl, (List.mem_of_getElem? (i := 201) rfl)⟩, fun h => absurd h (by decide), fun _ => (List.mem_of_getElem? (i := 202) rfl), fun h => absurd h (by decide)⟩
theorem cal17 : CalOk (pj lw) tables_1 "ElevatorBank" nm bt 17 := ⟨(List.mem_of_getElem? (i := 171) rfl), (List.mem_of_getElem? (i := 2) rfl), ⟨[.int], some .int, by decide +kernel, rfl⟩, fun h => absurd h (by decide), fun _ => ⟨rfl, (List.mem_of_getElem? (i := 169) rfl)⟩, fun h => absurd h (by decide), fun _ => (List.mem_of_getElem? (i := 170) rfl), fun h => absurd h (by decide)⟩
theorem cal18 : CalOk (pj lw) tables_1 "ElevatorBank" nm bt 18 := ⟨(List.mem_of_getElem? (i := 74) rfl), (List.mem_of_getElem? (i := 2) rfl), ⟨[.int, .int], some .int, by decide +kernel, rfl⟩, fun h => absurd h (by decide), fun _ => ⟨rfl, (List.mem_of_getElem? (i := 72) rfl)⟩, fun h => absurd h (by decide), fun _ => (List.mem_of_getElem? (i := 73) rfl), fun h => absurd h (by decide)⟩
theorem cal19 : CalOk (pj lw) tables_1 "ElevatorBank" nm bt 19 := ⟨(List.mem_of_getElem? (i := 78) rfl), (List.mem_of_getElem? (i := 2) rfl), ⟨[.int, .int], some .boolean, by decide +kernel, rfl⟩, fun h => absurd h (by decide), fun _ => ⟨rfl, (List.mem_of_getElem? (i := 76) rfl)⟩, fun h => absurd h (by decide), fun _ => (List.mem_of_getElem? (i := 77) rfl), fun h => absurd h (by decide)⟩
theorem cal20 : CalOk (pj lw) tables_1 "ElevatorBank" nm bt 20 := ⟨(List.mem_of_getElem? (i := 106) rfl), (List.mem_of_getElem? (i := 2) rfl), ⟨[.int, .int, .int], some .boolean, by decide +kernel, rfl⟩, fun h => absurd h (by decide), fun _ => ⟨rfl, (List.mem_of_getElem? (i := 104) rfl)⟩, fun h => absurd h (by decide), fun _ => (List.mem_of_getElem? (i := 105) rfl), fun h => absurd h (by decide)⟩
theorem cal21 : CalOk (pj lw) tables_1 "ElevatorBank" nm bt 21 := ⟨(List.mem_of_getElem? (i := 102) rfl), (List.mem_of_getElem? (i := 2) rfl), ⟨[.int, .int], some .boolean, by decide +kernel, rfl⟩, fun h => absurd h (by decide), fun _ => ⟨rfl, (List.mem_of_getElem? (i := 100) rfl)⟩, fun h => absurd h (by decide), fun _ => (List.mem_of_getElem? (i := 101) rfl), fun h => absurd h (by decide)⟩
theorem cal22 : CalOk (pj lw) tables_1 "ElevatorBank" nm bt 22 := ⟨(List.mem_of_getElem? (i := 98) rfl), (List.mem_of_getElem? (i := 2) rfl), ⟨[.int, .int], some .boolean, by decide +kernel, rfl⟩, fun h => absurd h (by decide), fun _ => ⟨rfl, (List.mem_of_getElem? (i := 96) rfl)⟩, fun h => absurd h (by decide), fun _ => (List.mem_of_getElem? (i := 97) rfl), fun h => absurd h (by decide)⟩
theorem cal23 : CalOk (pj lw) tables_1 "ElevatorBank" nm bt 23 := ⟨(List.mem_of_getElem? (i := 94) rfl), (List.mem_of_getElem? (i := 2) rfl), ⟨[.int, .int], some .boolean, by decide +kernel, rfl⟩, fun h => absurd h (by decide), fun _ => ⟨rfl, (List.mem_of_getElem? (i := 92) rfl)⟩, fun h => absurd h (by decide), fun _ => (List.mem_of_getElem? (i := 93) rfl), fun h => absurd h (by decide)⟩
theorem cal24 : CalOk (pj lw) tables_1 "ElevatorBank" nm bt 24 := ⟨(List.mem_of_getElem? (i := 179) rfl), (List.mem_of_getElem? (i := 2) rfl), ⟨[.int], some .boolean, by decide +kernel, rfl⟩, fun h => absurd h (by decide), fun _ => ⟨rfl, (List.mem_of_getElem? (i := 177) rfl)⟩, fun h => absurd h (by decide), fun _ => (List.mem_of_getElem? (i := 178) rfl), fun h => absurd h (by decide)⟩
theorem cal25 : CalOk (pj lw) tables_1 "ElevatorBank" nm bt 25 := ⟨(List.mem_of_getElem? (i := 90) rfl), (List.mem_of_getElem? (i := 2) rfl), ⟨[.int], some .int, by decide +kernel, rfl⟩, fun h => absurd h (by decide), fun _ => ⟨rfl, (List.mem_of_getElem? (i := 88) rfl)⟩, fun h => absurd h (by decide), fun _ => (List.mem_of_getElem? (i := 89) rfl), fun h => absurd h (by decide)⟩
theorem cal26 : CalOk (pj lw) tables_1 "ElevatorBank" nm bt 26 := ⟨(List.mem_of_getElem? (i := 56) rfl), (List.mem_of_getElem? (i := 2) rfl), ⟨[], none, by decide +kernel, rfl⟩, fun h => absurd h (by decide), fun _ => ⟨rfl, (List.mem_of_getElem? (i := 54) rfl)⟩, fun h => absurd h (by decide), fun _ => (List.mem_of_getElem? (i := 55) rfl), fun h => absurd h (by decide)⟩
theorem cal27 : CalOk (pj lw) tables_1 "ElevatorBank" nm bt 27 := ⟨(List.mem_of_getElem? (i := 60) rfl), (List.mem_of_getElem? (i := 2) rfl), ⟨[], none, by decide +kernel, rfl⟩, fun h => absurd h (by decide), fun _ => ⟨rfl, (List.mem_of_getElem? (i := 58) rfl)⟩, fun h => absurd h (by decide), fun _ => (List.mem_of_getElem? (i := 59) rfl), fun h => absurd h (by decide)⟩
theorem cal28 : CalOk (pj lw) tables_1 "ElevatorBank" nm bt 28 := ⟨(List.mem_of_getElem? (i := 66) rfl), (List.mem_of_getElem? (i := 2) rfl), ⟨[], none, by decide +kernel, rfl⟩, fun h => absurd h (by decide), fun _ => ⟨rfl, (List.mem_of_getElem? (i := 64) rfl)⟩, fun h => absurd h (by decide), fun _ => (List.mem_of_getElem? (i := 65) rfl), fun h => absurd h (by decide)⟩
theorem cal29 : CalOk (pj lw) tables_1 "ElevatorBank" nm bt 29 := ⟨(List.mem_of_getElem? (i := 70) rfl), (List.mem_of_getElem? (i := 2) rfl), ⟨[.int, .int], none, by decide +kernel, rfl⟩, fun h => absurd h (by decide), fun _ => ⟨rfl, (List.mem_of_getElem? (i := 68) rfl)⟩, fun h => absurd h (by decide), fun _ => (List.mem_of_getElem? (i := 69) rfl), fun h => absurd h (by decide)⟩
theorem cal30 : CalOk (pj lw) tables_1 "ElevatorBank" nm bt 30 := ⟨(List.mem_of_getElem? (i := 175) rfl), (List.mem_of_getElem? (i := 2) rfl), ⟨[.int, .int, .int], some .int, by decide +kernel, rfl⟩, fun h => absurd h (by decide), fun _ => ⟨rfl, (List.mem_of_getElem? (i := 173) rfl)⟩, fun h => absurd h (by decide), fun _ => (List.mem_of_getElem? (i := 174) rfl), fun h => absurd h (by decide)⟩
theorem cal31 : CalOk (pj lw) tables_1 "ElevatorBank" nm bt 31 := ⟨(List.mem_of_getElem? (i := 82) rfl), (List.mem_of_getElem? (i := 2) rfl), ⟨[.int], none, by decide +kernel, rfl⟩, fun h => absurd h (by decide), fun _ => ⟨rfl, (List.mem_of_getElem? (i := 80) rfl)⟩, fun h => absurd h (by decide), fun _ => (List.mem_of_getElem? (i := 81) rfl), fun h => absurd h (by decide)⟩
theorem cal32 : CalOk (pj lw) tables_1 "ElevatorBank" nm bt 32 := ⟨(List.mem_of_getElem? (i := 86) rfl), (List.mem_of_getElem? (i := 2) rfl), ⟨[.int], none, by decide +kernel, rfl⟩, fun h => absurd h (by decide), fun _ => ⟨rfl, (List.mem_of_getElem? (i := 84) rfl)⟩, fun h => absurd h (by decide), fun _ => (List.mem_of_getElem? (i := 85) rfl), fun h => absurd h (by decide)⟩
theorem cal33 : CalOk (pj lw) tables_1 "ElevatorBank" nm bt 33 := ⟨(List.mem_of_getElem? (i := 183) rfl), (List.mem_of_getElem? (i := 2) rfl), ⟨[.int], none, by decide +kernel, rfl⟩, fun h => absurd h (by decide), fun _ => ⟨rfl, (List.mem_of_getElem? (i := 181) rfl)⟩, fun h => absurd h (by decide), fun _ => (List.mem_of_getElem? (i := 182) rfl), fun h => absurd h (by decide)⟩
theorem cal34 : CalOk (pj lw) tables_1 "ElevatorBank" nm bt 34 := ⟨(List.mem_of_getElem? (i := 187) rfl), (List.mem_of_getElem? (i := 2) rfl), ⟨[.int], none, by decide +kernel, rfl⟩, fun h => absurd h (by decide), fun _ => ⟨rfl, (List.mem_of_getElem? (i := 185) rfl)⟩, fun h => absurd h (by decide), fun _ => (List.mem_of_getElem? (i := 186) rfl), fun h => absurd h (by decide)⟩
theorem cal35 : CalOk (pj lw) tables_1 "ElevatorBank" nm bt 35 := ⟨(List.mem_of_getElem? (i := 191) rfl), (List.mem_of_getElem? (i := 2) rfl), ⟨[.int], some .boolean, by decide +kernel, rfl⟩, fun h => absurd h (by decide), fun _ => ⟨rfl, (List.mem_of_getElem? (i := 189) rfl)⟩, fun h => absurd h (by decide), fun _ => (List.mem_of_getElem? (i := 190) rfl), fun h => absurd h (by decide)⟩
theorem cal36 : CalOk (pj lw) tables_1 "ElevatorBank" nm bt 36 := ⟨(List.mem_of_getElem? (i := 195) rfl), (List.mem_of_getElem? (i := 2) rfl), ⟨[.int, .int], some .boolean, by decide +kernel, rfl⟩, fun h => absurd h (by decide), fun _ => ⟨rfl, (List.mem_of_getElem? (i := 193) rfl)⟩, fun h => absurd h (by decide), fun _ => (List.mem_of_getElem? (i := 194) rfl), fun h => absurd h (by decide)⟩
theorem cal37 : CalOk (pj lw) tables_1 "ElevatorBank" nm bt 37 := ⟨(List.mem_of_getElem? (i := 199) rfl), (List.mem_of_getElem? (i := 2) rfl), ⟨[.int], none, by decide +kernel, rfl⟩, fun h => absurd h (by decide), fun _ => ⟨rfl, (List.mem_of_getElem? (i := 197) rfl)⟩, fun h => absurd h (by decide), fun _ => (List.mem_of_getElem? (i := 198) rfl), fun h => absurd h (by decide)⟩
theorem cal103 : CalOk (pj lw) tables_1 "ElevatorBank" nm bt 103 := ⟨(List.mem_of_getElem? (i := 122) rfl), (List.mem_of_getElem? (i := 121) rfl), ⟨[.object "ElevatorBank", .object "ElevatorBank"], some .boolean, by decide +kernel, rfl⟩, fun _ => (List.mem_of_getElem? (i := 120) rfl), fun h => absurd rfl h, fun h => absurd h (by decide), fun h => absurd h (by decide), fun h => absurd h (by decide)⟩
theorem hcal : ∀ m ∈ RL, m ≠ 100 → CalOk (pj lw) tables_1 "ElevatorBank" nm bt m := (faS (fun _ => cal1) (faS (fun _ => cal2) (faS (fun _ => cal3) (faS (fun _ => cal4) (faS (fun _ => cal5) (faS (fun _ => cal6) (faS (fun _ => cal7) (faS (fun _ => cal8) (faS (fun _ => cal9) (faS (fun _ => cal10) (faS (fun _ => cal11) (faS (fun _ => cal12) (faS (fun _ => cal13) (faS (fun _ => cal14) (faS (fun _ => cal15) (faS (fun _ => cal16) (faS (fun _ => cal17) (faS (fun _ => cal18) (faS (fun _ => cal19) (faS (fun _ => cal20) (faS (fun _ => cal21) (faS (fun _ => cal22) (faS (fun _ => cal23) (faS (fun _ => cal24) (faS (fun _ => cal25) (faS (fun _ => cal26) (faS (fun _ => cal27) (faS (fun _ => cal28) (faS (fun _ => cal29) (faS (fun _ => cal30) (faS (fun _ => cal31) (faS (fun _ => cal32) (faS (fun _ => cal33) (faS (fun _ => cal34) (faS (fun _ => cal35) (faS (fun _ => cal36) (faS (fun _ => cal37) (faS (fun h => absurd rfl h) (faS (fun _ => cal103) fa0)))))))))))))))))))))))))))))))))))))))
theorem hfld : ∀ k ∈ FS, parseFieldDescriptor (fn k).2 = some ((pj lw).2.2.1 k) ∧ (Jvm.Cond.lays "ElevatorBank" "ElevatorBank" (fn k).1 (fn k).2 ∈ tables_1 ∨ Jvm.Cond.laysFinal "ElevatorBank" "ElevatorBank" (fn k).1 (fn k).2 ∈ tables_1) := (faS ⟨by decide +kernel, Or.inl (List.mem_of_getElem? (i := 41) rfl)⟩ (faS ⟨by decide +kernel, Or.inl (List.mem_of_getElem? (i := 43) rfl)⟩ (faS ⟨by decide +kernel, Or.inl (List.mem_of_getElem? (i := 45) rfl)⟩ (faS ⟨by decide +kernel, Or.inl (List.mem_of_getElem? (i := 108) rfl)⟩ (faS ⟨by decide +kernel, Or.inl (List.mem_of_getElem? (i := 62) rfl)⟩ (faS ⟨by decide +kernel, Or.inl (List.mem_of_getElem? (i := 52) rfl)⟩ (faS ⟨by decide +kernel, Or.inl (List.mem_of_getElem? (i := 11) rfl)⟩ (faS ⟨by decide +kernel, Or.inl (List.mem_of_getElem? (i := 13) rfl)⟩ (faS ⟨by decide +kernel, Or.inl (List.mem_of_getElem? (i := 15) rfl)⟩ (faS ⟨by decide +kernel, Or.inl (List.mem_of_getElem? (i := 17) rfl)⟩ (faS ⟨by decide +kernel, Or.inl (List.mem_of_getElem? (i := 19) rfl)⟩ (faS ⟨by decide +kernel, Or.inl (List.mem_of_getElem? (i := 21) rfl)⟩ (faS ⟨by decide +kernel, Or.inl (List.mem_of_getElem? (i := 23) rfl)⟩ (faS ⟨by decide +kernel, Or.inl (List.mem_of_getElem? (i := 25) rfl)⟩ (faS ⟨by decide +kernel, Or.inl (List.mem_of_getElem? (i := 27) rfl)⟩ (faS ⟨by decide +kernel, Or.inl (List.mem_of_getElem? (i := 29) rfl)⟩ (faS ⟨by decide +kernel, Or.inl (List.mem_of_getElem? (i := 31) rfl)⟩ (faS ⟨by decide +kernel, Or.inl (List.mem_of_getElem? (i := 33) rfl)⟩ (faS ⟨by decide +kernel, Or.inl (List.mem_of_getElem? (i := 35) rfl)⟩ fa0)))))))))))))))))))
theorem good : Good (pj lw) tables_1 "ElevatorBank" fn FS 19 nm bt RL 100 := by
  refine ⟨(List.mem_of_getElem? (i := 1) rfl), (List.mem_of_getElem? (i := 2) rfl), hfld, by decide +kernel, fun m hm => ?_, hcal, fun m _ pc ins len aux _ _ => by cases ins <;> rfl⟩
  have hpl : plainName "ElevatorBank" = true ∧ plainName "ElevatorBankL7" = true := ⟨by first | (simp [plainName, overriddenIn]; done) | decide +kernel, by first | (simp [plainName, overriddenIn]; done) | decide +kernel⟩
  have hcn : ∀ m ∈ RL, (nm m).cls = cn (own m) := by decide +kernel
  have hin : ∀ m ∈ RL, ini m = true → (nm m).cls = "ElevatorBank" ∧ (nm m).name = "<init>" := by decide +kernel
  have hor : (nm m).cls = "ElevatorBank" ∨ (nm m).cls = "ElevatorBankL7" := by rw [hcn m hm]; unfold cn; split <;> simp
  refine ⟨by rcases hor with h | h <;> rw [h] <;> simp [hpl], by rcases hor with h | h <;> rw [h] <;> decide, fun pc ins len aux h => ?_⟩
  have hmem : (pc, ins, len, aux) ∈ rowsOf m := by
    unfold rowsOf
    by_cases g : m < 100
    · rw [if_pos g]; exact lookup_mem (by simpa [pj, g] using h)
    · rw [if_neg g]; exact lookup_mem (by simpa [pj, lw, g] using h)
  have hrow := List.all_eq_true.mp (List.all_eq_true.mp hrows m hm) _ hmem
  simp only [rowOne, Bool.and_eq_true, decide_eq_true_eq] at hrow
  exact ⟨hrow.1.1, hrow.1.2, row_ok (hcn m hm) (hin m hm) hFL hWF hML hKI hKJ hAT (List.mem_of_getElem? (i := 0) rfl) ⟨(List.mem_of_getElem? (i := 6) rfl), (List.mem_of_getElem? (i := 7) rfl), (List.mem_of_getElem? (i := 8) rfl)⟩ hrow.2⟩
set_option maxRecDepth 65536 in
set_option maxHeartbeats 40000000 in
theorem comes_1 {Post : Tables → Env → Array Value → State → Outcome → State → Prop} (hpost : ∀ tb e args s v u, (limb_1_1.after args s (.returned v) u = true ∧ limb_1_2.after args s (.returned v) u = true ∧ True) → FrameEnd s (.returned v) u (Jvm.fieldLocs frame_1_writes args s ++ Jvm.arrayLocs frame_1_arrays args s ++ Jvm.staticLocs frame_1_statics s) 64 1280 → Post tb e args s (.returned v) u) :
    ArmFor flags0 classFile x code maxLocals ret World_1 tables_1 room_1 Calls_1 rest_1 Pre_1 Post := by
  intro l hfl _ _ p e ha hc hk s m args below hf hA hF happ hP
  obtain ⟨hcalls, hrest, hpre⟩ := hP
  obtain ⟨-, -, -, hnamed, -, -, -, hat⟩ := (Spec.applies_iff hf).mp happ
  obtain ⟨hg, hn⟩ := and_e (Cond.before_iff.mp (show (Jvm.Cond.and given_1 narrow_1).before args s = true from hpre))
  have hw := fun d (hd : d ∈ tables_1) => atoms_spec (ws := Jvm.Cond.code x code maxLocals ret :: tables_1) hat d (List.mem_cons_of_mem _ hd)
  obtain ⟨g0, r0⟩ := and_e hg
  obtain ⟨w0, rfl⟩ : ∃ w0 : Value, args = #[w0] := by
    have hs : args.size = 1 := by simpa [Cond.value, given_1] using g0
    obtain ⟨L⟩ := args
    match L, hs with
    | [w0], _ => exact ⟨w0, rfl⟩
  have hfit : Fit s := fun {y c} hc i hi => by
    obtain ⟨ha, rfl⟩ := Array.getElem?_eq_some_iff.mp hc
    have q := List.all_eq_true.mp ((Array.all_eq_true_iff_forall_mem.mp hF) _ (Array.getElem_mem ha)) i (List.mem_range.mpr hi)
    simpa [Array.getElem?_eq_getElem hi] using q
  obtain ⟨n1, n2⟩ := and_e (show (Jvm.Cond.and (Jvm.Cond.arrayOf (Jvm.Term.arg 0) .int) (Jvm.Cond.le (Jvm.Term.length (Jvm.Term.arg 0)) (Jvm.Term.int 260))).value #[w0] s none s [] = some true from hn)
  obtain ⟨a, ea⟩ := arr_v n1
  obtain rfl : w0 = .ref a := Option.some.inj ea
  obtain ⟨cl, A⟩ := Arr.start ea n1
  have hlen : cl.slots.size < 2 ^ 31 ∧ cl.slots.size ≤ 260 := by
    obtain ⟨x, y, h1, h2, -, -⟩ := cmp_v (Or.inr (Or.inr n2))
    have hA0 := A.fin (Vm.Alike.refl _)
    by_cases hs : cl.slots.size < 2 ^ 31
    · refine ⟨hs, ?_⟩
      have e1 := len_f (args := #[.ref a]) (first := s) (o := none) (idx := []) ea hA0 hs
      have e2 : (Term.int (260 : Int32)).eval #[.ref a] s none [] s = some (.int 260) := rfl
      simp only [Cond.value, e1, e2] at n2
      have n3 : cl.slots.size.toInt32 ≤ (260 : Int32) := by simpa using n2
      rw [Int32.le_iff_toInt_le, len_toInt hs] at n3
      have : ((260 : Int32)).toInt = 260 := by decide
      omega
    · exfalso; simp [Term.eval, hA0, hs, ea] at h1
  obtain ⟨f, hR⟩ := rel_H1 (C := "ElevatorBank") (fn := fn) (F := FS) hfit A hlen.1
  obtain ⟨n, o, h1, h2, h3, _, L, rfl, ⟨N, H2, rfl⟩, hq⟩ := law_met (l := l) (Z := s) (a0 := _) (n0 := s.heap.size) good hw (as := [.ref a]) (h := s.heap) tables_1 (by decide) (by simp [Sym.laidSlots, Value.category]; decide) hR (law_ok s.heap.size a cl.slots.size f A.lt hlen.2) p e ha hc hk s m _ below hf ((Spec.applies_iff_loose hf).mp happ).1 ⟨rfl, State.Warmed39.refl s, rfl⟩ trivial
  exact ⟨n, _, h1, h2, h3, hpost _ _ _ _ _ _ ⟨Cond.after_iff.mpr rfl, Cond.after_iff.mpr (eq_i res_at (Term.int_eval (1)) rfl), trivial⟩ ⟨hq.1, hq.2.1, (hq.2.2.sift fun y hy => Or.inr (N y hy)).mono (by decide) (by decide)⟩⟩
theorem main_1_1 : Claimed_1_1 := comes_1 fun _ _ _ _ _ _ h hF => ⟨h.1, hF⟩
theorem main_1_2 : Claimed_1_2 := comes_1 fun _ _ _ _ _ _ h hF => ⟨h.2.1, hF⟩
end Jvm.Pilot.@@N@@
namespace Jvm.Pilot.@@N@@
open Jvm Jvm.ClassFile Sem Op Lib Jvm.Free Jvm.Stand Jvm.Pilot.@@N@@.Jvm.D
/-! MADE BY PROGRAM (witnessworld.py) out of the Statement's table words and the real class files: 9 classes; the members and pool entries that the words name. The judged class is class 1, her method 1. -/
namespace start1
open Jvm.ClassFile
def u (s : String) : CpInfo := .utf8 (stringToUtf16 s)
/-- a pool by its gaps: so many unusable entries, then the entry; so many at the end -/
def gap : Nat → List CpInfo → List CpInfo
  | 0, r => r
  | n + 1, r => .unusable :: gap n r
def poolList (es : List (Nat × CpInfo)) (last : Nat) : List CpInfo := es.foldr (fun e r => gap e.1 (e.2 :: r)) (gap last [])
def pool (es : List (Nat × CpInfo)) (last : Nat) : Array CpInfo := ⟨poolList es last⟩
def fileOf (pool : Array CpInfo) (this : Nat) (attrs : Array Attribute := #[]) (ms : Array MethodInfo := #[]) (fl : Nat := 33) (sup : Nat := 0) (ifs : Array Nat := #[]) (fds : Array FieldInfo := #[]) : ClassFile where
  minorVersion := 0
  majorVersion := 65
  constantPool := pool
  accessFlags := fl
  thisClass := this
  superClass := sup
  interfaces := ifs
  fields := fds
  methods := ms
  attributes := attrs
def plain (name : String) (sup : Option ClassId) : Class where
  name := name
  kind := .ordinary
  loader := none
  accessFlags := 33
  super := sup
  interfaces := #[]
  cf := none
  fields := #[]
  methods := #[]
  instanceTypes := #[]
  staticTypes := #[]
  resolved := #[]
  callSites := []
  init := .initialized
  statics := none
  mirror := none

def pool0 : Array CpInfo := pool [(5, u "<init>"), (0, u "()V"), (1, .class_ 10), (1, u "java/lang/Object")] 113

def k0c0 : Code := { maxStack := 0, maxLocals := 1, code := object_method_1_code, exceptionTable := #[], attributes := #[] }
def k0m0 : Method := { name := "<init>", desc := "()V", sig := { parameters := [], returnType := none }, accessFlags := 1, code := some k0c0 }
/-- java/lang/Object -/
def k0 : Class := { plain "java/lang/Object" none with
  accessFlags := 33
  interfaces := #[]
  cf := some (fileOf pool0 8 #[] #[{ accessFlags := 1, nameIndex := 5, descriptorIndex := 6, attributes := #[] }] 33 0 #[] #[])
  fields := #[]
  methods := #[k0m0]
  instanceTypes := #[]
  staticTypes := #[]
  resolved := Array.replicate 124 none
  statics := none }

def pool1 : Array CpInfo := pool [(2, .class_ 4), (1, u "java/lang/Object"), (0, u "<init>"), (0, u "()V"), (0, .class_ 8), (0, u "ElevatorBank"), (0, .methodref 7 10), (0, .nameAndType 5 11), (0, u "(III)V"), (0, .methodref 7 13), (0, .nameAndType 14 15), (0, u "now"), (0, u "()I"), (0, .methodref 7 17), (0, .nameAndType 18 19), (0, u "addPassenger"), (0, u "(III)I"), (0, .methodref 7 21), (0, .nameAndType 22 19), (0, u "generate"), (0, .methodref 7 24), (0, .nameAndType 25 26), (0, u "step"), (0, u "(I)I"), (0, .methodref 7 28), (0, .nameAndType 29 15), (0, u "passengers"), (0, .methodref 31 32), (0, .class_ 33), (0, .nameAndType 34 35), (0, u "ElevatorBankL7"), (0, u "same"), (0, u "(LElevatorBank;LElevatorBank;)Z"), (0, .methodref 7 37), (0, .nameAndType 38 15), (0, u "delivered"), (0, .methodref 7 40), (0, .nameAndType 41 15), (0, u "waitSum"), (0, .methodref 7 43), (0, .nameAndType 44 15), (0, u "journeySum"), (0, .methodref 7 46), (0, .nameAndType 47 48), (0, u "car"), (0, u "(II)I"), (0, .methodref 7 50), (0, .nameAndType 51 48), (0, u "passenger"), (0, .methodref 7 53), (0, .nameAndType 54 26), (0, u "waiting"), (0, .methodref 7 56), (0, .nameAndType 57 48), (0, u "hallCall"), (0, .methodref 7 59), (0, .nameAndType 60 48), (0, u "histogram"), (2, u "law"), (0, u "([I)Z")] 5

def k1m0 : Method := { name := "<init>", desc := "()V", sig := { parameters := [], returnType := none }, accessFlags := 1, code := none }
def k1c1 : Code := { maxStack := 5, maxLocals := 16, code := code, exceptionTable := #[], attributes := #[] }
def k1m1 : Method := { name := "law", desc := "([I)Z", sig := { parameters := [(.array .int)], returnType := some .boolean }, accessFlags := 9, code := some k1c1 }
def k1c2 : Code := { maxStack := 5, maxLocals := 3, code := method_3_code, exceptionTable := #[], attributes := #[] }
def k1m2 : Method := { name := "same", desc := "(LElevatorBank;LElevatorBank;)Z", sig := { parameters := [(.object "ElevatorBank"), (.object "ElevatorBank")], returnType := some .boolean }, accessFlags := 10, code := some k1c2 }
/-- ElevatorBankL7 -/
def k1 : Class := { plain "ElevatorBankL7" (some 0) with
  accessFlags := 33
  interfaces := #[]
  cf := some (fileOf pool1 31 #[] #[{ accessFlags := 1, nameIndex := 5, descriptorIndex := 6, attributes := #[] }, { accessFlags := 9, nameIndex := 63, descriptorIndex := 64, attributes := #[] }, { accessFlags := 10, nameIndex := 34, descriptorIndex := 35, attributes := #[] }] 33 2 #[] #[])
  fields := #[]
  methods := #[k1m0, k1m1, k1m2]
  instanceTypes := #[]
  staticTypes := #[]
  resolved := Array.replicate 70 none
  statics := none }

def pool2 : Array CpInfo := pool [(1, .methodref 2 3), (0, .class_ 4), (0, .nameAndType 5 6), (0, u "java/lang/Object"), (0, u "<init>"), (0, u "()V"), (0, .fieldref 8 9), (0, .class_ 10), (0, .nameAndType 11 12), (0, u "ElevatorBank"), (0, u "cFloor"), (0, u "[I"), (0, .fieldref 8 14), (0, .nameAndType 15 12), (0, u "cState"), (0, .fieldref 8 17), (0, .nameAndType 18 12), (0, u "cDir"), (0, .fieldref 8 20), (0, .nameAndType 21 12), (0, u "cLoad"), (0, .fieldref 8 23), (0, .nameAndType 24 12), (0, u "cTimer"), (0, .fieldref 8 26), (0, .nameAndType 27 12), (0, u "pState"), (0, .fieldref 8 29), (0, .nameAndType 30 12), (0, u "pFrom"), (0, .fieldref 8 32), (0, .nameAndType 33 12), (0, u "pTo"), (0, .fieldref 8 35), (0, .nameAndType 36 12), (0, u "pArrive"), (0, .fieldref 8 38), (0, .nameAndType 39 12), (0, u "pBoard"), (0, .fieldref 8 41), (0, .nameAndType 42 12), (0, u "pDeliver"), (0, .fieldref 8 44), (0, .nameAndType 45 12), (0, u "pCar"), (0, .fieldref 8 47), (0, .nameAndType 48 12), (0, u "slot"), (0, .methodref 8 50), (0, .nameAndType 51 52), (0, u "clamp"), (0, u "(III)I"), (0, .fieldref 8 54), (0, .nameAndType 55 56), (0, u "nCars"), (0, u "I"), (0, .fieldref 8 58), (0, .nameAndType 59 56), (0, u "nFloors"), (0, .fieldref 8 61), (0, .nameAndType 62 56), (0, u "cap"), (0, .fieldref 8 64), (0, .nameAndType 65 56), (0, u "pCount"), (0, .fieldref 8 67), (0, .nameAndType 68 56), (0, u "nowT"), (0, .integer 1103515245), (0, .methodref 8 71), (0, .nameAndType 72 52), (0, u "addPassenger"), (0, .fieldref 8 74), (0, .nameAndType 75 56), (0, u "deliveredInCall"), (0, .methodref 8 77), (0, .nameAndType 78 6), (0, u "tick"), (0, .methodref 8 80), (0, .nameAndType 81 82), (0, u "waitingDir"), (0, u "(II)Z"), (0, .methodref 8 84), (0, .nameAndType 85 86), (0, u "slotIndex"), (0, u "(II)I"), (0, .methodref 8 88), (0, .nameAndType 89 90), (0, u "bucketOf"), (0, u "(I)I"), (0, .methodref 8 92), (0, .nameAndType 93 90), (0, u "direction"), (0, .methodref 8 95), (0, .nameAndType 96 82), (0, u "ridingTo"), (0, .methodref 8 98), (0, .nameAndType 99 100), (0, u "assigned"), (0, u "(III)Z"), (0, .methodref 8 102), (0, .nameAndType 103 82), (0, u "isTarget"), (0, .methodref 8 105), (0, .nameAndType 106 82), (0, u "beyond"), (0, .methodref 8 108), (0, .nameAndType 109 6), (0, u "arrivals"), (0, .methodref 8 111), (0, .nameAndType 112 6), (0, u "dispatch"), (0, .methodref 8 114), (0, .nameAndType 115 116), (0, u "runCar"), (0, u "(I)V"), (0, .methodref 8 118), (0, .nameAndType 119 120), (0, u "assignCall"), (0, u "(II)V"), (0, .methodref 8 122), (0, .nameAndType 123 52), (0, u "eta"), (0, .methodref 8 125), (0, .nameAndType 126 116), (0, u "stepStopped"), (0, .methodref 8 128), (0, .nameAndType 129 116), (0, u "stepMoving"), (0, .methodref 8 131), (0, .nameAndType 132 116), (0, u "stepOpen"), (0, .methodref 8 134), (0, .nameAndType 135 116), (0, u "stepClosing"), (0, .methodref 8 137), (0, .nameAndType 138 90), (0, u "choose"), (0, .methodref 8 140), (0, .nameAndType 141 142), (0, u "room"), (0, u "(I)Z"), (0, .methodref 8 144), (0, .nameAndType 145 142), (0, u "deliverAt"), (0, .methodref 8 147), (0, .nameAndType 148 82), (0, u "boardAt"), (0, u "UP"), (2, u "DOWN"), (1, u "INVALID"), (1, u "ERR_FULL"), (0, u "ERR_FLOOR"), (1, u "ERR_TIME"), (1, u "STOPPED"), (1, u "OPEN"), (0, u "CLOSING"), (1, u "MOVING"), (1, u "C_FLOOR"), (0, u "C_STATE"), (0, u "C_DIR"), (0, u "C_LOAD"), (0, u "C_TIMER"), (1, u "P_STATE"), (0, u "P_FROM"), (0, u "P_TO"), (0, u "P_ARRIVE"), (0, u "P_BOARD"), (0, u "P_DELIVER"), (1, u "P_CAR"), (1, u "SCHEDULED"), (0, u "WAITING"), (0, u "RIDING"), (0, u "DELIVERED"), (0, u "WAIT"), (0, u "JOURNEY"), (0, u "DWELL"), (0, u "START"), (0, u "CRUISE"), (0, u "FULL_PENALTY"), (1, u "MAX_PASSENGERS"), (1, u "(III)V"), (3, u "generate"), (0, u "step"), (0, u "now"), (0, u "()I"), (0, u "passengers"), (0, u "delivered"), (0, u "car"), (0, u "passenger"), (0, u "hallCall"), (0, u "waiting"), (0, u "waitSum"), (0, u "journeySum"), (0, u "histogram")] 2

def k2c0 : Code := { maxStack := 5, maxLocals := 5, code := prog_1_method_1_code, exceptionTable := #[], attributes := #[] }
def k2m0 : Method := { name := "<init>", desc := "(III)V", sig := { parameters := [.int, .int, .int], returnType := none }, accessFlags := 1, code := some k2c0 }
def k2c1 : Code := { maxStack := 3, maxLocals := 5, code := prog_1_method_2_code, exceptionTable := #[], attributes := #[] }
def k2m1 : Method := { name := "addPassenger", desc := "(III)I", sig := { parameters := [.int, .int, .int], returnType := some .int }, accessFlags := 1, code := some k2c1 }
def k2c2 : Code := { maxStack := 4, maxLocals := 15, code := prog_1_method_3_code, exceptionTable := #[], attributes := #[] }
def k2m2 : Method := { name := "generate", desc := "(III)I", sig := { parameters := [.int, .int, .int], returnType := some .int }, accessFlags := 1, code := some k2c2 }
def k2c3 : Code := { maxStack := 4, maxLocals := 4, code := prog_1_method_4_code, exceptionTable := #[], attributes := #[] }
def k2m3 : Method := { name := "step", desc := "(I)I", sig := { parameters := [.int], returnType := some .int }, accessFlags := 1, code := some k2c3 }
def k2c4 : Code := { maxStack := 1, maxLocals := 1, code := prog_1_method_5_code, exceptionTable := #[], attributes := #[] }
def k2m4 : Method := { name := "now", desc := "()I", sig := { parameters := [], returnType := some .int }, accessFlags := 1, code := some k2c4 }
def k2c5 : Code := { maxStack := 1, maxLocals := 1, code := prog_1_method_6_code, exceptionTable := #[], attributes := #[] }
def k2m5 : Method := { name := "passengers", desc := "()I", sig := { parameters := [], returnType := some .int }, accessFlags := 1, code := some k2c5 }
def k2c6 : Code := { maxStack := 2, maxLocals := 3, code := prog_1_method_7_code, exceptionTable := #[], attributes := #[] }
def k2m6 : Method := { name := "delivered", desc := "()I", sig := { parameters := [], returnType := some .int }, accessFlags := 1, code := some k2c6 }
def k2c7 : Code := { maxStack := 2, maxLocals := 3, code := prog_1_method_8_code, exceptionTable := #[], attributes := #[] }
def k2m7 : Method := { name := "car", desc := "(II)I", sig := { parameters := [.int, .int], returnType := some .int }, accessFlags := 1, code := some k2c7 }
def k2c8 : Code := { maxStack := 2, maxLocals := 3, code := prog_1_method_9_code, exceptionTable := #[], attributes := #[] }
def k2m8 : Method := { name := "passenger", desc := "(II)I", sig := { parameters := [.int, .int], returnType := some .int }, accessFlags := 1, code := some k2c8 }
def k2c9 : Code := { maxStack := 4, maxLocals := 3, code := prog_1_method_10_code, exceptionTable := #[], attributes := #[] }
def k2m9 : Method := { name := "hallCall", desc := "(II)I", sig := { parameters := [.int, .int], returnType := some .int }, accessFlags := 1, code := some k2c9 }
def k2c10 : Code := { maxStack := 2, maxLocals := 4, code := prog_1_method_11_code, exceptionTable := #[], attributes := #[] }
def k2m10 : Method := { name := "waiting", desc := "(I)I", sig := { parameters := [.int], returnType := some .int }, accessFlags := 1, code := some k2c10 }
def k2c11 : Code := { maxStack := 4, maxLocals := 3, code := prog_1_method_12_code, exceptionTable := #[], attributes := #[] }
def k2m11 : Method := { name := "waitSum", desc := "()I", sig := { parameters := [], returnType := some .int }, accessFlags := 1, code := some k2c11 }
def k2c12 : Code := { maxStack := 4, maxLocals := 3, code := prog_1_method_13_code, exceptionTable := #[], attributes := #[] }
def k2m12 : Method := { name := "journeySum", desc := "()I", sig := { parameters := [], returnType := some .int }, accessFlags := 1, code := some k2c12 }
def k2c13 : Code := { maxStack := 3, maxLocals := 7, code := prog_1_method_14_code, exceptionTable := #[], attributes := #[] }
def k2m13 : Method := { name := "histogram", desc := "(II)I", sig := { parameters := [.int, .int], returnType := some .int }, accessFlags := 1, code := some k2c13 }
def k2c14 : Code := { maxStack := 2, maxLocals := 4, code := prog_1_method_15_code, exceptionTable := #[], attributes := #[] }
def k2m14 : Method := { name := "clamp", desc := "(III)I", sig := { parameters := [.int, .int, .int], returnType := some .int }, accessFlags := 2, code := some k2c14 }
def k2c15 : Code := { maxStack := 2, maxLocals := 2, code := prog_1_method_16_code, exceptionTable := #[], attributes := #[] }
def k2m15 : Method := { name := "bucketOf", desc := "(I)I", sig := { parameters := [.int], returnType := some .int }, accessFlags := 2, code := some k2c15 }
def k2c16 : Code := { maxStack := 3, maxLocals := 2, code := prog_1_method_17_code, exceptionTable := #[], attributes := #[] }
def k2m16 : Method := { name := "direction", desc := "(I)I", sig := { parameters := [.int], returnType := some .int }, accessFlags := 2, code := some k2c16 }
def k2c17 : Code := { maxStack := 3, maxLocals := 3, code := prog_1_method_18_code, exceptionTable := #[], attributes := #[] }
def k2m17 : Method := { name := "slotIndex", desc := "(II)I", sig := { parameters := [.int, .int], returnType := some .int }, accessFlags := 2, code := some k2c17 }
def k2c18 : Code := { maxStack := 2, maxLocals := 4, code := prog_1_method_19_code, exceptionTable := #[], attributes := #[] }
def k2m18 : Method := { name := "waitingDir", desc := "(II)Z", sig := { parameters := [.int, .int], returnType := some .boolean }, accessFlags := 2, code := some k2c18 }
def k2c19 : Code := { maxStack := 4, maxLocals := 4, code := prog_1_method_20_code, exceptionTable := #[], attributes := #[] }
def k2m19 : Method := { name := "assigned", desc := "(III)Z", sig := { parameters := [.int, .int, .int], returnType := some .boolean }, accessFlags := 2, code := some k2c19 }
def k2c20 : Code := { maxStack := 2, maxLocals := 4, code := prog_1_method_21_code, exceptionTable := #[], attributes := #[] }
def k2m20 : Method := { name := "ridingTo", desc := "(II)Z", sig := { parameters := [.int, .int], returnType := some .boolean }, accessFlags := 2, code := some k2c20 }
def k2c21 : Code := { maxStack := 4, maxLocals := 3, code := prog_1_method_22_code, exceptionTable := #[], attributes := #[] }
def k2m21 : Method := { name := "isTarget", desc := "(II)Z", sig := { parameters := [.int, .int], returnType := some .boolean }, accessFlags := 2, code := some k2c21 }
def k2c22 : Code := { maxStack := 3, maxLocals := 6, code := prog_1_method_23_code, exceptionTable := #[], attributes := #[] }
def k2m22 : Method := { name := "beyond", desc := "(II)Z", sig := { parameters := [.int, .int], returnType := some .boolean }, accessFlags := 2, code := some k2c22 }
def k2c23 : Code := { maxStack := 2, maxLocals := 2, code := prog_1_method_24_code, exceptionTable := #[], attributes := #[] }
def k2m23 : Method := { name := "room", desc := "(I)Z", sig := { parameters := [.int], returnType := some .boolean }, accessFlags := 2, code := some k2c23 }
def k2c24 : Code := { maxStack := 3, maxLocals := 4, code := prog_1_method_25_code, exceptionTable := #[], attributes := #[] }
def k2m24 : Method := { name := "choose", desc := "(I)I", sig := { parameters := [.int], returnType := some .int }, accessFlags := 2, code := some k2c24 }
def k2c25 : Code := { maxStack := 3, maxLocals := 2, code := prog_1_method_26_code, exceptionTable := #[], attributes := #[] }
def k2m25 : Method := { name := "tick", desc := "()V", sig := { parameters := [], returnType := none }, accessFlags := 2, code := some k2c25 }
def k2c26 : Code := { maxStack := 3, maxLocals := 2, code := prog_1_method_27_code, exceptionTable := #[], attributes := #[] }
def k2m26 : Method := { name := "arrivals", desc := "()V", sig := { parameters := [], returnType := none }, accessFlags := 2, code := some k2c26 }
def k2c27 : Code := { maxStack := 3, maxLocals := 4, code := prog_1_method_28_code, exceptionTable := #[], attributes := #[] }
def k2m27 : Method := { name := "dispatch", desc := "()V", sig := { parameters := [], returnType := none }, accessFlags := 2, code := some k2c27 }
def k2c28 : Code := { maxStack := 4, maxLocals := 8, code := prog_1_method_29_code, exceptionTable := #[], attributes := #[] }
def k2m28 : Method := { name := "assignCall", desc := "(II)V", sig := { parameters := [.int, .int], returnType := none }, accessFlags := 2, code := some k2c28 }
def k2c29 : Code := { maxStack := 3, maxLocals := 10, code := prog_1_method_30_code, exceptionTable := #[], attributes := #[] }
def k2m29 : Method := { name := "eta", desc := "(III)I", sig := { parameters := [.int, .int, .int], returnType := some .int }, accessFlags := 2, code := some k2c29 }
def k2c30 : Code := { maxStack := 2, maxLocals := 3, code := prog_1_method_31_code, exceptionTable := #[], attributes := #[] }
def k2m30 : Method := { name := "runCar", desc := "(I)V", sig := { parameters := [.int], returnType := none }, accessFlags := 2, code := some k2c30 }
def k2c31 : Code := { maxStack := 3, maxLocals := 3, code := prog_1_method_32_code, exceptionTable := #[], attributes := #[] }
def k2m31 : Method := { name := "stepStopped", desc := "(I)V", sig := { parameters := [.int], returnType := none }, accessFlags := 2, code := some k2c31 }
def k2c32 : Code := { maxStack := 4, maxLocals := 6, code := prog_1_method_33_code, exceptionTable := #[], attributes := #[] }
def k2m32 : Method := { name := "stepMoving", desc := "(I)V", sig := { parameters := [.int], returnType := none }, accessFlags := 2, code := some k2c32 }
def k2c33 : Code := { maxStack := 4, maxLocals := 5, code := prog_1_method_34_code, exceptionTable := #[], attributes := #[] }
def k2m33 : Method := { name := "stepOpen", desc := "(I)V", sig := { parameters := [.int], returnType := none }, accessFlags := 2, code := some k2c33 }
def k2c34 : Code := { maxStack := 4, maxLocals := 5, code := prog_1_method_35_code, exceptionTable := #[], attributes := #[] }
def k2m34 : Method := { name := "deliverAt", desc := "(I)Z", sig := { parameters := [.int], returnType := some .boolean }, accessFlags := 2, code := some k2c34 }
def k2c35 : Code := { maxStack := 4, maxLocals := 6, code := prog_1_method_36_code, exceptionTable := #[], attributes := #[] }
def k2m35 : Method := { name := "boardAt", desc := "(II)Z", sig := { parameters := [.int, .int], returnType := some .boolean }, accessFlags := 2, code := some k2c35 }
def k2c36 : Code := { maxStack := 3, maxLocals := 3, code := prog_1_method_37_code, exceptionTable := #[], attributes := #[] }
def k2m36 : Method := { name := "stepClosing", desc := "(I)V", sig := { parameters := [.int], returnType := none }, accessFlags := 2, code := some k2c36 }
/-- ElevatorBank -/
def k2 : Class := { plain "ElevatorBank" (some 0) with
  accessFlags := 49
  interfaces := #[]
  cf := some (fileOf pool2 8 #[] #[{ accessFlags := 1, nameIndex := 5, descriptorIndex := 196, attributes := #[] }, { accessFlags := 1, nameIndex := 72, descriptorIndex := 52, attributes := #[] }, { accessFlags := 1, nameIndex := 200, descriptorIndex := 52, attributes := #[] }, { accessFlags := 1, nameIndex := 201, descriptorIndex := 90, attributes := #[] }, { accessFlags := 1, nameIndex := 202, descriptorIndex := 203, attributes := #[] }, { accessFlags := 1, nameIndex := 204, descriptorIndex := 203, attributes := #[] }, { accessFlags := 1, nameIndex := 205, descriptorIndex := 203, attributes := #[] }, { accessFlags := 1, nameIndex := 206, descriptorIndex := 86, attributes := #[] }, { accessFlags := 1, nameIndex := 207, descriptorIndex := 86, attributes := #[] }, { accessFlags := 1, nameIndex := 208, descriptorIndex := 86, attributes := #[] }, { accessFlags := 1, nameIndex := 209, descriptorIndex := 90, attributes := #[] }, { accessFlags := 1, nameIndex := 210, descriptorIndex := 203, attributes := #[] }, { accessFlags := 1, nameIndex := 211, descriptorIndex := 203, attributes := #[] }, { accessFlags := 1, nameIndex := 212, descriptorIndex := 86, attributes := #[] }, { accessFlags := 2, nameIndex := 51, descriptorIndex := 52, attributes := #[] }, { accessFlags := 2, nameIndex := 89, descriptorIndex := 90, attributes := #[] }, { accessFlags := 2, nameIndex := 93, descriptorIndex := 90, attributes := #[] }, { accessFlags := 2, nameIndex := 85, descriptorIndex := 86, attributes := #[] }, { accessFlags := 2, nameIndex := 81, descriptorIndex := 82, attributes := #[] }, { accessFlags := 2, nameIndex := 99, descriptorIndex := 100, attributes := #[] }, { accessFlags := 2, nameIndex := 96, descriptorIndex := 82, attributes := #[] }, { accessFlags := 2, nameIndex := 103, descriptorIndex := 82, attributes := #[] }, { accessFlags := 2, nameIndex := 106, descriptorIndex := 82, attributes := #[] }, { accessFlags := 2, nameIndex := 141, descriptorIndex := 142, attributes := #[] }, { accessFlags := 2, nameIndex := 138, descriptorIndex := 90, attributes := #[] }, { accessFlags := 2, nameIndex := 78, descriptorIndex := 6, attributes := #[] }, { accessFlags := 2, nameIndex := 109, descriptorIndex := 6, attributes := #[] }, { accessFlags := 2, nameIndex := 112, descriptorIndex := 6, attributes := #[] }, { accessFlags := 2, nameIndex := 119, descriptorIndex := 120, attributes := #[] }, { accessFlags := 2, nameIndex := 123, descriptorIndex := 52, attributes := #[] }, { accessFlags := 2, nameIndex := 115, descriptorIndex := 116, attributes := #[] }, { accessFlags := 2, nameIndex := 126, descriptorIndex := 116, attributes := #[] }, { accessFlags := 2, nameIndex := 129, descriptorIndex := 116, attributes := #[] }, { accessFlags := 2, nameIndex := 132, descriptorIndex := 116, attributes := #[] }, { accessFlags := 2, nameIndex := 145, descriptorIndex := 142, attributes := #[] }, { accessFlags := 2, nameIndex := 148, descriptorIndex := 82, attributes := #[] }, { accessFlags := 2, nameIndex := 135, descriptorIndex := 116, attributes := #[] }] 49 2 #[] #[{ accessFlags := 25, nameIndex := 149, descriptorIndex := 56, attributes := #[] }, { accessFlags := 25, nameIndex := 152, descriptorIndex := 56, attributes := #[] }, { accessFlags := 25, nameIndex := 154, descriptorIndex := 56, attributes := #[] }, { accessFlags := 25, nameIndex := 156, descriptorIndex := 56, attributes := #[] }, { accessFlags := 25, nameIndex := 157, descriptorIndex := 56, attributes := #[] }, { accessFlags := 25, nameIndex := 159, descriptorIndex := 56, attributes := #[] }, { accessFlags := 25, nameIndex := 161, descriptorIndex := 56, attributes := #[] }, { accessFlags := 25, nameIndex := 163, descriptorIndex := 56, attributes := #[] }, { accessFlags := 25, nameIndex := 164, descriptorIndex := 56, attributes := #[] }, { accessFlags := 25, nameIndex := 166, descriptorIndex := 56, attributes := #[] }, { accessFlags := 25, nameIndex := 168, descriptorIndex := 56, attributes := #[] }, { accessFlags := 25, nameIndex := 169, descriptorIndex := 56, attributes := #[] }, { accessFlags := 25, nameIndex := 170, descriptorIndex := 56, attributes := #[] }, { accessFlags := 25, nameIndex := 171, descriptorIndex := 56, attributes := #[] }, { accessFlags := 25, nameIndex := 172, descriptorIndex := 56, attributes := #[] }, { accessFlags := 25, nameIndex := 174, descriptorIndex := 56, attributes := #[] }, { accessFlags := 25, nameIndex := 175, descriptorIndex := 56, attributes := #[] }, { accessFlags := 25, nameIndex := 176, descriptorIndex := 56, attributes := #[] }, { accessFlags := 25, nameIndex := 177, descriptorIndex := 56, attributes := #[] }, { accessFlags := 25, nameIndex := 178, descriptorIndex := 56, attributes := #[] }, { accessFlags := 25, nameIndex := 179, descriptorIndex := 56, attributes := #[] }, { accessFlags := 25, nameIndex := 181, descriptorIndex := 56, attributes := #[] }, { accessFlags := 25, nameIndex := 183, descriptorIndex := 56, attributes := #[] }, { accessFlags := 25, nameIndex := 184, descriptorIndex := 56, attributes := #[] }, { accessFlags := 25, nameIndex := 185, descriptorIndex := 56, attributes := #[] }, { accessFlags := 25, nameIndex := 186, descriptorIndex := 56, attributes := #[] }, { accessFlags := 25, nameIndex := 187, descriptorIndex := 56, attributes := #[] }, { accessFlags := 25, nameIndex := 188, descriptorIndex := 56, attributes := #[] }, { accessFlags := 25, nameIndex := 189, descriptorIndex := 56, attributes := #[] }, { accessFlags := 25, nameIndex := 190, descriptorIndex := 56, attributes := #[] }, { accessFlags := 25, nameIndex := 191, descriptorIndex := 56, attributes := #[] }, { accessFlags := 25, nameIndex := 192, descriptorIndex := 56, attributes := #[] }, { accessFlags := 25, nameIndex := 194, descriptorIndex := 56, attributes := #[] }, { accessFlags := 2, nameIndex := 55, descriptorIndex := 56, attributes := #[] }, { accessFlags := 2, nameIndex := 59, descriptorIndex := 56, attributes := #[] }, { accessFlags := 2, nameIndex := 62, descriptorIndex := 56, attributes := #[] }, { accessFlags := 2, nameIndex := 68, descriptorIndex := 56, attributes := #[] }, { accessFlags := 2, nameIndex := 65, descriptorIndex := 56, attributes := #[] }, { accessFlags := 2, nameIndex := 75, descriptorIndex := 56, attributes := #[] }, { accessFlags := 2, nameIndex := 11, descriptorIndex := 12, attributes := #[] }, { accessFlags := 2, nameIndex := 15, descriptorIndex := 12, attributes := #[] }, { accessFlags := 2, nameIndex := 18, descriptorIndex := 12, attributes := #[] }, { accessFlags := 2, nameIndex := 21, descriptorIndex := 12, attributes := #[] }, { accessFlags := 2, nameIndex := 24, descriptorIndex := 12, attributes := #[] }, { accessFlags := 2, nameIndex := 27, descriptorIndex := 12, attributes := #[] }, { accessFlags := 2, nameIndex := 30, descriptorIndex := 12, attributes := #[] }, { accessFlags := 2, nameIndex := 33, descriptorIndex := 12, attributes := #[] }, { accessFlags := 2, nameIndex := 36, descriptorIndex := 12, attributes := #[] }, { accessFlags := 2, nameIndex := 39, descriptorIndex := 12, attributes := #[] }, { accessFlags := 2, nameIndex := 42, descriptorIndex := 12, attributes := #[] }, { accessFlags := 2, nameIndex := 45, descriptorIndex := 12, attributes := #[] }, { accessFlags := 2, nameIndex := 48, descriptorIndex := 12, attributes := #[] }])
  fields := #[{ name := "UP", type := .int, accessFlags := 25, slot := 0, constantValue := 0 }, { name := "DOWN", type := .int, accessFlags := 25, slot := 1, constantValue := 0 }, { name := "INVALID", type := .int, accessFlags := 25, slot := 2, constantValue := 0 }, { name := "ERR_FULL", type := .int, accessFlags := 25, slot := 3, constantValue := 0 }, { name := "ERR_FLOOR", type := .int, accessFlags := 25, slot := 4, constantValue := 0 }, { name := "ERR_TIME", type := .int, accessFlags := 25, slot := 5, constantValue := 0 }, { name := "STOPPED", type := .int, accessFlags := 25, slot := 6, constantValue := 0 }, { name := "OPEN", type := .int, accessFlags := 25, slot := 7, constantValue := 0 }, { name := "CLOSING", type := .int, accessFlags := 25, slot := 8, constantValue := 0 }, { name := "MOVING", type := .int, accessFlags := 25, slot := 9, constantValue := 0 }, { name := "C_FLOOR", type := .int, accessFlags := 25, slot := 10, constantValue := 0 }, { name := "C_STATE", type := .int, accessFlags := 25, slot := 11, constantValue := 0 }, { name := "C_DIR", type := .int, accessFlags := 25, slot := 12, constantValue := 0 }, { name := "C_LOAD", type := .int, accessFlags := 25, slot := 13, constantValue := 0 }, { name := "C_TIMER", type := .int, accessFlags := 25, slot := 14, constantValue := 0 }, { name := "P_STATE", type := .int, accessFlags := 25, slot := 15, constantValue := 0 }, { name := "P_FROM", type := .int, accessFlags := 25, slot := 16, constantValue := 0 }, { name := "P_TO", type := .int, accessFlags := 25, slot := 17, constantValue := 0 }, { name := "P_ARRIVE", type := .int, accessFlags := 25, slot := 18, constantValue := 0 }, { name := "P_BOARD", type := .int, accessFlags := 25, slot := 19, constantValue := 0 }, { name := "P_DELIVER", type := .int, accessFlags := 25, slot := 20, constantValue := 0 }, { name := "P_CAR", type := .int, accessFlags := 25, slot := 21, constantValue := 0 }, { name := "SCHEDULED", type := .int, accessFlags := 25, slot := 22, constantValue := 0 }, { name := "WAITING", type := .int, accessFlags := 25, slot := 23, constantValue := 0 }, { name := "RIDING", type := .int, accessFlags := 25, slot := 24, constantValue := 0 }, { name := "DELIVERED", type := .int, accessFlags := 25, slot := 25, constantValue := 0 }, { name := "WAIT", type := .int, accessFlags := 25, slot := 26, constantValue := 0 }, { name := "JOURNEY", type := .int, accessFlags := 25, slot := 27, constantValue := 0 }, { name := "DWELL", type := .int, accessFlags := 25, slot := 28, constantValue := 0 }, { name := "START", type := .int, accessFlags := 25, slot := 29, constantValue := 0 }, { name := "CRUISE", type := .int, accessFlags := 25, slot := 30, constantValue := 0 }, { name := "FULL_PENALTY", type := .int, accessFlags := 25, slot := 31, constantValue := 0 }, { name := "MAX_PASSENGERS", type := .int, accessFlags := 25, slot := 32, constantValue := 0 }, { name := "nCars", type := .int, accessFlags := 2, slot := 0, constantValue := 0 }, { name := "nFloors", type := .int, accessFlags := 2, slot := 1, constantValue := 0 }, { name := "cap", type := .int, accessFlags := 2, slot := 2, constantValue := 0 }, { name := "nowT", type := .int, accessFlags := 2, slot := 3, constantValue := 0 }, { name := "pCount", type := .int, accessFlags := 2, slot := 4, constantValue := 0 }, { name := "deliveredInCall", type := .int, accessFlags := 2, slot := 5, constantValue := 0 }, { name := "cFloor", type := (.array .int), accessFlags := 2, slot := 6, constantValue := 0 }, { name := "cState", type := (.array .int), accessFlags := 2, slot := 7, constantValue := 0 }, { name := "cDir", type := (.array .int), accessFlags := 2, slot := 8, constantValue := 0 }, { name := "cLoad", type := (.array .int), accessFlags := 2, slot := 9, constantValue := 0 }, { name := "cTimer", type := (.array .int), accessFlags := 2, slot := 10, constantValue := 0 }, { name := "pState", type := (.array .int), accessFlags := 2, slot := 11, constantValue := 0 }, { name := "pFrom", type := (.array .int), accessFlags := 2, slot := 12, constantValue := 0 }, { name := "pTo", type := (.array .int), accessFlags := 2, slot := 13, constantValue := 0 }, { name := "pArrive", type := (.array .int), accessFlags := 2, slot := 14, constantValue := 0 }, { name := "pBoard", type := (.array .int), accessFlags := 2, slot := 15, constantValue := 0 }, { name := "pDeliver", type := (.array .int), accessFlags := 2, slot := 16, constantValue := 0 }, { name := "pCar", type := (.array .int), accessFlags := 2, slot := 17, constantValue := 0 }, { name := "slot", type := (.array .int), accessFlags := 2, slot := 18, constantValue := 0 }]
  methods := #[k2m0, k2m1, k2m2, k2m3, k2m4, k2m5, k2m6, k2m7, k2m8, k2m9, k2m10, k2m11, k2m12, k2m13, k2m14, k2m15, k2m16, k2m17, k2m18, k2m19, k2m20, k2m21, k2m22, k2m23, k2m24, k2m25, k2m26, k2m27, k2m28, k2m29, k2m30, k2m31, k2m32, k2m33, k2m34, k2m35, k2m36]
  instanceTypes := #[.int, .int, .int, .int, .int, .int, (.array .int), (.array .int), (.array .int), (.array .int), (.array .int), (.array .int), (.array .int), (.array .int), (.array .int), (.array .int), (.array .int), (.array .int), (.array .int)]
  staticTypes := #[.int, .int, .int, .int, .int, .int, .int, .int, .int, .int, .int, .int, .int, .int, .int, .int, .int, .int, .int, .int, .int, .int, .int, .int, .int, .int, .int, .int, .int, .int, .int, .int, .int]
  resolved := Array.replicate 215 none
  statics := none }

def pool3 : Array CpInfo := pool [(1, u "java/lang/Cloneable"), (0, .class_ 1), (0, u "java/lang/Object"), (0, .class_ 3)] 3

/-- java/lang/Cloneable -/
def k3 : Class := { plain "java/lang/Cloneable" (some 0) with
  accessFlags := 1537
  interfaces := #[]
  cf := some (fileOf pool3 2 #[] #[] 1537 4 #[] #[])
  fields := #[]
  methods := #[]
  instanceTypes := #[]
  staticTypes := #[]
  resolved := Array.replicate 8 none
  statics := none }

def pool4 : Array CpInfo := pool [(1, u "java/io/Serializable"), (0, .class_ 1), (0, u "java/lang/Object"), (0, .class_ 3)] 3

/-- java/io/Serializable -/
def k4 : Class := { plain "java/io/Serializable" (some 0) with
  accessFlags := 1537
  interfaces := #[]
  cf := some (fileOf pool4 2 #[] #[] 1537 4 #[] #[])
  fields := #[]
  methods := #[]
  instanceTypes := #[]
  staticTypes := #[]
  resolved := Array.replicate 8 none
  statics := none }

/-- the primitive byte -/
def k5 : Class := { plain "byte" none with kind := .primitive 'B', accessFlags := 0x411 }
/-- [B -/
def k6 : Class := { plain "[B" (some 0) with kind := .array 5 .byte, interfaces := #[3, 4], accessFlags := 1041 }

/-- the primitive int -/
def k7 : Class := { plain "int" none with kind := .primitive 'I', accessFlags := 0x411 }
/-- [I -/
def k8 : Class := { plain "[I" (some 0) with kind := .array 7 .int, interfaces := #[3, 4], accessFlags := 1041 }

def heap : Heap := #[{ cls := 8, slots := #[.int 0, .int 3, .int 5, .int 1], vm := .none }]
def classes : Array Class := #[k0, k1, k2, k3, k4, k5, k6, k7, k8]
def interned : List (Array UInt16 × Addr) := []
def slotsUsed : Nat := 4
def theMethod : MethodId := ⟨1, 1⟩
def args0 : Array Value := #[.ref 0]
def aboutOver (below : List Frame) : State where
  vm := { classes := classes, interned := interned.toArray }
  heap := heap
  slotsUsed := slotsUsed
  threads := #[{ frames := .invoking theMethod args0 :: below }]
def below0 : List Frame := [.native { method := ⟨0, 0⟩, args := #[] }]
def about1 : State := aboutOver below0
def p0 : Program := .bare "" "" ""
def e0 : Env := launch0.env 0 0 0
theorem w_frames : about1.frames = Frame.invoking theMethod args0 :: below0 := rfl
set_option maxRecDepth 65536 in
theorem w_args : argsFit about1.vm theMethod args0 = true := by decide +kernel
set_option maxRecDepth 65536 in
theorem w_heap : heapFits about1 = true := by decide +kernel
set_option maxRecDepth 65536 in
theorem w_runnable : about1.curStatus? = some .runnable := by decide +kernel
set_option maxRecDepth 65536 in
theorem w_alone : about1.alone = true := by decide +kernel
set_option maxRecDepth 65536 in
theorem w_named : about1.methodNamed? x = some theMethod := by decide +kernel
set_option maxRecDepth 65536 in
theorem w_hears : about1.hears theMethod below0 = true := by decide +kernel
set_option maxRecDepth 65536 in
theorem w_ripe : about1.ripe theMethod args0 below0 = true := by decide +kernel
theorem w_running : about1.status = .running := rfl
set_option maxRecDepth 65536 in
theorem w_room : about1.hasRoom e0.platform room_1 = true :=
  launch0.hasRoom_least _ room_1 (by decide +kernel) (by decide +kernel) (by decide +kernel) (by decide +kernel) (by decide +kernel) (by decide +kernel)
theorem allAtoms_all (ts : List Jvm.Cond) (a : Array Jvm.Value) (st : Jvm.State) : (allAtoms ts).before a st = ts.all (fun c => c.before a st) := by
  induction ts with
  | nil => rfl
  | cons c t ih =>
    show (Jvm.Cond.and c (allAtoms t)).before a st = _
    rw [Jvm.Cond.before_and, ih, List.all_cons]
def words1 : List Jvm.Cond := Jvm.Cond.code x code maxLocals ret :: tables_1
/-- a 'code' word, met by the world's own term for the bytes: nothing is compared byte by byte -/
theorem code_word {y : MethodName} {bytes : ByteArray} {mx : Nat} {rt : Option FieldType} {a : Array Value} {s : State} {m : MethodId} {meth : Method} {c : Code} (h1 : s.methodNamed? y = some m) (h2 : s.vm.method? m = some meth) (h3 : meth.code = some c) (h4 : c.code = bytes)
    (h5 : (c.maxLocals == mx && c.exceptionTable.isEmpty && decide (c.maxStack ≤ mostOperands) && decide (meth.sig.returnType = rt) && !meth.locks && decide (parseMethodDescriptor y.desc = some meth.sig)) = true) : (Jvm.Cond.code y bytes mx rt).before a s = true := by
  simp only [Bool.and_eq_true, beq_iff_eq, Bool.not_eq_true', decide_eq_true_eq] at h5
  obtain ⟨⟨⟨⟨⟨g1, g2⟩, g3⟩, g4⟩, g5⟩, g6⟩ := h5
  simp [Cond.before, Cond.holds, Cond.value, h1, h2, h3, h4, g1, g2, g3, g4, g5, g6]
def isCode : Jvm.Cond → Bool
  | .code _ _ _ _ => true
  | _ => false
theorem all_split {L : List Jvm.Cond} {P : Jvm.Cond → Bool} (h1 : L.all (fun c => isCode c || P c) = true) (h2 : ∀ c ∈ L.filter isCode, P c = true) : L.all P = true := by
  refine List.all_eq_true.mpr fun c hc => ?_
  have h := List.all_eq_true.mp h1 c hc
  rcases Bool.eq_false_or_eq_true (isCode c) with hi | hi
  · exact h2 c (List.mem_filter.mpr ⟨hc, hi⟩)
  · simpa [hi] using h
set_option maxRecDepth 65536 in
theorem w_c0 : (Jvm.Cond.code x code maxLocals ret).before args0 about1 = true := code_word (m := ⟨1, 1⟩) (meth := k1m1) (c := k1c1) (by decide +kernel) rfl rfl rfl (by decide +kernel)
set_option maxRecDepth 65536 in
theorem w_c1 : (Jvm.Cond.code ({ cls := "ElevatorBank", name := "<init>", desc := "(III)V" } : Jvm.MethodName) prog_1_method_1_code (5 : Nat) (Option.none : Option Jvm.ClassFile.FieldType)).before args0 about1 = true := code_word (m := ⟨2, 0⟩) (meth := k2m0) (c := k2c0) (by decide +kernel) rfl rfl rfl (by decide +kernel)
set_option maxRecDepth 65536 in
theorem w_c2 : (Jvm.Cond.code ({ cls := "java/lang/Object", name := "<init>", desc := "()V" } : Jvm.MethodName) object_method_1_code (1 : Nat) (Option.none : Option Jvm.ClassFile.FieldType)).before args0 about1 = true := code_word (m := ⟨0, 0⟩) (meth := k0m0) (c := k0c0) (by decide +kernel) rfl rfl rfl (by decide +kernel)
set_option maxRecDepth 65536 in
theorem w_c3 : (Jvm.Cond.code ({ cls := "ElevatorBank", name := "clamp", desc := "(III)I" } : Jvm.MethodName) prog_1_method_15_code (4 : Nat) (Option.some Jvm.ClassFile.FieldType.int)).before args0 about1 = true := code_word (m := ⟨2, 14⟩) (meth := k2m14) (c := k2c14) (by decide +kernel) rfl rfl rfl (by decide +kernel)
set_option maxRecDepth 65536 in
theorem w_c4 : (Jvm.Cond.code ({ cls := "ElevatorBank", name := "step", desc := "(I)I" } : Jvm.MethodName) prog_1_method_4_code (4 : Nat) (Option.some Jvm.ClassFile.FieldType.int)).before args0 about1 = true := code_word (m := ⟨2, 3⟩) (meth := k2m3) (c := k2c3) (by decide +kernel) rfl rfl rfl (by decide +kernel)
set_option maxRecDepth 65536 in
theorem w_c5 : (Jvm.Cond.code ({ cls := "ElevatorBank", name := "tick", desc := "()V" } : Jvm.MethodName) prog_1_method_26_code (2 : Nat) (Option.none : Option Jvm.ClassFile.FieldType)).before args0 about1 = true := code_word (m := ⟨2, 25⟩) (meth := k2m25) (c := k2c25) (by decide +kernel) rfl rfl rfl (by decide +kernel)
set_option maxRecDepth 65536 in
theorem w_c6 : (Jvm.Cond.code ({ cls := "ElevatorBank", name := "arrivals", desc := "()V" } : Jvm.MethodName) prog_1_method_27_code (2 : Nat) (Option.none : Option Jvm.ClassFile.FieldType)).before args0 about1 = true := code_word (m := ⟨2, 26⟩) (meth := k2m26) (c := k2c26) (by decide +kernel) rfl rfl rfl (by decide +kernel)
set_option maxRecDepth 65536 in
theorem w_c7 : (Jvm.Cond.code ({ cls := "ElevatorBank", name := "dispatch", desc := "()V" } : Jvm.MethodName) prog_1_method_28_code (4 : Nat) (Option.none : Option Jvm.ClassFile.FieldType)).before args0 about1 = true := code_word (m := ⟨2, 27⟩) (meth := k2m27) (c := k2c27) (by decide +kernel) rfl rfl rfl (by decide +kernel)
set_option maxRecDepth 65536 in
theorem w_c8 : (Jvm.Cond.code ({ cls := "ElevatorBank", name := "assignCall", desc := "(II)V" } : Jvm.MethodName) prog_1_method_29_code (8 : Nat) (Option.none : Option Jvm.ClassFile.FieldType)).before args0 about1 = true := code_word (m := ⟨2, 28⟩) (meth := k2m28) (c := k2c28) (by decide +kernel) rfl rfl rfl (by decide +kernel)
set_option maxRecDepth 65536 in
theorem w_c9 : (Jvm.Cond.code ({ cls := "ElevatorBank", name := "slotIndex", desc := "(II)I" } : Jvm.MethodName) prog_1_method_18_code (3 : Nat) (Option.some Jvm.ClassFile.FieldType.int)).before args0 about1 = true := code_word (m := ⟨2, 17⟩) (meth := k2m17) (c := k2c17) (by decide +kernel) rfl rfl rfl (by decide +kernel)
set_option maxRecDepth 65536 in
theorem w_c10 : (Jvm.Cond.code ({ cls := "ElevatorBank", name := "waitingDir", desc := "(II)Z" } : Jvm.MethodName) prog_1_method_19_code (4 : Nat) (Option.some Jvm.ClassFile.FieldType.boolean)).before args0 about1 = true := code_word (m := ⟨2, 18⟩) (meth := k2m18) (c := k2c18) (by decide +kernel) rfl rfl rfl (by decide +kernel)
set_option maxRecDepth 65536 in
theorem w_c11 : (Jvm.Cond.code ({ cls := "ElevatorBank", name := "runCar", desc := "(I)V" } : Jvm.MethodName) prog_1_method_31_code (3 : Nat) (Option.none : Option Jvm.ClassFile.FieldType)).before args0 about1 = true := code_word (m := ⟨2, 30⟩) (meth := k2m30) (c := k2c30) (by decide +kernel) rfl rfl rfl (by decide +kernel)
set_option maxRecDepth 65536 in
theorem w_c12 : (Jvm.Cond.code ({ cls := "ElevatorBank", name := "stepStopped", desc := "(I)V" } : Jvm.MethodName) prog_1_method_32_code (3 : Nat) (Option.none : Option Jvm.ClassFile.FieldType)).before args0 about1 = true := code_word (m := ⟨2, 31⟩) (meth := k2m31) (c := k2c31) (by decide +kernel) rfl rfl rfl (by decide +kernel)
set_option maxRecDepth 65536 in
theorem w_c13 : (Jvm.Cond.code ({ cls := "ElevatorBank", name := "choose", desc := "(I)I" } : Jvm.MethodName) prog_1_method_25_code (4 : Nat) (Option.some Jvm.ClassFile.FieldType.int)).before args0 about1 = true := code_word (m := ⟨2, 24⟩) (meth := k2m24) (c := k2c24) (by decide +kernel) rfl rfl rfl (by decide +kernel)
set_option maxRecDepth 65536 in
theorem w_c14 : (Jvm.Cond.code ({ cls := "ElevatorBank", name := "beyond", desc := "(II)Z" } : Jvm.MethodName) prog_1_method_23_code (6 : Nat) (Option.some Jvm.ClassFile.FieldType.boolean)).before args0 about1 = true := code_word (m := ⟨2, 22⟩) (meth := k2m22) (c := k2c22) (by decide +kernel) rfl rfl rfl (by decide +kernel)
set_option maxRecDepth 65536 in
theorem w_c15 : (Jvm.Cond.code ({ cls := "ElevatorBank", name := "isTarget", desc := "(II)Z" } : Jvm.MethodName) prog_1_method_22_code (3 : Nat) (Option.some Jvm.ClassFile.FieldType.boolean)).before args0 about1 = true := code_word (m := ⟨2, 21⟩) (meth := k2m21) (c := k2c21) (by decide +kernel) rfl rfl rfl (by decide +kernel)
set_option maxRecDepth 65536 in
theorem w_c16 : (Jvm.Cond.code ({ cls := "ElevatorBank", name := "ridingTo", desc := "(II)Z" } : Jvm.MethodName) prog_1_method_21_code (4 : Nat) (Option.some Jvm.ClassFile.FieldType.boolean)).before args0 about1 = true := code_word (m := ⟨2, 20⟩) (meth := k2m20) (c := k2c20) (by decide +kernel) rfl rfl rfl (by decide +kernel)
set_option maxRecDepth 65536 in
theorem w_c17 : (Jvm.Cond.code ({ cls := "ElevatorBank", name := "assigned", desc := "(III)Z" } : Jvm.MethodName) prog_1_method_20_code (4 : Nat) (Option.some Jvm.ClassFile.FieldType.boolean)).before args0 about1 = true := code_word (m := ⟨2, 19⟩) (meth := k2m19) (c := k2c19) (by decide +kernel) rfl rfl rfl (by decide +kernel)
set_option maxRecDepth 65536 in
theorem w_c18 : (Jvm.Cond.code ({ cls := "ElevatorBank", name := "passengers", desc := "()I" } : Jvm.MethodName) prog_1_method_6_code (1 : Nat) (Option.some Jvm.ClassFile.FieldType.int)).before args0 about1 = true := code_word (m := ⟨2, 5⟩) (meth := k2m5) (c := k2c5) (by decide +kernel) rfl rfl rfl (by decide +kernel)
set_option maxRecDepth 65536 in
theorem w_c19 : (Jvm.Cond.code ({ cls := "ElevatorBank", name := "addPassenger", desc := "(III)I" } : Jvm.MethodName) prog_1_method_2_code (5 : Nat) (Option.some Jvm.ClassFile.FieldType.int)).before args0 about1 = true := code_word (m := ⟨2, 1⟩) (meth := k2m1) (c := k2c1) (by decide +kernel) rfl rfl rfl (by decide +kernel)
set_option maxRecDepth 65536 in
theorem w_c20 : (Jvm.Cond.code ({ cls := "ElevatorBankL7", name := "same", desc := "(LElevatorBank;LElevatorBank;)Z" } : Jvm.MethodName) method_3_code (3 : Nat) (Option.some Jvm.ClassFile.FieldType.boolean)).before args0 about1 = true := code_word (m := ⟨1, 2⟩) (meth := k1m2) (c := k1c2) (by decide +kernel) rfl rfl rfl (by decide +kernel)
set_option maxRecDepth 65536 in
theorem w_c21 : (Jvm.Cond.code ({ cls := "ElevatorBank", name := "now", desc := "()I" } : Jvm.MethodName) prog_1_method_5_code (1 : Nat) (Option.some Jvm.ClassFile.FieldType.int)).before args0 about1 = true := code_word (m := ⟨2, 4⟩) (meth := k2m4) (c := k2c4) (by decide +kernel) rfl rfl rfl (by decide +kernel)
set_option maxRecDepth 65536 in
theorem w_c22 : (Jvm.Cond.code ({ cls := "ElevatorBank", name := "delivered", desc := "()I" } : Jvm.MethodName) prog_1_method_7_code (3 : Nat) (Option.some Jvm.ClassFile.FieldType.int)).before args0 about1 = true := code_word (m := ⟨2, 6⟩) (meth := k2m6) (c := k2c6) (by decide +kernel) rfl rfl rfl (by decide +kernel)
set_option maxRecDepth 65536 in
theorem w_c23 : (Jvm.Cond.code ({ cls := "ElevatorBank", name := "waitSum", desc := "()I" } : Jvm.MethodName) prog_1_method_12_code (3 : Nat) (Option.some Jvm.ClassFile.FieldType.int)).before args0 about1 = true := code_word (m := ⟨2, 11⟩) (meth := k2m11) (c := k2c11) (by decide +kernel) rfl rfl rfl (by decide +kernel)
set_option maxRecDepth 65536 in
theorem w_c24 : (Jvm.Cond.code ({ cls := "ElevatorBank", name := "journeySum", desc := "()I" } : Jvm.MethodName) prog_1_method_13_code (3 : Nat) (Option.some Jvm.ClassFile.FieldType.int)).before args0 about1 = true := code_word (m := ⟨2, 12⟩) (meth := k2m12) (c := k2c12) (by decide +kernel) rfl rfl rfl (by decide +kernel)
set_option maxRecDepth 65536 in
theorem w_c25 : (Jvm.Cond.code ({ cls := "ElevatorBank", name := "car", desc := "(II)I" } : Jvm.MethodName) prog_1_method_8_code (3 : Nat) (Option.some Jvm.ClassFile.FieldType.int)).before args0 about1 = true := code_word (m := ⟨2, 7⟩) (meth := k2m7) (c := k2c7) (by decide +kernel) rfl rfl rfl (by decide +kernel)
set_option maxRecDepth 65536 in
theorem w_c26 : (Jvm.Cond.code ({ cls := "ElevatorBank", name := "passenger", desc := "(II)I" } : Jvm.MethodName) prog_1_method_9_code (3 : Nat) (Option.some Jvm.ClassFile.FieldType.int)).before args0 about1 = true := code_word (m := ⟨2, 8⟩) (meth := k2m8) (c := k2c8) (by decide +kernel) rfl rfl rfl (by decide +kernel)
set_option maxRecDepth 65536 in
theorem w_c27 : (Jvm.Cond.code ({ cls := "ElevatorBank", name := "waiting", desc := "(I)I" } : Jvm.MethodName) prog_1_method_11_code (4 : Nat) (Option.some Jvm.ClassFile.FieldType.int)).before args0 about1 = true := code_word (m := ⟨2, 10⟩) (meth := k2m10) (c := k2c10) (by decide +kernel) rfl rfl rfl (by decide +kernel)
set_option maxRecDepth 65536 in
theorem w_c28 : (Jvm.Cond.code ({ cls := "ElevatorBank", name := "hallCall", desc := "(II)I" } : Jvm.MethodName) prog_1_method_10_code (3 : Nat) (Option.some Jvm.ClassFile.FieldType.int)).before args0 about1 = true := code_word (m := ⟨2, 9⟩) (meth := k2m9) (c := k2c9) (by decide +kernel) rfl rfl rfl (by decide +kernel)
set_option maxRecDepth 65536 in
theorem w_c29 : (Jvm.Cond.code ({ cls := "ElevatorBank", name := "histogram", desc := "(II)I" } : Jvm.MethodName) prog_1_method_14_code (7 : Nat) (Option.some Jvm.ClassFile.FieldType.int)).before args0 about1 = true := code_word (m := ⟨2, 13⟩) (meth := k2m13) (c := k2c13) (by decide +kernel) rfl rfl rfl (by decide +kernel)
set_option maxRecDepth 65536 in
theorem w_c30 : (Jvm.Cond.code ({ cls := "ElevatorBank", name := "direction", desc := "(I)I" } : Jvm.MethodName) prog_1_method_17_code (2 : Nat) (Option.some Jvm.ClassFile.FieldType.int)).before args0 about1 = true := code_word (m := ⟨2, 16⟩) (meth := k2m16) (c := k2c16) (by decide +kernel) rfl rfl rfl (by decide +kernel)
set_option maxRecDepth 65536 in
theorem w_c31 : (Jvm.Cond.code ({ cls := "ElevatorBank", name := "eta", desc := "(III)I" } : Jvm.MethodName) prog_1_method_30_code (10 : Nat) (Option.some Jvm.ClassFile.FieldType.int)).before args0 about1 = true := code_word (m := ⟨2, 29⟩) (meth := k2m29) (c := k2c29) (by decide +kernel) rfl rfl rfl (by decide +kernel)
set_option maxRecDepth 65536 in
theorem w_c32 : (Jvm.Cond.code ({ cls := "ElevatorBank", name := "room", desc := "(I)Z" } : Jvm.MethodName) prog_1_method_24_code (2 : Nat) (Option.some Jvm.ClassFile.FieldType.boolean)).before args0 about1 = true := code_word (m := ⟨2, 23⟩) (meth := k2m23) (c := k2c23) (by decide +kernel) rfl rfl rfl (by decide +kernel)
set_option maxRecDepth 65536 in
theorem w_c33 : (Jvm.Cond.code ({ cls := "ElevatorBank", name := "stepMoving", desc := "(I)V" } : Jvm.MethodName) prog_1_method_33_code (6 : Nat) (Option.none : Option Jvm.ClassFile.FieldType)).before args0 about1 = true := code_word (m := ⟨2, 32⟩) (meth := k2m32) (c := k2c32) (by decide +kernel) rfl rfl rfl (by decide +kernel)
set_option maxRecDepth 65536 in
theorem w_c34 : (Jvm.Cond.code ({ cls := "ElevatorBank", name := "stepOpen", desc := "(I)V" } : Jvm.MethodName) prog_1_method_34_code (5 : Nat) (Option.none : Option Jvm.ClassFile.FieldType)).before args0 about1 = true := code_word (m := ⟨2, 33⟩) (meth := k2m33) (c := k2c33) (by decide +kernel) rfl rfl rfl (by decide +kernel)
set_option maxRecDepth 65536 in
theorem w_c35 : (Jvm.Cond.code ({ cls := "ElevatorBank", name := "deliverAt", desc := "(I)Z" } : Jvm.MethodName) prog_1_method_35_code (5 : Nat) (Option.some Jvm.ClassFile.FieldType.boolean)).before args0 about1 = true := code_word (m := ⟨2, 34⟩) (meth := k2m34) (c := k2c34) (by decide +kernel) rfl rfl rfl (by decide +kernel)
set_option maxRecDepth 65536 in
theorem w_c36 : (Jvm.Cond.code ({ cls := "ElevatorBank", name := "boardAt", desc := "(II)Z" } : Jvm.MethodName) prog_1_method_36_code (6 : Nat) (Option.some Jvm.ClassFile.FieldType.boolean)).before args0 about1 = true := code_word (m := ⟨2, 35⟩) (meth := k2m35) (c := k2c35) (by decide +kernel) rfl rfl rfl (by decide +kernel)
set_option maxRecDepth 65536 in
theorem w_c37 : (Jvm.Cond.code ({ cls := "ElevatorBank", name := "stepClosing", desc := "(I)V" } : Jvm.MethodName) prog_1_method_37_code (3 : Nat) (Option.none : Option Jvm.ClassFile.FieldType)).before args0 about1 = true := code_word (m := ⟨2, 36⟩) (meth := k2m36) (c := k2c36) (by decide +kernel) rfl rfl rfl (by decide +kernel)
set_option maxRecDepth 65536 in
theorem w_c38 : (Jvm.Cond.code ({ cls := "ElevatorBank", name := "bucketOf", desc := "(I)I" } : Jvm.MethodName) prog_1_method_16_code (2 : Nat) (Option.some Jvm.ClassFile.FieldType.int)).before args0 about1 = true := code_word (m := ⟨2, 15⟩) (meth := k2m15) (c := k2c15) (by decide +kernel) rfl rfl rfl (by decide +kernel)
set_option maxRecDepth 65536 in
theorem w_c39 : (Jvm.Cond.code ({ cls := "ElevatorBank", name := "generate", desc := "(III)I" } : Jvm.MethodName) prog_1_method_3_code (15 : Nat) (Option.some Jvm.ClassFile.FieldType.int)).before args0 about1 = true := code_word (m := ⟨2, 2⟩) (meth := k2m2) (c := k2c2) (by decide +kernel) rfl rfl rfl (by decide +kernel)
def codes1 : List Jvm.Cond := [Jvm.Cond.code x code maxLocals ret, Jvm.Cond.code ({ cls := "ElevatorBank", name := "<init>", desc := "(III)V" } : Jvm.MethodName) prog_1_method_1_code (5 : Nat) (Option.none : Option Jvm.ClassFile.FieldType), Jvm.Cond.code ({ cls := "java/lang/Object", name := "<init>", desc := "()V" } : Jvm.MethodName) object_method_1_code (1 : Nat) (Option.none : Option Jvm.ClassFile.FieldType), Jvm.Cond.code ({ cls := "ElevatorBank", name := "clamp", desc := "(III)I" } : Jvm.MethodName) prog_1_method_15_code (4 : Nat) (Option.some Jvm.ClassFile.FieldType.int), Jvm.Cond.code ({ cls := "ElevatorBank", name := "step", desc := "(I)I" } : Jvm.MethodName) prog_1_method_4_code (4 : Nat) (Option.some Jvm.ClassFile.FieldType.int), Jvm.Cond.code ({ cls := "ElevatorBank", name := "tick", desc := "()V" } : Jvm.MethodName) prog_1_method_26_code (2 : Nat) (Option.none : Option Jvm.ClassFile.FieldType), Jvm.Cond.code ({ cls := "ElevatorBank", name := "arrivals", desc := "()V" } : Jvm.MethodName) prog_1_method_27_code (2 : Nat) (Option.none : Option Jvm.ClassFile.FieldType), Jvm.Cond.code ({ cls := "ElevatorBank", name := "dispatch", desc := "()V" } : Jvm.MethodName) prog_1_method_28_code (4 : Nat) (Option.none : Option Jvm.ClassFile.FieldType), Jvm.Cond.code ({ cls := "ElevatorBank", name := "assignCall", desc := "(II)V" } : Jvm.MethodName) prog_1_method_29_code (8 : Nat) (Option.none : Option Jvm.ClassFile.FieldType), Jvm.Cond.code ({ cls := "ElevatorBank", name := "slotIndex", desc := "(II)I" } : Jvm.MethodName) prog_1_method_18_code (3 : Nat) (Option.some Jvm.ClassFile.FieldType.int), Jvm.Cond.code ({ cls := "ElevatorBank", name := "waitingDir", desc := "(II)Z" } : Jvm.MethodName) prog_1_method_19_code (4 : Nat) (Option.some Jvm.ClassFile.FieldType.boolean), Jvm.Cond.code ({ cls := "ElevatorBank", name := "runCar", desc := "(I)V" } : Jvm.MethodName) prog_1_method_31_code (3 : Nat) (Option.none : Option Jvm.ClassFile.FieldType), Jvm.Cond.code ({ cls := "ElevatorBank", name := "stepStopped", desc := "(I)V" } : Jvm.MethodName) prog_1_method_32_code (3 : Nat) (Option.none : Option Jvm.ClassFile.FieldType), Jvm.Cond.code ({ cls := "ElevatorBank", name := "choose", desc := "(I)I" } : Jvm.MethodName) prog_1_method_25_code (4 : Nat) (Option.some Jvm.ClassFile.FieldType.int), Jvm.Cond.code ({ cls := "ElevatorBank", name := "beyond", desc := "(II)Z" } : Jvm.MethodName) prog_1_method_23_code (6 : Nat) (Option.some Jvm.ClassFile.FieldType.boolean), Jvm.Cond.code ({ cls := "ElevatorBank", name := "isTarget", desc := "(II)Z" } : Jvm.MethodName) prog_1_method_22_code (3 : Nat) (Option.some Jvm.ClassFile.FieldType.boolean), Jvm.Cond.code ({ cls := "ElevatorBank", name := "ridingTo", desc := "(II)Z" } : Jvm.MethodName) prog_1_method_21_code (4 : Nat) (Option.some Jvm.ClassFile.FieldType.boolean), Jvm.Cond.code ({ cls := "ElevatorBank", name := "assigned", desc := "(III)Z" } : Jvm.MethodName) prog_1_method_20_code (4 : Nat) (Option.some Jvm.ClassFile.FieldType.boolean), Jvm.Cond.code ({ cls := "ElevatorBank", name := "passengers", desc := "()I" } : Jvm.MethodName) prog_1_method_6_code (1 : Nat) (Option.some Jvm.ClassFile.FieldType.int), Jvm.Cond.code ({ cls := "ElevatorBank", name := "addPassenger", desc := "(III)I" } : Jvm.MethodName) prog_1_method_2_code (5 : Nat) (Option.some Jvm.ClassFile.FieldType.int), Jvm.Cond.code ({ cls := "ElevatorBankL7", name := "same", desc := "(LElevatorBank;LElevatorBank;)Z" } : Jvm.MethodName) method_3_code (3 : Nat) (Option.some Jvm.ClassFile.FieldType.boolean), Jvm.Cond.code ({ cls := "ElevatorBank", name := "now", desc := "()I" } : Jvm.MethodName) prog_1_method_5_code (1 : Nat) (Option.some Jvm.ClassFile.FieldType.int), Jvm.Cond.code ({ cls := "ElevatorBank", name := "delivered", desc := "()I" } : Jvm.MethodName) prog_1_method_7_code (3 : Nat) (Option.some Jvm.ClassFile.FieldType.int), Jvm.Cond.code ({ cls := "ElevatorBank", name := "waitSum", desc := "()I" } : Jvm.MethodName) prog_1_method_12_code (3 : Nat) (Option.some Jvm.ClassFile.FieldType.int), Jvm.Cond.code ({ cls := "ElevatorBank", name := "journeySum", desc := "()I" } : Jvm.MethodName) prog_1_method_13_code (3 : Nat) (Option.some Jvm.ClassFile.FieldType.int), Jvm.Cond.code ({ cls := "ElevatorBank", name := "car", desc := "(II)I" } : Jvm.MethodName) prog_1_method_8_code (3 : Nat) (Option.some Jvm.ClassFile.FieldType.int), Jvm.Cond.code ({ cls := "ElevatorBank", name := "passenger", desc := "(II)I" } : Jvm.MethodName) prog_1_method_9_code (3 : Nat) (Option.some Jvm.ClassFile.FieldType.int), Jvm.Cond.code ({ cls := "ElevatorBank", name := "waiting", desc := "(I)I" } : Jvm.MethodName) prog_1_method_11_code (4 : Nat) (Option.some Jvm.ClassFile.FieldType.int), Jvm.Cond.code ({ cls := "ElevatorBank", name := "hallCall", desc := "(II)I" } : Jvm.MethodName) prog_1_method_10_code (3 : Nat) (Option.some Jvm.ClassFile.FieldType.int), Jvm.Cond.code ({ cls := "ElevatorBank", name := "histogram", desc := "(II)I" } : Jvm.MethodName) prog_1_method_14_code (7 : Nat) (Option.some Jvm.ClassFile.FieldType.int), Jvm.Cond.code ({ cls := "ElevatorBank", name := "direction", desc := "(I)I" } : Jvm.MethodName) prog_1_method_17_code (2 : Nat) (Option.some Jvm.ClassFile.FieldType.int), Jvm.Cond.code ({ cls := "ElevatorBank", name := "eta", desc := "(III)I" } : Jvm.MethodName) prog_1_method_30_code (10 : Nat) (Option.some Jvm.ClassFile.FieldType.int), Jvm.Cond.code ({ cls := "ElevatorBank", name := "room", desc := "(I)Z" } : Jvm.MethodName) prog_1_method_24_code (2 : Nat) (Option.some Jvm.ClassFile.FieldType.boolean), Jvm.Cond.code ({ cls := "ElevatorBank", name := "stepMoving", desc := "(I)V" } : Jvm.MethodName) prog_1_method_33_code (6 : Nat) (Option.none : Option Jvm.ClassFile.FieldType), Jvm.Cond.code ({ cls := "ElevatorBank", name := "stepOpen", desc := "(I)V" } : Jvm.MethodName) prog_1_method_34_code (5 : Nat) (Option.none : Option Jvm.ClassFile.FieldType), Jvm.Cond.code ({ cls := "ElevatorBank", name := "deliverAt", desc := "(I)Z" } : Jvm.MethodName) prog_1_method_35_code (5 : Nat) (Option.some Jvm.ClassFile.FieldType.boolean), Jvm.Cond.code ({ cls := "ElevatorBank", name := "boardAt", desc := "(II)Z" } : Jvm.MethodName) prog_1_method_36_code (6 : Nat) (Option.some Jvm.ClassFile.FieldType.boolean), Jvm.Cond.code ({ cls := "ElevatorBank", name := "stepClosing", desc := "(I)V" } : Jvm.MethodName) prog_1_method_37_code (3 : Nat) (Option.none : Option Jvm.ClassFile.FieldType), Jvm.Cond.code ({ cls := "ElevatorBank", name := "bucketOf", desc := "(I)I" } : Jvm.MethodName) prog_1_method_16_code (2 : Nat) (Option.some Jvm.ClassFile.FieldType.int), Jvm.Cond.code ({ cls := "ElevatorBank", name := "generate", desc := "(III)I" } : Jvm.MethodName) prog_1_method_3_code (15 : Nat) (Option.some Jvm.ClassFile.FieldType.int)]
set_option maxRecDepth 65536 in
theorem codes_eq : words1.filter isCode = codes1 := rfl
theorem w_codes : ∀ c ∈ words1.filter isCode, c.before args0 about1 = true := by
  rw [codes_eq]
  intro c hc
  simp only [codes1, List.mem_cons, List.not_mem_nil, or_false] at hc
  rcases hc with rfl | rfl | rfl | rfl | rfl | rfl | rfl | rfl | rfl | rfl | rfl | rfl | rfl | rfl | rfl | rfl | rfl | rfl | rfl | rfl | rfl | rfl | rfl | rfl | rfl | rfl | rfl | rfl | rfl | rfl | rfl | rfl | rfl | rfl | rfl | rfl | rfl | rfl | rfl | rfl
  · exact w_c0
  · exact w_c1
  · exact w_c2
  · exact w_c3
  · exact w_c4
  · exact w_c5
  · exact w_c6
  · exact w_c7
  · exact w_c8
  · exact w_c9
  · exact w_c10
  · exact w_c11
  · exact w_c12
  · exact w_c13
  · exact w_c14
  · exact w_c15
  · exact w_c16
  · exact w_c17
  · exact w_c18
  · exact w_c19
  · exact w_c20
  · exact w_c21
  · exact w_c22
  · exact w_c23
  · exact w_c24
  · exact w_c25
  · exact w_c26
  · exact w_c27
  · exact w_c28
  · exact w_c29
  · exact w_c30
  · exact w_c31
  · exact w_c32
  · exact w_c33
  · exact w_c34
  · exact w_c35
  · exact w_c36
  · exact w_c37
  · exact w_c38
  · exact w_c39
set_option maxRecDepth 65536 in
theorem w_t1 : (words1.take 24).all (fun c => isCode c || c.before args0 about1) = true := by decide +kernel
set_option maxRecDepth 65536 in
theorem w_t2 : ((words1.drop 24).take 24).all (fun c => isCode c || c.before args0 about1) = true := by decide +kernel
set_option maxRecDepth 65536 in
theorem w_t3 : (((words1.drop 24).drop 24).take 24).all (fun c => isCode c || c.before args0 about1) = true := by decide +kernel
set_option maxRecDepth 65536 in
theorem w_t4 : ((((words1.drop 24).drop 24).drop 24).take 24).all (fun c => isCode c || c.before args0 about1) = true := by decide +kernel
set_option maxRecDepth 65536 in
theorem w_t5 : (((((words1.drop 24).drop 24).drop 24).drop 24).take 24).all (fun c => isCode c || c.before args0 about1) = true := by decide +kernel
set_option maxRecDepth 65536 in
theorem w_t6 : ((((((words1.drop 24).drop 24).drop 24).drop 24).drop 24).take 24).all (fun c => isCode c || c.before args0 about1) = true := by decide +kernel
set_option maxRecDepth 65536 in
theorem w_t7 : (((((((words1.drop 24).drop 24).drop 24).drop 24).drop 24).drop 24).take 24).all (fun c => isCode c || c.before args0 about1) = true := by decide +kernel
set_option maxRecDepth 65536 in
theorem w_t8 : ((((((((words1.drop 24).drop 24).drop 24).drop 24).drop 24).drop 24).drop 24).take 24).all (fun c => isCode c || c.before args0 about1) = true := by decide +kernel
set_option maxRecDepth 65536 in
theorem w_t9 : ((((((((words1.drop 24).drop 24).drop 24).drop 24).drop 24).drop 24).drop 24).drop 24).all (fun c => isCode c || c.before args0 about1) = true := by decide +kernel
theorem w_tables : (allAtoms (Jvm.Cond.code x code maxLocals ret :: tables_1)).before args0 about1 = true := by
  rw [allAtoms_all]
  show words1.all (fun c => c.before args0 about1) = true
  refine all_split ?_ w_codes
  rw [← List.take_append_drop 24 words1, List.all_append, w_t1, ← List.take_append_drop 24 (words1.drop 24), List.all_append, w_t2, ← List.take_append_drop 24 ((words1.drop 24).drop 24), List.all_append, w_t3, ← List.take_append_drop 24 (((words1.drop 24).drop 24).drop 24), List.all_append, w_t4, ← List.take_append_drop 24 ((((words1.drop 24).drop 24).drop 24).drop 24), List.all_append, w_t5, ← List.take_append_drop 24 (((((words1.drop 24).drop 24).drop 24).drop 24).drop 24), List.all_append, w_t6, ← List.take_append_drop 24 ((((((words1.drop 24).drop 24).drop 24).drop 24).drop 24).drop 24), List.all_append, w_t7, ← List.take_append_drop 24 (((((((words1.drop 24).drop 24).drop 24).drop 24).drop 24).drop 24).drop 24), List.all_append, w_t8, w_t9]
  rfl
set_option maxRecDepth 65536 in
theorem w_rest : rest_1_c.before args0 about1 = true := by decide +kernel
set_option maxRecDepth 65536 in
theorem w_case : (Jvm.Cond.and given_1 narrow_1).before args0 about1 = true := by decide +kernel
theorem w_applies : (headSpec (Jvm.Cond.code x code maxLocals ret :: tables_1) room_1).applies x e0.platform about1 = true :=
  (Spec.applies_iff w_frames).mpr ⟨w_running, w_runnable, w_alone, w_named, w_hears, w_ripe, w_room, w_tables⟩
theorem atStart : AtStart classFile x code maxLocals ret World_1 tables_1 room_1 Calls_1 rest_1 Pre_1 launch0 p0 e0 about1 theMethod args0 below0 :=
  ⟨lists_1, trivial, launch0.admits_env _ _ _, launch0.least_env, fairChoices_fair.cas, fairChoices_fair.clock, w_frames, w_args, w_heap, w_applies, trivial, w_rest, w_case⟩
end start1
theorem witness_1 : WitnessClaimed_1 := ⟨start1.p0, start1.e0, start1.about1, start1.theMethod, start1.args0, start1.below0, start1.atStart⟩
end Jvm.Pilot.@@N@@
