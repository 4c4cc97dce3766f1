import JvmDerived
import JvmDerived.Pilot.@@N@@Statement
import JvmDerived.Pilot.@@N@@Code
set_option linter.unusedVariables false
set_option linter.unusedSimpArgs false
set_option maxRecDepth 20000
namespace Jvm.JX
open Sem ClassFile Op Lib
abbrev Cel : Type := FieldType × Nat × Bool × (Nat → Value)
abbrev AH : Type := Nat × (Nat → Cel)
abbrev MInfo : Type := Nat × Nat × Nat × Option FieldType × Jvm.Room
abbrev Prog : Type := (Nat → Nat → Option (Instr × Nat × Int)) × (Nat → MInfo) × (Nat → FieldType) × Nat
abbrev Fm : Type := Nat × List Slot × List Value × Nat × Nat × AH
def na (P : Prog) (m : Nat) : Nat := (P.2.1 m).1
def ml (P : Prog) (m : Nat) : Nat := (P.2.1 m).2.1
def kd (P : Prog) (m : Nat) : Nat := (P.2.1 m).2.2.1
def rt (P : Prog) (m : Nat) : Option FieldType := (P.2.1 m).2.2.2.1
def rm (P : Prog) (m : Nat) : Jvm.Room := (P.2.1 m).2.2.2.2
def isO (H : AH) (a : Nat) : Bool := match (H.2 a).1 with | .object _ => true | _ => false
def isOw (H : AH) (a : Nat) : Bool := isO H a && (H.2 a).2.2.1
def inA (H : AH) (a : Nat) (t : FieldType) (i : Int32) : Bool := decide ((H.2 a).1 = .array t) && !decide (i < 0) && decide (i.toNatClampNeg < (H.2 a).2.1)
def inAw (H : AH) (a : Nat) (t : FieldType) (i : Int32) : Bool := inA H a t i && (H.2 a).2.2.1
def isA (H : AH) (a : Nat) : Bool := match (H.2 a).1 with | .array _ => true | _ => false
def elt (H : AH) (a : Nat) (i : Int32) : Value := (H.2 a).2.2.2 i.toNatClampNeg
def fld (H : AH) (a k : Nat) : Value := (H.2 a).2.2.2 k
def alen (H : AH) (a : Nat) : Nat := (H.2 a).2.1
def wr (H : AH) (a j : Nat) (v : Value) : AH := (H.1, fun b => if b = a then ((H.2 a).1, (H.2 a).2.1, (H.2 a).2.2.1, fun i => if i = j then v else (H.2 a).2.2.2 i) else H.2 b)
def okv : FieldType → Value → Bool
  | .int, .int _ => true
  | .boolean, .int z => z == 0 || z == 1
  | .byte, .int z => z.toInt8.toInt32 == z
  | .long, .long _ => true
  | .array _, .ref _ => true
  | _, _ => false
def mkO (P : Prog) (H : AH) : AH := (H.1 + 1, fun b => if b = H.1 then (.object "", P.2.2.2, true, fun k => defaultValue (P.2.2.1 k)) else H.2 b)
def mkA (t : FieldType) (n : Nat) (H : AH) : AH := (H.1 + 1, fun b => if b = H.1 then (.array t, n, true, fun _ => defaultValue t) else H.2 b)
def cat1 : Slot → Bool | .unset => true | .val v => v.category == 1 | .second => false
def cs (S : List Value) : Nat := (S.map fun v => v.category).sum
def stl (L : List Slot) (i : Nat) (v : Value) : Option (List Slot) :=
  match L[i]? with
  | some .unset => some (L.set i (.val v))
  | some (.val w) => if w.category = 1 then some (L.set i (.val v)) else if i + 1 < L.length then some ((L.set (i + 1) .unset).set i (.val v)) else none
  | some .second => if 1 ≤ i then some ((L.set (i - 1) .unset).set i (.val v)) else none
  | none => none
def stL (L : List Slot) (i : Nat) (v : Value) : Option (List Slot) :=
  match L[i]?, L[i + 1]? with
  | some (.val w), some o2 => if w.category = 2 then some ((L.set i (.val v)).set (i + 1) .second) else if cat1 o2 = true then some ((L.set i (.val v)).set (i + 1) .second) else none
  | some .unset, some o2 => if cat1 o2 = true then some ((L.set i (.val v)).set (i + 1) .second) else none
  | _, _ => none
def ent (P : Prog) (m : Nat) (a : List Value) : List Slot := Sym.laidSlots a ++ List.replicate (ml P m - (Sym.laidSlots a).length) .unset
def ilen : Instr → Nat
  | .bipush _ | .iload _ | .istore _ | .aload _ | .astore _ | .lload _ | .lstore _ | .newarray _ | .ldc _ => 2
  | .sipush _ | .getfield _ | .putfield _ | .new _ | .invokevirtual _ | .invokestatic _ | .invokespecial _ | .ldc2_w _ | .goto _ | .ifCond _ _ | .if_icmp _ _ | .iinc _ _ => 3
  | _ => 1
def ldI (L : List Slot) (i : Nat) : Option Value := match L[i]? with | some (.val (.int x)) => some (.int x) | _ => none
def ldJ (L : List Slot) (i : Nat) : Option Value := match L[i]? with | some (.val (.long x)) => some (.long x) | _ => none
def ldR (L : List Slot) (i : Nat) : Option Value := match L[i]? with | some (.val (.ref x)) => some (.ref x) | _ => none
def jmp (pc : Nat) (o : Int) : Option Nat := if 0 ≤ (pc : Int) + o then some ((pc : Int) + o).toNat else none
def ret (P : Prog) (m : Nat) (ins : Instr) (S : List Value) : Option (Option Value) :=
  match ins with
  | .return_ => if rt P m = none ∧ S = [] then some none else none
  | .ireturn => match S, rt P m with
    | .int z :: _, some .int => some (some (.int z))
    | .int z :: _, some .boolean => if z = 0 ∨ z = 1 then some (some (.int z)) else none
    | _, _ => none
  | .lreturn => match S, rt P m with
    | .long z :: _, some .long => some (some (.long z))
    | _, _ => none
  | _ => none
def rcv (H : AH) : List Value → Bool | .ref a :: _ => isO H a | _ => false
def may (P : Prog) (m m' : Nat) (a r : List Value) (k n : Nat) (H : AH) : Bool :=
  decide ((Sym.laidSlots a).length ≤ ml P m') && decide (a.length = na P m') && decide ((rm P m').frames + 1 ≤ (rm P m).frames) && decide (cs r + (ml P m' + 11) + (rm P m').locals ≤ (rm P m).locals)
    && (decide ((rm P m').cells = 0 ∧ (rm P m').slots = 0) || decide (k + (rm P m').cells ≤ (rm P m).cells ∧ n + (rm P m').slots ≤ (rm P m).slots))
    && (decide (kd P m' = 0) || rcv H a)
def kindOk : Instr → Nat → Bool
  | .invokevirtual _, k => k == 1 || k == 2
  | .invokestatic _, k => k == 0
  | .invokespecial _, k => k == 3
  | _, _ => false
def cal1 (P : Prog) (m : Nat) (ins : Instr) (aux : Int) (S : List Value) (k n : Nat) (H : AH) : Option (Nat × List Value × List Value) :=
  if 0 ≤ aux ∧ kindOk ins (kd P aux.toNat) = true ∧ may P m aux.toNat (S.take (na P aux.toNat)).reverse (S.drop (na P aux.toNat)) k n H = true
  then some (aux.toNat, (S.take (na P aux.toNat)).reverse, S.drop (na P aux.toNat)) else none
def cal (P : Prog) (m : Nat) (ins : Instr) (aux : Int) (S : List Value) (k n : Nat) (H : AH) : Option (Nat × List Value × List Value) :=
  match ins with
  | .invokevirtual _ | .invokestatic _ | .invokespecial _ => cal1 P m ins aux S k n H
  | _ => none
def opI : Instr → Option (Int32 → Int32 → Int32)
  | .iadd => some fun x y => x + y
  | .isub => some fun x y => x - y
  | .imul => some fun x y => x * y
  | .iand => some fun x y => x &&& y
  | .ior => some fun x y => x ||| y
  | .ixor => some fun x y => x ^^^ y
  | .ishl => some fun x y => x <<< (y &&& 31)
  | .ishr => some fun x y => x >>> (y &&& 31)
  | .iushr => some Jvm.Free.XT.ushr
  | _ => none
def opJ : Instr → Option (Int64 → Int64 → Int64)
  | .ladd => some fun x y => x + y
  | .lsub => some fun x y => x - y
  | .lmul => some fun x y => x * y
  | .land => some fun x y => x &&& y
  | .lor => some fun x y => x ||| y
  | .lxor => some fun x y => x ^^^ y
  | _ => none
def opS : Instr → Option (Int64 → Int32 → Int64)
  | .lshl => some fun x y => x <<< (y.toInt64 &&& 63)
  | .lshr => some fun x y => x >>> (y.toInt64 &&& 63)
  | .lushr => some Jvm.Free.XT.ushrL
  | _ => none
def stp (P : Prog) (m : Nat) (ins : Instr) (len : Nat) (aux : Int) (pc : Nat) (L : List Slot) (S : List Value) (k n : Nat) (H : AH) : Option Fm :=
  match ins with
  | .iconst i => some (pc + len, L, .int (Int32.ofInt i) :: S, k, n, H)
  | .bipush i => some (pc + len, L, .int (Int8.ofInt i).toInt32 :: S, k, n, H)
  | .sipush i => some (pc + len, L, .int (Int16.ofInt i).toInt32 :: S, k, n, H)
  | .lconst i => some (pc + len, L, .long (Int64.ofNat i) :: S, k, n, H)
  | .ldc _ => some (pc + len, L, .int (Int32.ofInt aux) :: S, k, n, H)
  | .ldc2_w _ => some (pc + len, L, .long (Int64.ofInt aux) :: S, k, n, H)
  | .iload i => (ldI L i).map fun v => (pc + len, L, v :: S, k, n, H)
  | .iload_n i => (ldI L i.val).map fun v => (pc + len, L, v :: S, k, n, H)
  | .lload i => (ldJ L i).map fun v => (pc + len, L, v :: S, k, n, H)
  | .lload_n i => (ldJ L i.val).map fun v => (pc + len, L, v :: S, k, n, H)
  | .aload i => (ldR L i).map fun v => (pc + len, L, v :: S, k, n, H)
  | .aload_n i => (ldR L i.val).map fun v => (pc + len, L, v :: S, k, n, H)
  | .istore i => match S with | .int x :: S => (stl L i (.int x)).map fun L => (pc + len, L, S, k, n, H) | _ => none
  | .istore_n i => match S with | .int x :: S => (stl L i.val (.int x)).map fun L => (pc + len, L, S, k, n, H) | _ => none
  | .astore i => match S with | .ref x :: S => (stl L i (.ref x)).map fun L => (pc + len, L, S, k, n, H) | _ => none
  | .astore_n i => match S with | .ref x :: S => (stl L i.val (.ref x)).map fun L => (pc + len, L, S, k, n, H) | _ => none
  | .lstore i => match S with | .long x :: S => (stL L i (.long x)).map fun L => (pc + len, L, S, k, n, H) | _ => none
  | .lstore_n i => match S with | .long x :: S => (stL L i.val (.long x)).map fun L => (pc + len, L, S, k, n, H) | _ => none
  | .iinc i c => match L[i]? with | some (.val (.int x)) => some (pc + len, L.set i (.val (.int (x + Int32.ofInt c))), S, k, n, H) | _ => none
  | .iadd | .isub | .imul | .iand | .ior | .ixor | .ishl | .ishr | .iushr => match S with | .int y :: .int x :: S => (opI ins).map fun f => (pc + len, L, .int (f x y) :: S, k, n, H) | _ => none
  | .ladd | .lsub | .lmul | .land | .lor | .lxor => match S with | .long y :: .long x :: S => (opJ ins).map fun f => (pc + len, L, .long (f x y) :: S, k, n, H) | _ => none
  | .lshl | .lshr | .lushr => match S with | .int y :: .long x :: S => (opS ins).map fun f => (pc + len, L, .long (f x y) :: S, k, n, H) | _ => none
  | .idiv => match S with | .int y :: .int x :: S => if y = 0 then none else some (pc + len, L, .int (x / y) :: S, k, n, H) | _ => none
  | .irem => match S with | .int y :: .int x :: S => if y = 0 then none else some (pc + len, L, .int (x % y) :: S, k, n, H) | _ => none
  | .ldiv => match S with | .long y :: .long x :: S => if y = 0 then none else some (pc + len, L, .long (x / y) :: S, k, n, H) | _ => none
  | .lrem => match S with | .long y :: .long x :: S => if y = 0 then none else some (pc + len, L, .long (x % y) :: S, k, n, H) | _ => none
  | .ineg => match S with | .int x :: S => some (pc + len, L, .int (-x) :: S, k, n, H) | _ => none
  | .lneg => match S with | .long x :: S => some (pc + len, L, .long (-x) :: S, k, n, H) | _ => none
  | .i2l => match S with | .int x :: S => some (pc + len, L, .long x.toInt64 :: S, k, n, H) | _ => none
  | .l2i => match S with | .long x :: S => some (pc + len, L, .int x.toInt32 :: S, k, n, H) | _ => none
  | .i2b => match S with | .int x :: S => some (pc + len, L, .int x.toInt8.toInt32 :: S, k, n, H) | _ => none
  | .lcmp => match S with | .long y :: .long x :: S => some (pc + len, L, .int (Jvm.Free.XT.cmpL x y) :: S, k, n, H) | _ => none
  | .dup => match S with | v :: S => if v.category = 1 then some (pc + len, L, v :: v :: S, k, n, H) else none | _ => none
  | .dup2 => match S with
    | .long x :: S => some (pc + len, L, .long x :: .long x :: S, k, n, H)
    | v :: w :: S => if v.category = 1 ∧ w.category = 1 then some (pc + len, L, v :: w :: v :: w :: S, k, n, H) else none
    | _ => none
  | .pop => match S with | v :: S => if v.category = 1 then some (pc + len, L, S, k, n, H) else none | _ => none
  | .goto o => (jmp pc o).map fun q => (q, L, S, k, n, H)
  | .ifCond c o => match S with | .int x :: S => if ifCond.holds c x = true then (jmp pc o).map fun q => (q, L, S, k, n, H) else some (pc + len, L, S, k, n, H) | _ => none
  | .if_icmp c o => match S with | .int y :: .int x :: S => if if_icmp.holds c x y = true then (jmp pc o).map fun q => (q, L, S, k, n, H) else some (pc + len, L, S, k, n, H) | _ => none
  | .tableswitch d lo hi os => match S with
    | .int x :: S => if x.toInt < lo ∨ x.toInt > hi then (jmp pc d).map fun q => (q, L, S, k, n, H) else (os[(x.toInt - lo).toNat]?).bind fun o => (jmp pc o).map fun q => (q, L, S, k, n, H)
    | _ => none
  | .getfield _ => match S with | .ref a :: S => if isO H a = true then some (pc + len, L, fld H a aux.toNat :: S, k, n, H) else none | _ => none
  | .putfield _ => match S with | v :: .ref a :: S => if isOw H a = true ∧ okv (P.2.2.1 aux.toNat) v = true then some (pc + len, L, S, k, n, wr H a aux.toNat v) else none | _ => none
  | .iaload => match S with | .int i :: .ref a :: S => if inA H a .int i = true then some (pc + len, L, elt H a i :: S, k, n, H) else none | _ => none
  | .laload => match S with | .int i :: .ref a :: S => if inA H a .long i = true then some (pc + len, L, elt H a i :: S, k, n, H) else none | _ => none
  | .baload => match S with | .int i :: .ref a :: S => if inA H a .byte i = true ∨ inA H a .boolean i = true then some (pc + len, L, elt H a i :: S, k, n, H) else none | _ => none
  | .iastore => match S with | .int x :: .int i :: .ref a :: S => if inAw H a .int i = true then some (pc + len, L, S, k, n, wr H a i.toNatClampNeg (.int x)) else none | _ => none
  | .lastore => match S with | .long x :: .int i :: .ref a :: S => if inAw H a .long i = true then some (pc + len, L, S, k, n, wr H a i.toNatClampNeg (.long x)) else none | _ => none
  | .bastore => match S with
    | .int x :: .int i :: .ref a :: S => if (inAw H a .byte i = true ∧ okv .byte (.int x) = true) ∨ (inAw H a .boolean i = true ∧ okv .boolean (.int x) = true) then some (pc + len, L, S, k, n, wr H a i.toNatClampNeg (.int x)) else none
    | _ => none
  | .arraylength => match S with | .ref a :: S => if isA H a = true then some (pc + len, L, .int (alen H a).toInt32 :: S, k, n, H) else none | _ => none
  | .newarray t => match S with | .int c :: S => if ¬ c < 0 ∧ c.toNatClampNeg * 8 ≤ 536870912 ∧ k + 1 ≤ (rm P m).cells ∧ n + c.toNatClampNeg ≤ (rm P m).slots then some (pc + len, L, .ref H.1 :: S, k + 1, n + c.toNatClampNeg, mkA (newarray.typeOf t) c.toNatClampNeg H) else none | _ => none
  | .new _ => if 0 ≤ aux ∧ k + 1 ≤ (rm P m).cells ∧ n + aux.toNat ≤ (rm P m).slots then some (pc + len, L, .ref H.1 :: S, k + 1, n + aux.toNat, mkO P H) else none
  | .invokespecial _ => match S with | .ref a :: S => if aux = -1 ∧ 1 ≤ (rm P m).frames ∧ cs S + 12 ≤ (rm P m).locals then some (pc + len, L, S, k, n, H) else none | _ => none
  | _ => none
def run (P : Prog) : Nat → Nat → Nat → List Slot → List Value → Nat → Nat → AH → Option (Option Value × AH)
  | 0, _, _, _, _, _, _, _ => none
  | f + 1, m, pc, L, S, k, n, H =>
    match P.1 m pc with
    | none => none
    | some d =>
      match ret P m d.1 S with
      | some v => some (v, H)
      | none => match cal P m d.1 d.2.2 S k n H with
        | some c => match run P f c.1 0 (ent P c.1 c.2.1) [] 0 0 H with
          | none => none
          | some r => run P f m (pc + d.2.1) L (r.1.toList ++ c.2.2) (k + (rm P c.1).cells) (n + (rm P c.1).slots) r.2
        | none => match stp P m d.1 d.2.1 d.2.2 pc L S k n H with
          | none => none
          | some q => run P f m q.1 q.2.1 q.2.2.1 q.2.2.2.1 q.2.2.2.2.1 q.2.2.2.2.2
end Jvm.JX

namespace Jvm.JX
open Sem ClassFile Op Lib
section
variable {P : Prog}
theorem run_succ (f m pc : Nat) (L : List Slot) (S : List Value) (k n : Nat) (H : AH) : run P (f + 1) m pc L S k n H =
    match P.1 m pc with
    | none => none
    | some d =>
      match ret P m d.1 S with
      | some v => some (v, H)
      | none => match cal P m d.1 d.2.2 S k n H with
        | some c => match run P f c.1 0 (ent P c.1 c.2.1) [] 0 0 H with
          | none => none
          | some r => run P f m (pc + d.2.1) L (r.1.toList ++ c.2.2) (k + (rm P c.1).cells) (n + (rm P c.1).slots) r.2
        | none => match stp P m d.1 d.2.1 d.2.2 pc L S k n H with
          | none => none
          | some q => run P f m q.1 q.2.1 q.2.2.1 q.2.2.2.1 q.2.2.2.2.1 q.2.2.2.2.2 := rfl
theorem run_mono : ∀ (f m pc : Nat) (L : List Slot) (S : List Value) (k n : Nat) (H : AH) (r : Option Value × AH), run P f m pc L S k n H = some r → run P (f + 1) m pc L S k n H = some r := by
  intro f
  induction f with
  | zero => intro m pc L S k n H r h; cases h
  | succ f ih =>
    intro m pc L S k n H r h
    rw [run_succ] at h ⊢
    cases hd : P.1 m pc with
    | none => rw [hd] at h; cases h
    | some d =>
      rw [hd] at h
      simp only at h ⊢
      cases hr : ret P m d.1 S with
      | some v => rw [hr] at h; exact h
      | none =>
        rw [hr] at h
        simp only at h ⊢
        cases hc : cal P m d.1 d.2.2 S k n H with
        | some c =>
          rw [hc] at h
          simp only at h ⊢
          cases hq : run P f c.1 0 (ent P c.1 c.2.1) [] 0 0 H with
          | none => rw [hq] at h; cases h
          | some q =>
            rw [hq] at h
            rw [ih _ _ _ _ _ _ _ _ hq]
            exact ih _ _ _ _ _ _ _ _ h
        | none =>
          rw [hc] at h
          simp only at h ⊢
          cases hs : stp P m d.1 d.2.1 d.2.2 pc L S k n H with
          | none => rw [hs] at h; cases h
          | some q => rw [hs] at h; exact ih _ _ _ _ _ _ _ _ h
theorem run_le {f g : Nat} (hfg : f ≤ g) {m pc : Nat} {L : List Slot} {S : List Value} {k n : Nat} {H : AH} {r : Option Value × AH} (h : run P f m pc L S k n H = some r) : run P g m pc L S k n H = some r := by
  induction hfg with
  | refl => exact h
  | step _ ih => exact run_mono _ _ _ _ _ _ _ _ _ ih
end
def W (P : Prog) (m pc : Nat) (L : List Slot) (S : List Value) (k n : Nat) (H : AH) (Q : Option Value → AH → Prop) : Prop := ∃ f v H', run P f m pc L S k n H = some (v, H') ∧ Q v H'
def Cl (P : Prog) (m : Nat) (a : List Value) (H : AH) (Q : Option Value → AH → Prop) : Prop := W P m 0 (ent P m a) [] 0 0 H Q
section Rules
variable {P : Prog} {m pc : Nat} {L : List Slot} {S : List Value} {k n : Nat} {H : AH} {Q : Option Value → AH → Prop} {ins : Instr} {len : Nat} {aux : Int}
theorem W_r {v : Option Value} (hd : P.1 m pc = some (ins, len, aux)) (hr : ret P m ins S = some v) : W P m pc L S k n H Q ↔ Q v H := by
  constructor
  · rintro ⟨f, v', H', h1, h2⟩
    cases f with
    | zero => cases h1
    | succ f => rw [run_succ, hd] at h1; simp only [hr] at h1; cases h1; exact h2
  · intro h
    refine ⟨1, v, H, ?_, h⟩
    rw [run_succ, hd]; simp only [hr]
theorem W_c {m' : Nat} {a r : List Value} (hd : P.1 m pc = some (ins, len, aux)) (hr : ret P m ins S = none) (hc : cal P m ins aux S k n H = some (m', a, r)) :
    W P m pc L S k n H Q ↔ Cl P m' a H (fun v H' => W P m (pc + len) L (v.toList ++ r) (k + (rm P m').cells) (n + (rm P m').slots) H' Q) := by
  constructor
  · rintro ⟨f, v', H', h1, h2⟩
    cases f with
    | zero => cases h1
    | succ f =>
      rw [run_succ, hd] at h1; simp only [hr, hc] at h1
      cases hq : run P f m' 0 (ent P m' a) [] 0 0 H with
      | none => rw [hq] at h1; cases h1
      | some q => rw [hq] at h1; exact ⟨f, q.1, q.2, hq, f, v', H', h1, h2⟩
  · rintro ⟨f, v, H', h1, g, v', H'', h2, h3⟩
    refine ⟨max f g + 1, v', H'', ?_, h3⟩
    rw [run_succ, hd]; simp only [hr, hc]
    rw [run_le (Nat.le_max_left f g) h1]
    exact run_le (Nat.le_max_right f g) h2
theorem W_q (hd : P.1 m pc = some (ins, len, aux)) (hr : ret P m ins S = none) (hc : cal P m ins aux S k n H = none) :
    W P m pc L S k n H Q ↔ ∃ q, stp P m ins len aux pc L S k n H = some q ∧ W P m q.1 q.2.1 q.2.2.1 q.2.2.2.1 q.2.2.2.2.1 q.2.2.2.2.2 Q := by
  constructor
  · rintro ⟨f, v', H', h1, h2⟩
    cases f with
    | zero => cases h1
    | succ f =>
      rw [run_succ, hd] at h1; simp only [hr, hc] at h1
      cases hq : stp P m ins len aux pc L S k n H with
      | none => rw [hq] at h1; cases h1
      | some q => rw [hq] at h1; exact ⟨q, rfl, f, v', H', h1, h2⟩
  · rintro ⟨q, hq, f, v', H', h1, h2⟩
    refine ⟨f + 1, v', H', ?_, h2⟩
    rw [run_succ, hd]; simp only [hr, hc, hq]; exact h1
theorem W_s {pc' : Nat} {L' : List Slot} {S' : List Value} {k' n' : Nat} {H' : AH} (hd : P.1 m pc = some (ins, len, aux)) (hr : ret P m ins S = none) (hc : cal P m ins aux S k n H = none)
    (hs : stp P m ins len aux pc L S k n H = some (pc', L', S', k', n', H')) : W P m pc L S k n H Q ↔ W P m pc' L' S' k' n' H' Q := by
  rw [W_q hd hr hc, hs]
  exact ⟨fun ⟨q, e, h⟩ => by cases e; exact h, fun h => ⟨_, rfl, h⟩⟩
theorem W_g {G : Prop} [Decidable G] {pc' : Nat} {L' : List Slot} {S' : List Value} {k' n' : Nat} {H' : AH} (hd : P.1 m pc = some (ins, len, aux)) (hr : ret P m ins S = none) (hc : cal P m ins aux S k n H = none)
    (hs : stp P m ins len aux pc L S k n H = if G then some (pc', L', S', k', n', H') else none) : W P m pc L S k n H Q ↔ (G ∧ W P m pc' L' S' k' n' H' Q) := by
  rw [W_q hd hr hc, hs]
  by_cases g : G
  · rw [if_pos g]; exact ⟨fun ⟨q, e, h⟩ => by cases e; exact ⟨g, h⟩, fun h => ⟨_, rfl, h.2⟩⟩
  · rw [if_neg g]; exact ⟨fun ⟨q, e, h⟩ => (by cases e), fun h => absurd h.1 g⟩
theorem W_n {G : Prop} [Decidable G] {pc' : Nat} {L' : List Slot} {S' : List Value} {k' n' : Nat} {H' : AH} (hd : P.1 m pc = some (ins, len, aux)) (hr : ret P m ins S = none) (hc : cal P m ins aux S k n H = none)
    (hs : stp P m ins len aux pc L S k n H = if G then none else some (pc', L', S', k', n', H')) : W P m pc L S k n H Q ↔ (¬ G ∧ W P m pc' L' S' k' n' H' Q) := by
  rw [W_q hd hr hc, hs]
  by_cases g : G
  · rw [if_pos g]; exact ⟨fun ⟨q, e, h⟩ => (by cases e), fun h => absurd g h.1⟩
  · rw [if_neg g]; exact ⟨fun ⟨q, e, h⟩ => by cases e; exact ⟨g, h⟩, fun h => ⟨_, rfl, h.2⟩⟩
theorem W_f {G : Prop} [Decidable G] {q1 q2 : Fm} (hd : P.1 m pc = some (ins, len, aux)) (hr : ret P m ins S = none) (hc : cal P m ins aux S k n H = none)
    (hs : stp P m ins len aux pc L S k n H = if G then some q1 else some q2) : W P m pc L S k n H Q ↔ (if G then W P m q1.1 q1.2.1 q1.2.2.1 q1.2.2.2.1 q1.2.2.2.2.1 q1.2.2.2.2.2 Q else W P m q2.1 q2.2.1 q2.2.2.1 q2.2.2.2.1 q2.2.2.2.2.1 q2.2.2.2.2.2 Q) := by
  rw [W_q hd hr hc, hs]
  by_cases g : G
  · rw [if_pos g, if_pos g]; exact ⟨fun ⟨q, e, h⟩ => by cases e; exact h, fun h => ⟨_, rfl, h⟩⟩
  · rw [if_neg g, if_neg g]; exact ⟨fun ⟨q, e, h⟩ => by cases e; exact h, fun h => ⟨_, rfl, h⟩⟩
section Cmp
variable {x y : Int32} {o : Int} {q : Nat}
theorem W_icmp_eq (hd : P.1 m pc = some (.if_icmp .eq o, len, aux)) (hj : jmp pc o = some q) : W P m pc L (.int y :: .int x :: S) k n H Q ↔ (if x = y then W P m q L S k n H Q else W P m (pc + len) L S k n H Q) :=
  W_f (G := x = y) (q1 := (q, L, S, k, n, H)) (q2 := (pc + len, L, S, k, n, H)) hd rfl rfl (by simp only [stp, hj, if_icmp.holds]; by_cases h : x = y <;> simp [h])
theorem W_icmp_ne (hd : P.1 m pc = some (.if_icmp .ne o, len, aux)) (hj : jmp pc o = some q) : W P m pc L (.int y :: .int x :: S) k n H Q ↔ (if x = y then W P m (pc + len) L S k n H Q else W P m q L S k n H Q) :=
  W_f (G := x = y) (q1 := (pc + len, L, S, k, n, H)) (q2 := (q, L, S, k, n, H)) hd rfl rfl (by simp only [stp, hj, if_icmp.holds]; by_cases h : x = y <;> simp [h])
theorem W_icmp_lt (hd : P.1 m pc = some (.if_icmp .lt o, len, aux)) (hj : jmp pc o = some q) : W P m pc L (.int y :: .int x :: S) k n H Q ↔ (if x < y then W P m q L S k n H Q else W P m (pc + len) L S k n H Q) :=
  W_f (G := x < y) (q1 := (q, L, S, k, n, H)) (q2 := (pc + len, L, S, k, n, H)) hd rfl rfl (by
    by_cases h : x < y
    · simp [stp, hj, Jvm.Free.XT.ii_lt_t h, h]
    · simp [stp, hj, Jvm.Free.XT.ii_lt_f h, h])
theorem W_icmp_ge (hd : P.1 m pc = some (.if_icmp .ge o, len, aux)) (hj : jmp pc o = some q) : W P m pc L (.int y :: .int x :: S) k n H Q ↔ (if x < y then W P m (pc + len) L S k n H Q else W P m q L S k n H Q) :=
  W_f (G := x < y) (q1 := (pc + len, L, S, k, n, H)) (q2 := (q, L, S, k, n, H)) hd rfl rfl (by
    by_cases h : x < y
    · simp [stp, hj, Jvm.Free.XT.ii_ge_f h, h]
    · simp [stp, hj, Jvm.Free.XT.ii_ge_t h, h])
theorem W_icmp_gt (hd : P.1 m pc = some (.if_icmp .gt o, len, aux)) (hj : jmp pc o = some q) : W P m pc L (.int y :: .int x :: S) k n H Q ↔ (if y < x then W P m q L S k n H Q else W P m (pc + len) L S k n H Q) :=
  W_f (G := y < x) (q1 := (q, L, S, k, n, H)) (q2 := (pc + len, L, S, k, n, H)) hd rfl rfl (by
    by_cases h : y < x
    · simp [stp, hj, Jvm.Free.XT.ii_gt_t h, h]
    · simp [stp, hj, Jvm.Free.XT.ii_gt_f h, h])
theorem W_icmp_le (hd : P.1 m pc = some (.if_icmp .le o, len, aux)) (hj : jmp pc o = some q) : W P m pc L (.int y :: .int x :: S) k n H Q ↔ (if y < x then W P m (pc + len) L S k n H Q else W P m q L S k n H Q) :=
  W_f (G := y < x) (q1 := (pc + len, L, S, k, n, H)) (q2 := (q, L, S, k, n, H)) hd rfl rfl (by
    by_cases h : y < x
    · simp [stp, hj, Jvm.Free.XT.ii_le_f h, h]
    · simp [stp, hj, Jvm.Free.XT.ii_le_t h, h])
theorem W_if_eq (hd : P.1 m pc = some (.ifCond .eq o, len, aux)) (hj : jmp pc o = some q) : W P m pc L (.int x :: S) k n H Q ↔ (if x = 0 then W P m q L S k n H Q else W P m (pc + len) L S k n H Q) :=
  W_f (G := x = 0) (q1 := (q, L, S, k, n, H)) (q2 := (pc + len, L, S, k, n, H)) hd rfl rfl (by
    by_cases h : x = 0
    · have e := Jvm.Free.XT.i0_eq_t h; simp only [stp, hj, e, if_pos h, if_true, Option.map_some]
    · simp [stp, hj, Jvm.Free.XT.i0_eq_f h, h])
theorem W_if_ne (hd : P.1 m pc = some (.ifCond .ne o, len, aux)) (hj : jmp pc o = some q) : W P m pc L (.int x :: S) k n H Q ↔ (if x = 0 then W P m (pc + len) L S k n H Q else W P m q L S k n H Q) :=
  W_f (G := x = 0) (q1 := (pc + len, L, S, k, n, H)) (q2 := (q, L, S, k, n, H)) hd rfl rfl (by
    by_cases h : x = 0
    · have e := Jvm.Free.XT.i0_ne_f h; simp only [stp, hj, e, if_pos h, Bool.false_eq_true, if_false]
    · simp [stp, hj, Jvm.Free.XT.i0_ne_t h, h])
theorem W_if_lt (hd : P.1 m pc = some (.ifCond .lt o, len, aux)) (hj : jmp pc o = some q) : W P m pc L (.int x :: S) k n H Q ↔ (if x < 0 then W P m q L S k n H Q else W P m (pc + len) L S k n H Q) :=
  W_f (G := x < 0) (q1 := (q, L, S, k, n, H)) (q2 := (pc + len, L, S, k, n, H)) hd rfl rfl (by
    by_cases h : x < 0
    · simp [stp, hj, Jvm.Free.XT.i0_lt_t h, h]
    · simp [stp, hj, Jvm.Free.XT.i0_lt_f h, h])
theorem W_if_le (hd : P.1 m pc = some (.ifCond .le o, len, aux)) (hj : jmp pc o = some q) : W P m pc L (.int x :: S) k n H Q ↔ (if 0 < x then W P m (pc + len) L S k n H Q else W P m q L S k n H Q) :=
  W_f (G := 0 < x) (q1 := (pc + len, L, S, k, n, H)) (q2 := (q, L, S, k, n, H)) hd rfl rfl (by
    by_cases h : 0 < x
    · simp [stp, hj, Jvm.Free.XT.i0_le_f h, h]
    · simp [stp, hj, Jvm.Free.XT.i0_le_t h, h])
theorem W_goto (hd : P.1 m pc = some (.goto o, len, aux)) (hj : jmp pc o = some q) : W P m pc L S k n H Q ↔ W P m q L S k n H Q := W_s hd rfl rfl (by simp [stp, hj])
end Cmp
section Sto
variable {i : Nat} {o o2 : Slot} {x y : Int32} {v : Value} {l : Int64} {a : Nat}
theorem stl_plain (h : L[i]? = some o) (ho : cat1 o = true) : stl L i v = some (L.set i (.val v)) := by
  unfold stl
  rw [h]
  cases o with
  | unset => rfl
  | second => cases ho
  | val w => simp only [cat1, beq_iff_eq] at ho; simp [ho]
theorem W_ist (hd : P.1 m pc = some (.istore i, len, aux)) (h : L[i]? = some o) (ho : cat1 o = true) : W P m pc L (.int x :: S) k n H Q ↔ W P m (pc + len) (L.set i (.val (.int x))) S k n H Q := W_s hd rfl rfl (by simp [stp, stl_plain h ho])
theorem W_istn {i : Fin 4} (hd : P.1 m pc = some (.istore_n i, len, aux)) (h : L[i.val]? = some o) (ho : cat1 o = true) : W P m pc L (.int x :: S) k n H Q ↔ W P m (pc + len) (L.set i.val (.val (.int x))) S k n H Q := W_s hd rfl rfl (by simp [stp, stl_plain h ho])
theorem W_astn {i : Fin 4} (hd : P.1 m pc = some (.astore_n i, len, aux)) (h : L[i.val]? = some o) (ho : cat1 o = true) : W P m pc L (.ref a :: S) k n H Q ↔ W P m (pc + len) (L.set i.val (.val (.ref a))) S k n H Q := W_s hd rfl rfl (by simp [stp, stl_plain h ho])
theorem cat1_unset : cat1 .unset = true := rfl
theorem cat1_int : cat1 (.val (.int x)) = true := rfl
theorem cat1_ref : cat1 (.val (.ref a)) = true := rfl
theorem cs_nil : cs [] = 0 := by simp [cs]
theorem cs_int : cs (.int x :: S) = 1 + cs S := by simp [cs, Value.category]
theorem cs_ref : cs (.ref a :: S) = 1 + cs S := by simp [cs, Value.category]
theorem cs_long : cs (.long l :: S) = 2 + cs S := by simp [cs, Value.category]
end Sto
section Heap
variable {a j : Nat} {i x c : Int32} {v : Value} {l : Int64}
theorem W_getf {ix : Nat} (hd : P.1 m pc = some (.getfield ix, len, aux)) : W P m pc L (.ref a :: S) k n H Q ↔ (isO H a = true ∧ W P m (pc + len) L (fld H a aux.toNat :: S) k n H Q) := W_g hd rfl rfl rfl
theorem W_putf {ix : Nat} (hd : P.1 m pc = some (.putfield ix, len, aux)) : W P m pc L (v :: .ref a :: S) k n H Q ↔ ((isOw H a = true ∧ okv (P.2.2.1 aux.toNat) v = true) ∧ W P m (pc + len) L S k n (wr H a aux.toNat v) Q) := W_g hd rfl rfl rfl
theorem W_iaload (hd : P.1 m pc = some (.iaload, len, aux)) : W P m pc L (.int i :: .ref a :: S) k n H Q ↔ (inA H a .int i = true ∧ W P m (pc + len) L (elt H a i :: S) k n H Q) := W_g hd rfl rfl rfl
theorem W_baload (hd : P.1 m pc = some (.baload, len, aux)) : W P m pc L (.int i :: .ref a :: S) k n H Q ↔ ((inA H a .byte i = true ∨ inA H a .boolean i = true) ∧ W P m (pc + len) L (elt H a i :: S) k n H Q) := W_g hd rfl rfl rfl
theorem W_iastore (hd : P.1 m pc = some (.iastore, len, aux)) : W P m pc L (.int x :: .int i :: .ref a :: S) k n H Q ↔ (inAw H a .int i = true ∧ W P m (pc + len) L S k n (wr H a i.toNatClampNeg (.int x)) Q) := W_g hd rfl rfl rfl
theorem W_bastore (hd : P.1 m pc = some (.bastore, len, aux)) : W P m pc L (.int x :: .int i :: .ref a :: S) k n H Q ↔ (((inAw H a .byte i = true ∧ okv .byte (.int x) = true) ∨ (inAw H a .boolean i = true ∧ okv .boolean (.int x) = true)) ∧ W P m (pc + len) L S k n (wr H a i.toNatClampNeg (.int x)) Q) := W_g hd rfl rfl rfl
theorem W_alen (hd : P.1 m pc = some (.arraylength, len, aux)) : W P m pc L (.ref a :: S) k n H Q ↔ (isA H a = true ∧ W P m (pc + len) L (.int (alen H a).toInt32 :: S) k n H Q) := W_g hd rfl rfl rfl
theorem W_newarr {t : ArrayType} (hd : P.1 m pc = some (.newarray t, len, aux)) : W P m pc L (.int c :: S) k n H Q ↔ ((¬ c < 0 ∧ c.toNatClampNeg * 8 ≤ 536870912 ∧ k + 1 ≤ (rm P m).cells ∧ n + c.toNatClampNeg ≤ (rm P m).slots) ∧ W P m (pc + len) L (.ref H.1 :: S) (k + 1) (n + c.toNatClampNeg) (mkA (newarray.typeOf t) c.toNatClampNeg H) Q) := W_g hd rfl rfl rfl
theorem W_new {ix : Nat} (hd : P.1 m pc = some (.new ix, len, aux)) : W P m pc L S k n H Q ↔ ((0 ≤ aux ∧ k + 1 ≤ (rm P m).cells ∧ n + aux.toNat ≤ (rm P m).slots) ∧ W P m (pc + len) L (.ref H.1 :: S) (k + 1) (n + aux.toNat) (mkO P H) Q) := W_g hd rfl rfl rfl
theorem W_oinit {ix : Nat} (hd : P.1 m pc = some (.invokespecial ix, len, -1)) : W P m pc L (.ref a :: S) k n H Q ↔ ((1 ≤ (rm P m).frames ∧ cs S + 12 ≤ (rm P m).locals) ∧ W P m (pc + len) L S k n H Q) :=
  W_g (G := 1 ≤ (rm P m).frames ∧ cs S + 12 ≤ (rm P m).locals) hd rfl (by simp [cal, cal1]) (by simp [stp])
theorem W_irem {y : Int32} (hd : P.1 m pc = some (.irem, len, aux)) : W P m pc L (.int y :: .int x :: S) k n H Q ↔ (¬ y = 0 ∧ W P m (pc + len) L (.int (x % y) :: S) k n H Q) := W_n hd rfl rfl rfl
end Heap
section Call
variable {m' : Nat} {a r : List Value} {b : Nat}
theorem cal_eq (hk : kindOk ins (kd P m') = true) (hl : a.length = na P m') : cal P m ins (m' : Int) (a.reverse ++ r) k n H = if may P m m' a r k n H = true then some (m', a, r) else none := by
  have e1 : (a.reverse ++ r).take (na P m') = a.reverse := by rw [← hl, ← List.length_reverse (as := a)]; exact List.take_left ..
  have e2 : (a.reverse ++ r).drop (na P m') = r := by rw [← hl, ← List.length_reverse (as := a)]; exact List.drop_left ..
  have key : cal1 P m ins (m' : Int) (a.reverse ++ r) k n H = if may P m m' a r k n H = true then some (m', a, r) else none := by
    unfold cal1
    rw [Int.toNat_natCast, e1, e2, List.reverse_reverse]
    simp [hk]
  cases ins <;> first | exact key | (cases hk)
theorem W_call (hd : P.1 m pc = some (ins, len, (m' : Int))) (hr : ret P m ins S = none) (hk : kindOk ins (kd P m') = true) (hl : a.length = na P m') (hS : S = a.reverse ++ r) (hns : stp P m ins len (m' : Int) pc L S k n H = none) :
    W P m pc L S k n H Q ↔ (may P m m' a r k n H = true ∧ Cl P m' a H (fun v H' => W P m (pc + len) L (v.toList ++ r) (k + (rm P m').cells) (n + (rm P m').slots) H' Q)) := by
  have hc : cal P m ins (m' : Int) S k n H = if may P m m' a r k n H = true then some (m', a, r) else none := by rw [hS]; exact cal_eq hk hl
  by_cases g : may P m m' a r k n H = true
  · rw [if_pos g] at hc
    rw [W_c hd hr hc]; simp [g]
  · rw [if_neg g] at hc
    rw [W_q hd hr hc, hns]
    exact ⟨fun ⟨q, e, h⟩ => (by cases e), fun h => absurd h.1 g⟩
theorem W_inst {ix : Nat} {as : List Value} (hd : P.1 m pc = some (.invokevirtual ix, len, (m' : Int))) (hk : kindOk (.invokevirtual ix) (kd P m') = true) (hl : as.length + 1 = na P m') (hS : S = as.reverse ++ .ref b :: r)
    (h1 : (Sym.laidSlots (.ref b :: as)).length ≤ ml P m') (h2 : (rm P m').frames + 1 ≤ (rm P m).frames) (h3 : (rm P m').cells = 0 ∧ (rm P m').slots = 0) :
    W P m pc L S k n H Q ↔ ((isO H b = true ∧ cs r + (ml P m' + 11) + (rm P m').locals ≤ (rm P m).locals) ∧ Cl P m' (.ref b :: as) H (fun v H' => W P m (pc + len) L (v.toList ++ r) k n H' Q)) := by
  rw [W_call (a := .ref b :: as) (r := r) hd rfl hk hl (by rw [hS]; simp) rfl]
  have e : may P m m' (.ref b :: as) r k n H = true ↔ (isO H b = true ∧ cs r + (ml P m' + 11) + (rm P m').locals ≤ (rm P m).locals) := by
    have hk0 : kd P m' ≠ 0 := by intro h; rw [h] at hk; cases hk
    simp [may, rcv, h1, h2, h3, ← hl, hk0]; exact And.comm
  rw [e, h3.1, h3.2]; rfl
theorem W_stat {ix : Nat} (hd : P.1 m pc = some (.invokestatic ix, len, (m' : Int))) (hk : kindOk (.invokestatic ix) (kd P m') = true) (hl : a.length = na P m') (hS : S = a.reverse ++ r)
    (h1 : (Sym.laidSlots a).length ≤ ml P m') (h2 : (rm P m').frames + 1 ≤ (rm P m).frames) (h3 : (rm P m').cells = 0 ∧ (rm P m').slots = 0) :
    W P m pc L S k n H Q ↔ ((cs r + (ml P m' + 11) + (rm P m').locals ≤ (rm P m).locals) ∧ Cl P m' a H (fun v H' => W P m (pc + len) L (v.toList ++ r) k n H' Q)) := by
  rw [W_call (a := a) (r := r) hd rfl hk hl hS rfl]
  have e : may P m m' a r k n H = true ↔ (cs r + (ml P m' + 11) + (rm P m').locals ≤ (rm P m).locals) := by
    have hk0 : kd P m' = 0 := by simpa [kindOk] using hk
    simp [may, h1, h2, h3, hl, hk0]
  rw [e, h3.1, h3.2]; rfl
theorem W_init {ix : Nat} {as : List Value} (hd : P.1 m pc = some (.invokespecial ix, len, (m' : Int))) (hk : kindOk (.invokespecial ix) (kd P m') = true) (hl : as.length + 1 = na P m') (hS : S = as.reverse ++ .ref b :: r)
    (h1 : (Sym.laidSlots (.ref b :: as)).length ≤ ml P m') (h2 : (rm P m').frames + 1 ≤ (rm P m).frames) (h3 : ¬ ((rm P m').cells = 0 ∧ (rm P m').slots = 0)) :
    W P m pc L S k n H Q ↔ ((isO H b = true ∧ cs r + (ml P m' + 11) + (rm P m').locals ≤ (rm P m).locals ∧ k + (rm P m').cells ≤ (rm P m).cells ∧ n + (rm P m').slots ≤ (rm P m).slots) ∧ Cl P m' (.ref b :: as) H (fun v H' => W P m (pc + len) L (v.toList ++ r) (k + (rm P m').cells) (n + (rm P m').slots) H' Q)) := by
  have hns : stp P m (.invokespecial ix) len (m' : Int) pc L S k n H = none := by
    dsimp only [stp]
    split
    · rw [if_neg]; omega
    · rfl
  rw [W_call (a := .ref b :: as) (r := r) hd rfl hk hl (by rw [hS]; simp) hns]
  have e : may P m m' (.ref b :: as) r k n H = true ↔ (isO H b = true ∧ cs r + (ml P m' + 11) + (rm P m').locals ≤ (rm P m).locals ∧ k + (rm P m').cells ≤ (rm P m).cells ∧ n + (rm P m').slots ≤ (rm P m).slots) := by
    have hk0 : kd P m' ≠ 0 := by intro h; rw [h] at hk; cases hk
    simp only [may, rcv, h1, h2, h3, ← hl, hk0, List.length_cons, decide_true, decide_false, Bool.true_and, Bool.false_or, Bool.and_eq_true, decide_eq_true_eq]
    constructor
    · rintro ⟨⟨q1, q2⟩, q3⟩; exact ⟨q3, q1, q2⟩
    · rintro ⟨q3, q1, q2⟩; exact ⟨⟨q1, q2⟩, q3⟩
  rw [e]
end Call
section Last
theorem W_rz {x : Int32} (hd : P.1 m pc = some (.ireturn, len, aux)) (hr : rt P m = some .boolean) : W P m pc L (.int x :: S) k n H Q ↔ ((x = 0 ∨ x = 1) ∧ Q (some (.int x)) H) := by
  by_cases g : x = 0 ∨ x = 1
  · rw [W_r hd (by simp only [ret, hr]; rw [if_pos g])]; simp [g]
  · rw [W_q hd (by simp only [ret, hr]; rw [if_neg g]) rfl]
    constructor
    · rintro ⟨q, e, -⟩; cases e
    · intro h; exact absurd h.1 g
theorem W_newarr' {t : ArrayType} {c : Int32} {N : Nat} (hd : P.1 m pc = some (.newarray t, len, aux)) (hN : c.toNatClampNeg = N) (h1 : ¬ c < 0) (h2 : N * 8 ≤ 536870912) :
    W P m pc L (.int c :: S) k n H Q ↔ ((k + 1 ≤ (rm P m).cells ∧ n + N ≤ (rm P m).slots) ∧ W P m (pc + len) L (.ref H.1 :: S) (k + 1) (n + N) (mkA (newarray.typeOf t) N H) Q) := by
  rw [W_newarr hd, hN]; simp [h1, h2]
theorem W_new' {ix : Nat} (hd : P.1 m pc = some (.new ix, len, aux)) (h0 : 0 ≤ aux) : W P m pc L S k n H Q ↔ ((k + 1 ≤ (rm P m).cells ∧ n + aux.toNat ≤ (rm P m).slots) ∧ W P m (pc + len) L (.ref H.1 :: S) (k + 1) (n + aux.toNat) (mkO P H) Q) := by
  rw [W_new hd]; simp [h0]
def tswW (f : Nat → Prop) (x : Int32) (d : Nat) : Int → List Nat → Prop
  | _, [] => f d
  | lo, q :: qs => if x = Int32.ofInt lo then f q else tswW f x d (lo + 1) qs
theorem tswW_eq (f : Nat → Prop) (x : Int32) (d : Nat) : ∀ (qs : List Nat) (lo : Int), -2147483648 ≤ lo → lo + qs.length ≤ 2147483648 → (tswW f x d lo qs ↔ f (if x.toInt < lo ∨ lo + qs.length ≤ x.toInt then d else qs.getD (x.toInt - lo).toNat d)) := by
  intro qs
  induction qs with
  | nil => intro lo h1 h2; simp only [tswW, List.length_nil]; rw [if_pos (by omega)]
  | cons q qs ih =>
    intro lo h1 h2
    simp only [List.length_cons] at h2 ⊢
    have hx : x = Int32.ofInt lo ↔ x.toInt = lo := by
      rw [← Int32.toInt_inj, Int32.toInt_ofInt_of_le (by omega) (by omega)]
    simp only [tswW]
    by_cases e : x.toInt = lo
    · rw [if_pos (hx.mpr e), if_neg (by omega)]
      have : (x.toInt - lo).toNat = 0 := by omega
      rw [this]; rfl
    · rw [if_neg (fun h => e (hx.mp h)), ih (lo + 1) (by omega) (by omega)]
      by_cases g : x.toInt < lo ∨ lo + ((qs.length : Int) + 1) ≤ x.toInt
      · rw [if_pos (by omega), if_pos (by omega)]
      · rw [if_neg (by omega), if_neg (by omega)]
        have : (x.toInt - lo).toNat = (x.toInt - (lo + 1)).toNat + 1 := by omega
        rw [this]; rfl
theorem W_tsw {x : Int32} {d lo hi : Int} {os : Array Int} {qs : List Nat} {dq : Nat} (hd : P.1 m pc = some (.tableswitch d lo hi os, len, aux)) (h0 : jmp pc d = some dq) (h1 : os.toList.map (jmp pc) = qs.map some) (h2 : -2147483648 ≤ lo ∧ lo + qs.length ≤ 2147483648 ∧ hi = lo + qs.length - 1) :
    W P m pc L (.int x :: S) k n H Q ↔ tswW (fun q => W P m q L S k n H Q) x dq lo qs := by
  rw [tswW_eq _ _ _ _ _ h2.1 h2.2.1]
  have hlen : os.size = qs.length := by have := congrArg List.length h1; simpa using this
  refine W_s hd rfl rfl ?_
  show (if x.toInt < lo ∨ x.toInt > hi then (jmp pc d).map fun q => (q, L, S, k, n, H) else (os[(x.toInt - lo).toNat]?).bind fun o => (jmp pc o).map fun q => (q, L, S, k, n, H)) = _
  by_cases g : x.toInt < lo ∨ x.toInt > hi
  · rw [if_pos g, if_pos (by omega), h0]; rfl
  · rw [if_neg g, if_neg (by omega)]
    have hi2 : (x.toInt - lo).toNat < qs.length := by omega
    have e1 : (os.toList.map (jmp pc))[(x.toInt - lo).toNat]? = some (some (qs.getD (x.toInt - lo).toNat dq)) := by
      rw [h1]; simp [hi2]
    rw [List.getElem?_map, Array.getElem?_toList] at e1
    obtain ⟨o, ho, hj⟩ := Option.map_eq_some_iff.mp e1
    rw [ho]; simp [hj]
theorem cmpL_lt {x y : Int64} : Jvm.Free.XT.cmpL x y < 0 ↔ x < y := by
  unfold Jvm.Free.XT.cmpL
  by_cases h1 : y < x
  · rw [if_pos h1]; exact ⟨fun h => absurd h (by decide), fun h => by rw [Int64.lt_iff_toInt_lt] at *; omega⟩
  · rw [if_neg h1]
    by_cases h2 : x = y
    · rw [if_pos h2]; exact ⟨fun h => absurd h (by decide), fun h => by subst h2; rw [Int64.lt_iff_toInt_lt] at *; omega⟩
    · rw [if_neg h2]; refine ⟨fun _ => ?_, fun _ => by decide⟩
      rw [Int64.lt_iff_toInt_lt] at *; rw [← Int64.toInt_inj] at h2; omega
theorem cmpL_gt {x y : Int64} : 0 < Jvm.Free.XT.cmpL x y ↔ y < x := by
  unfold Jvm.Free.XT.cmpL
  by_cases h1 : y < x
  · rw [if_pos h1]; exact ⟨fun _ => h1, fun _ => by decide⟩
  · rw [if_neg h1]
    by_cases h2 : x = y
    · rw [if_pos h2]; exact ⟨fun h => absurd h (by decide), fun h => absurd h h1⟩
    · rw [if_neg h2]; exact ⟨fun h => absurd h (by decide), fun h => absurd h h1⟩
theorem cmpL_eq {x y : Int64} : Jvm.Free.XT.cmpL x y = 0 ↔ x = y := by
  unfold Jvm.Free.XT.cmpL
  by_cases h1 : y < x
  · rw [if_pos h1]; exact ⟨fun h => absurd h (by decide), fun h => by subst h; rw [Int64.lt_iff_toInt_lt] at h1; omega⟩
  · rw [if_neg h1]
    by_cases h2 : x = y
    · rw [if_pos h2]; exact ⟨fun _ => h2, fun _ => rfl⟩
    · rw [if_neg h2]; exact ⟨fun h => absurd h (by decide), fun h => absurd h h2⟩
end Last
end Rules
abbrev LW : Type := (Nat → Nat → Option (Instr × Nat × Int)) × (Nat → MInfo)
abbrev Row : Type := Nat × Instr × Nat × Int
end Jvm.JX

namespace Jvm.JX
open Sem ClassFile Op Lib
abbrev St : Type := (Nat → Int32) × (Nat → Int64) × (Nat → Nat → Int32) × (Nat → Nat → Int64)
abbrev Lay : Type := List (FieldType × Nat) × List (FieldType × Nat)
def sI (s : St) (k : Nat) : Int32 := s.1 k
def sJ (s : St) (k : Nat) : Int64 := s.2.1 k
def sA (s : St) (t i : Nat) : Int32 := s.2.2.1 t i
def sB (s : St) (t i : Nat) : Int64 := s.2.2.2 t i
def uI (s : St) (k : Nat) (v : Int32) : St := (fun j => if j = k then v else s.1 j, s.2.1, s.2.2.1, s.2.2.2)
def uJ (s : St) (k : Nat) (v : Int64) : St := (s.1, fun j => if j = k then v else s.2.1 j, s.2.2.1, s.2.2.2)
def uA (s : St) (t i : Nat) (v : Int32) : St := (s.1, s.2.1, fun t' i' => if t' = t ∧ i' = i then v else s.2.2.1 t' i', s.2.2.2)
def uB (s : St) (t i : Nat) (v : Int64) : St := (s.1, s.2.1, s.2.2.1, fun t' i' => if t' = t ∧ i' = i then v else s.2.2.2 t' i')
def z0 : St := (fun _ => 0, fun _ => 0, fun _ _ => 0, fun _ _ => 0)
section St
variable {s : St} {k j t i t' i' : Nat} {v : Int32} {w : Int64}
theorem sI_uI : sI (uI s k v) j = if j = k then v else sI s j := by simp [sI, sJ, sA, sB, uI, uJ, uA, uB, z0]
theorem sI_uJ : sI (uJ s k w) j = sI s j := by simp [sI, sJ, sA, sB, uI, uJ, uA, uB, z0]
theorem sI_uA : sI (uA s t i v) j = sI s j := by simp [sI, sJ, sA, sB, uI, uJ, uA, uB, z0]
theorem sI_uB : sI (uB s t i w) j = sI s j := by simp [sI, sJ, sA, sB, uI, uJ, uA, uB, z0]
theorem sJ_uI : sJ (uI s k v) j = sJ s j := by simp [sI, sJ, sA, sB, uI, uJ, uA, uB, z0]
theorem sJ_uJ : sJ (uJ s k w) j = if j = k then w else sJ s j := by simp [sI, sJ, sA, sB, uI, uJ, uA, uB, z0]
theorem sJ_uA : sJ (uA s t i v) j = sJ s j := by simp [sI, sJ, sA, sB, uI, uJ, uA, uB, z0]
theorem sJ_uB : sJ (uB s t i w) j = sJ s j := by simp [sI, sJ, sA, sB, uI, uJ, uA, uB, z0]
theorem sA_uI : sA (uI s k v) t' i' = sA s t' i' := by simp [sI, sJ, sA, sB, uI, uJ, uA, uB, z0]
theorem sA_uJ : sA (uJ s k w) t' i' = sA s t' i' := by simp [sI, sJ, sA, sB, uI, uJ, uA, uB, z0]
theorem sA_uA : sA (uA s t i v) t' i' = if t' = t ∧ i' = i then v else sA s t' i' := by simp [sI, sJ, sA, sB, uI, uJ, uA, uB, z0]
theorem sA_uB : sA (uB s t i w) t' i' = sA s t' i' := by simp [sI, sJ, sA, sB, uI, uJ, uA, uB, z0]
theorem sB_uI : sB (uI s k v) t' i' = sB s t' i' := by simp [sI, sJ, sA, sB, uI, uJ, uA, uB, z0]
theorem sB_uJ : sB (uJ s k w) t' i' = sB s t' i' := by simp [sI, sJ, sA, sB, uI, uJ, uA, uB, z0]
theorem sB_uA : sB (uA s t i v) t' i' = sB s t' i' := by simp [sI, sJ, sA, sB, uI, uJ, uA, uB, z0]
theorem sB_uB : sB (uB s t i w) t' i' = if t' = t ∧ i' = i then w else sB s t' i' := by simp [sI, sJ, sA, sB, uI, uJ, uA, uB, z0]
theorem sI_z0 : sI z0 k = 0 := by simp [sI, sJ, sA, sB, uI, uJ, uA, uB, z0]
theorem sJ_z0 : sJ z0 k = 0 := by simp [sI, sJ, sA, sB, uI, uJ, uA, uB, z0]
theorem sA_z0 : sA z0 t i = 0 := by simp [sI, sJ, sA, sB, uI, uJ, uA, uB, z0]
theorem sB_z0 : sB z0 t i = 0 := by simp [sI, sJ, sA, sB, uI, uJ, uA, uB, z0]
theorem St_ext {s s' : St} (h1 : ∀ k, sI s k = sI s' k) (h2 : ∀ k, sJ s k = sJ s' k) (h3 : ∀ t i, sA s t i = sA s' t i) (h4 : ∀ t i, sB s t i = sB s' t i) : s = s' :=
  Prod.ext (funext h1) (Prod.ext (funext h2) (Prod.ext (funext fun t => funext (h3 t)) (funext fun t => funext (h4 t))))
end St
def zr (s : St) (t : Nat) : Prop := (∀ i, sA s t i = 0) ∧ ∀ i, sB s t i = 0
theorem zr_z0 {t : Nat} : zr z0 t = True := by simp [zr, sA_z0, sB_z0]
theorem zr_uI {s : St} {t k : Nat} {v : Int32} : zr (uI s k v) t = zr s t := by simp [zr, sA_uI, sB_uI]
theorem zr_uJ {s : St} {t k : Nat} {v : Int64} : zr (uJ s k v) t = zr s t := by simp [zr, sA_uJ, sB_uJ]
def fvl (y : Lay) (j p : Nat) (s : St) (k : Nat) : Value := match y.1[k]? with
  | some (.long, _) => .long (sJ s k)
  | some (.array _, t) => if t ≤ j then .ref (p + t) else .null
  | _ => .int (sI s k)
def blk (y : Lay) (j p : Nat) (s : St) : Nat → Cel
  | 0 => (.object "", y.1.length, true, fvl y j p s)
  | t + 1 => match y.2[t]? with
    | some (.long, n) => (.array .long, n, true, fun i => .long (sB s (t + 1) i))
    | some (ty, n) => (.array ty, n, true, fun i => .int (sA s (t + 1) i))
    | none => (.char, 0, false, fun _ => .null)
def put (y : Lay) (j : Nat) (H : AH) (p : Nat) (s : St) : AH := (H.1, fun a => if p ≤ a ∧ a ≤ p + j then blk y j p s (a - p) else H.2 a)
section Put
variable {y : Lay} {j : Nat} {H : AH} {p : Nat} {s : St} {k t n : Nat} {ty : FieldType} {i : Int32}
theorem put_0 : (put y j H p s).2 p = (.object "", y.1.length, true, fvl y j p s) := by simp [put, blk]
theorem put_t (ht : t ≤ j) : (put y j H p s).2 (p + t) = blk y j p s t := by simp [put, ht]
theorem put_ot {a : Nat} (h : a < p ∨ p + j < a) : (put y j H p s).2 a = H.2 a := by
  have : ¬ (p ≤ a ∧ a ≤ p + j) := by omega
  simp [put, this]
theorem isO_put : isO (put y j H p s) p = true := by simp [isO, put_0]
theorem isOw_put : isOw (put y j H p s) p = true := by simp [isOw, isO_put, put_0]
theorem fld_I (h : y.1[k]? = some (ty, t)) (hl : ty ≠ .long) (ha : ∀ e, ty ≠ .array e) : fld (put y j H p s) p k = .int (sI s k) := by
  simp only [fld, put_0, fvl, h]; cases ty <;> first | rfl | exact absurd rfl hl | exact absurd rfl (ha _)
theorem fld_R (h : y.1[k]? = some (.array ty, t)) (ht : t ≤ j) : fld (put y j H p s) p k = .ref (p + t) := by simp only [fld, put_0, fvl, h, ht, if_true]
theorem blk_I (h : y.2[t]? = some (ty, n)) (hl : ty ≠ .long) : blk y j p s (t + 1) = (.array ty, n, true, fun i => .int (sA s (t + 1) i)) := by
  simp only [blk, h]
theorem clamp_lt {i : Int32} {n : Nat} : (¬ i < 0 ∧ i.toNatClampNeg < n) ↔ (0 ≤ i.toInt ∧ i.toInt < n) := by
  simp only [Int32.lt_iff_toInt_lt, Int32.toNatClampNeg, Int32.reduceToInt]; omega
theorem inA_I (h : y.2[t]? = some (ty, n)) (hl : ty ≠ .long) (ht : t + 1 ≤ j) : inA (put y j H p s) (p + (t + 1)) ty i = true ↔ (0 ≤ i.toInt ∧ i.toInt < n) := by
  rw [← clamp_lt]; simp [inA, put_t ht, blk_I h hl]
theorem inA_no {ty' : FieldType} (h : y.2[t]? = some (ty, n)) (hl : ty ≠ .long) (ht : t + 1 ≤ j) (hne : ty ≠ ty') : inA (put y j H p s) (p + (t + 1)) ty' i = true ↔ False := by
  simp [inA, put_t ht, blk_I h hl, hne]
theorem inAw_I (h : y.2[t]? = some (ty, n)) (hl : ty ≠ .long) (ht : t + 1 ≤ j) : inAw (put y j H p s) (p + (t + 1)) ty i = true ↔ (0 ≤ i.toInt ∧ i.toInt < n) := by
  rw [← inA_I (H := H) (p := p) (s := s) h hl ht]; simp [inAw, put_t ht, blk_I h hl]
theorem inAw_no {ty' : FieldType} (h : y.2[t]? = some (ty, n)) (hl : ty ≠ .long) (ht : t + 1 ≤ j) (hne : ty ≠ ty') : inAw (put y j H p s) (p + (t + 1)) ty' i = true ↔ False := by
  simp [inAw, inA, put_t ht, blk_I h hl, hne]
theorem elt_I (h : y.2[t]? = some (ty, n)) (hl : ty ≠ .long) (ht : t + 1 ≤ j) : elt (put y j H p s) (p + (t + 1)) i = .int (sA s (t + 1) i.toNatClampNeg) := by
  simp only [elt, put_t ht, blk_I h hl]
theorem put_wr {s' : St} {t q : Nat} {v : Value} (ht : t ≤ j) (hb : ∀ t', blk y j p s' t' = if t' = t then ((blk y j p s t).1, (blk y j p s t).2.1, (blk y j p s t).2.2.1, fun i => if i = q then v else (blk y j p s t).2.2.2 i) else blk y j p s t') :
    wr (put y j H p s) (p + t) q v = put y j H p s' := by
  refine Prod.ext rfl (funext fun a => ?_)
  simp only [wr, put_t ht]
  by_cases e : a = p + t
  · subst e; simp [put, ht, hb]
  · simp only [e, if_false, put]
    by_cases g : p ≤ a ∧ a ≤ p + j
    · have : a - p ≠ t := by omega
      simp [g, hb, this]
    · simp [g]
theorem fvl_uI {v : Int32} (h : y.1[k]? = some (ty, t)) (hl : ty ≠ .long) (ha : ∀ e, ty ≠ .array e) (i : Nat) : fvl y j p (uI s k v) i = if i = k then .int v else fvl y j p s i := by
  by_cases e : i = k
  · subst e; simp only [fvl, h, if_true]; cases ty <;> first | (simp [sI_uI]; done) | exact absurd rfl hl | exact absurd rfl (ha _)
  · simp only [fvl, e, if_false, sI_uI, sJ_uI]
theorem wr_I {v : Int32} (h : y.1[k]? = some (ty, t)) (hl : ty ≠ .long) (ha : ∀ e, ty ≠ .array e) : wr (put y j H p s) p k (.int v) = put y j H p (uI s k v) := by
  refine put_wr (t := 0) (Nat.zero_le _) fun t' => ?_
  cases t' with
  | zero => simp only [blk, if_true]; exact congrArg (fun f => (_, _, _, f)) (funext fun i => fvl_uI h hl ha i)
  | succ t' => simp [blk, sA_uI, sB_uI]
theorem wr_A {v : Int32} {q : Nat} (h : y.2[t]? = some (ty, n)) (hl : ty ≠ .long) (ht : t + 1 ≤ j) : wr (put y j H p s) (p + (t + 1)) q (.int v) = put y j H p (uA s (t + 1) q v) := by
  refine put_wr ht fun t' => ?_
  by_cases e : t' = t + 1
  · subst e
    simp only [blk_I h hl, if_true, sA_uA, true_and]
    exact congrArg (fun f => (_, _, _, f)) (funext fun i => by split <;> rfl)
  · simp only [e, if_false]
    cases t' with
    | zero => rfl
    | succ t' => have : ¬ t' = t := fun q => e (by rw [q]); simp [blk, sA_uA, sB_uA, this]
theorem mkO_put {P : Prog} (hn : P.2.2.2 = y.1.length) (hf : ∀ k, defaultValue (P.2.2.1 k) = fvl y 0 H.1 z0 k) : mkO P H = put y 0 (H.1 + 1, H.2) H.1 z0 := by
  refine Prod.ext rfl (funext fun a => ?_)
  by_cases e : a = H.1
  · subst e; simp only [mkO, if_true, put_0, hn]; exact congrArg (fun f => (_, _, _, f)) (funext fun k => hf k)
  · have : ¬ (H.1 ≤ a ∧ a ≤ H.1 + 0) := by omega
    simp only [mkO, put, e, if_false, if_neg this]
theorem mkA_put {h : Nat → Cel} (h1 : y.1[k]? = some (.array ty, j + 1)) (h2 : y.2[j]? = some (ty, n)) (hu : (List.range y.1.length).all (fun k' => decide (k' = k) || ((y.1.getD k' (.int, 0)).2 != j + 1)) = true) (hz : ∀ i, sA s (j + 1) i = 0) (hz' : ∀ i, sB s (j + 1) i = 0) (hty : ty = .int ∨ ty = .long ∨ ty = .byte ∨ ty = .boolean) :
    wr (mkA ty n (put y j (p + (j + 1), h) p s)) p k (.ref (p + (j + 1))) = put y (j + 1) (p + (j + 1) + 1, h) p s := by
  refine Prod.ext rfl (funext fun a => ?_)
  have hp : ¬ p = p + (j + 1) := by omega
  have hN : (put y j (p + (j + 1), h) p s).1 = p + (j + 1) := rfl
  by_cases e : a = p
  · subst e
    simp only [wr, mkA, hN, if_true, hp, if_false, put_0]
    refine congrArg (fun f => (_, _, _, f)) (funext fun i => ?_)
    by_cases e2 : i = k
    · subst e2; simp [fvl, h1]
    · simp only [e2, if_false, fvl]
      cases hq : y.1[i]? with
      | none => rfl
      | some x =>
        obtain ⟨x1, x2⟩ := x
        cases x1 <;> try rfl
        rename_i el
        have : x2 ≠ j + 1 := fun q => by
          have hlt : i < y.1.length := (List.getElem?_eq_some_iff.mp hq).1
          have u := List.all_eq_true.mp hu i (List.mem_range.mpr hlt)
          simp [e2, hq, q] at u
        have : (x2 ≤ j + 1) = (x2 ≤ j) := propext ⟨fun _ => by omega, fun _ => by omega⟩
        simp [this]
  · simp only [wr, mkA, hN, e, if_false]
    by_cases e2 : a = p + (j + 1)
    · subst e2
      simp only [if_true, put_t (Nat.le_refl (j + 1))]
      rcases hty with rfl | rfl | rfl | rfl
      · simp only [blk, h2, hz]; rfl
      · simp only [blk, h2, hz']; rfl
      · simp only [blk, h2, hz]; rfl
      · simp only [blk, h2, hz]; rfl
    · simp only [e2, if_false, put]
      by_cases g : p ≤ a ∧ a ≤ p + j
      · have g2 : p ≤ a ∧ a ≤ p + (j + 1) := by omega
        simp only [g, g2, and_self, if_true]
        obtain ⟨t, ht⟩ : ∃ t, a - p = t + 1 := ⟨a - p - 1, by omega⟩
        rw [ht]; rfl
      · have g2 : ¬ (p ≤ a ∧ a ≤ p + (j + 1)) := by omega
        simp only [g, g2, if_false]
theorem isOw_mk {h : Nat → Cel} {c : Nat} : isOw (mkA ty n (put y j (p + (c + 1), h) p s)) p = true := by
  have : ¬ p = p + (c + 1) := by omega
  have hN : (put y j (p + (c + 1), h) p s).1 = p + (c + 1) := rfl
  simp [isOw, isO, mkA, hN, this, put_0]
theorem put_fst : (put y j H p s).1 = H.1 := by simp [put]
theorem cl_unf {P : Prog} {m : Nat} {a : List Value} {L : List Slot} {Q : Option Value → AH → Prop} (h : ent P m a = L) : Cl P m a H Q ↔ W P m 0 L [] 0 0 H Q := by unfold Cl; rw [h]
theorem put_comm {y' : Lay} {j' p' : Nat} {s' : St} (h : p + j < p' ∨ p' + j' < p) : put y j (put y' j' H p' s') p s = put y' j' (put y j H p s) p' s' := by
  refine Prod.ext rfl (funext fun a => ?_)
  simp only [put]
  by_cases g : p ≤ a ∧ a ≤ p + j
  · have g2 : ¬ (p' ≤ a ∧ a ≤ p' + j') := by omega
    simp [g, g2]
  · simp only [g, if_false]
theorem inA_ot {a : Nat} (h : a < p ∨ p + j < a) : inA (put y j H p s) a ty i = inA H a ty i := by simp only [inA, put_ot h]
theorem isA_ot {a : Nat} (h : a < p ∨ p + j < a) : isA (put y j H p s) a = isA H a := by simp only [isA, put_ot h]
theorem elt_ot {a : Nat} (h : a < p ∨ p + j < a) : elt (put y j H p s) a i = elt H a i := by simp only [elt, put_ot h]
theorem alen_ot {a : Nat} (h : a < p ∨ p + j < a) : alen (put y j H p s) a = alen H a := by simp only [alen, put_ot h]
end Put
def noc : Cel := (.char, 0, false, fun _ => .null)
def H1 (n a len : Nat) (f : Nat → Int32) : AH := (n, fun b => if b = a then (.array .int, len, false, fun i => .int (f i)) else noc)
theorem isA_H1 {n a len : Nat} {f : Nat → Int32} : isA (H1 n a len f) a = true := by simp [isA, H1]
theorem alen_H1 {n a len : Nat} {f : Nat → Int32} : alen (H1 n a len f) a = len := by simp [alen, H1]
theorem inA_H1 {n a len : Nat} {f : Nat → Int32} {i : Int32} : inA (H1 n a len f) a .int i = true ↔ (0 ≤ i.toInt ∧ i.toInt < len) := by rw [← clamp_lt]; simp [inA, H1]
theorem elt_H1 {n a len : Nat} {f : Nat → Int32} {i : Int32} : elt (H1 n a len f) a i = .int (f i.toNatClampNeg) := by simp [elt, H1]
def cl (lo hi v : Int32) : Int32 := if v < lo then lo else if hi < v then hi else v
section Okv
variable {x : Int32} {l : Int64} {a : Nat} {t : FieldType}
theorem okv_int : (okv .int (.int x) = true) = True := by simp [okv]
theorem okv_long : (okv .long (.long l) = true) = True := by simp [okv]
theorem okv_ref : (okv (.array t) (.ref a) = true) = True := by simp [okv]
theorem okv_bool : (okv .boolean (.int x) = true) = (x = 0 ∨ x = 1) := by simp [okv]
theorem okv_byte : (okv .byte (.int x) = true) = (x.toInt8.toInt32 = x) := by simp [okv]
end Okv
end Jvm.JX

namespace Jvm.JX
open Sem ClassFile Op Lib
section Num
theorem ia {x y : Int32} (h1 : -2147483648 ≤ x.toInt + y.toInt) (h2 : x.toInt + y.toInt ≤ 2147483647) : (x + y).toInt = x.toInt + y.toInt := by
  rw [Int32.toInt_add]; exact Int.bmod_eq_of_le (by omega) (by omega)
theorem lt32 {x y : Int32} : x < y ↔ x.toInt < y.toInt := Int32.lt_iff_toInt_lt
theorem eq32 {x y : Int32} : x = y ↔ x.toInt = y.toInt := Int32.toInt_inj.symm
theorem cln {i : Int32} : i.toNatClampNeg = i.toInt.toNat := rfl
theorem cl_rg {lo hi : Int32} (v : Int32) (h : lo.toInt ≤ hi.toInt) : lo.toInt ≤ (cl lo hi v).toInt ∧ (cl lo hi v).toInt ≤ hi.toInt := by
  unfold cl
  by_cases h1 : v < lo
  · rw [if_pos h1]; omega
  · rw [if_neg h1]
    by_cases h2 : hi < v
    · rw [if_pos h2]; omega
    · rw [if_neg h2]; rw [lt32] at h1 h2; omega
end Num
section Fill
def fA (s : St) (t lo hi : Nat) (v : Int32) : St := (s.1, s.2.1, fun t' i => if t' = t ∧ lo ≤ i ∧ i < hi then v else s.2.2.1 t' i, s.2.2.2)
variable {s : St} {t lo hi k i t' : Nat} {v : Int32}
theorem sI_fA : sI (fA s t lo hi v) k = sI s k := by simp [sI, fA]
theorem sJ_fA : sJ (fA s t lo hi v) k = sJ s k := by simp [sJ, fA]
theorem sA_fA : sA (fA s t lo hi v) t' i = if t' = t ∧ lo ≤ i ∧ i < hi then v else sA s t' i := by simp [sA, fA]
theorem sB_fA : sB (fA s t lo hi v) t' i = sB s t' i := by simp [sB, fA]
theorem fA_nil (h : hi ≤ lo) : fA s t lo hi v = s := by
  refine St_ext (fun k => sI_fA) (fun k => sJ_fA) (fun t' i => ?_) (fun t' i => sB_fA)
  rw [sA_fA, if_neg (by omega)]
end Fill
section Cnt
def cnt (f : Nat → Bool) : Nat → Nat → Nat
  | _, 0 => 0
  | j, k + 1 => (if f j = true then 1 else 0) + cnt f (j + 1) k
theorem ofNat_one_add (c : Int32) (x : Nat) : c + 1 + Int32.ofNat x = c + Int32.ofNat (1 + x) := by
  rw [Int32.ofNat_add, Int32.add_assoc]; rfl
theorem add_ofNat_zero (c : Int32) : c + Int32.ofNat 0 = c := Int32.add_zero c
end Cnt
section Ite
variable {P : Prog} {m pc : Nat} {L : List Slot} {S : List Value} {k n : Nat} {H : AH} {Q : Option Value → AH → Prop} {c : Prop} [Decidable c]
end Ite
end Jvm.JX

namespace Jvm.JX
open Sem ClassFile Op Lib
section Forget
variable {P : Prog} {m pc len k n i : Nat} {aux : Int} {ins : Instr} {L L' M : List Slot} {S : List Value} {H : AH} {v : Value} {Q : Option Value → AH → Prop}
def lel (L L' : List Slot) : Prop := ∀ i : Nat, L[i]? = L'[i]? ∨ (L[i]? = some .unset ∧ ∃ o, L'[i]? = some o ∧ cat1 o = true)
theorem lel_refl : lel L L := fun _ => Or.inl rfl
theorem lel_cons {a : Slot} (h : lel L L') : lel (a :: L) (a :: L') := fun i => by cases i with
  | zero => exact Or.inl rfl
  | succ i => simpa using h i
theorem lel_un {o : Slot} (ho : cat1 o = true) (h : lel L L') : lel (.unset :: L) (o :: L') := fun i => by cases i with
  | zero => exact Or.inr ⟨rfl, o, rfl, ho⟩
  | succ i => simpa using h i
theorem lel_len (h : lel L L') : L.length = L'.length := by
  rcases Nat.lt_trichotomy L.length L'.length with g | g | g
  · have h1 : L[L.length]? = none := List.getElem?_eq_none (Nat.le_refl _)
    rcases h L.length with e | ⟨e, -⟩
    · rw [h1] at e; have := List.getElem?_eq_none_iff.mp e.symm; omega
    · rw [h1] at e; cases e
  · exact g
  · have h1 : L'[L'.length]? = none := List.getElem?_eq_none (Nat.le_refl _)
    rcases h L'.length with e | ⟨-, o, e, -⟩
    · rw [h1] at e; have := List.getElem?_eq_none_iff.mp e; omega
    · rw [h1] at e; cases e
theorem lel_set {a : Slot} (h : lel L L') : lel (L.set i a) (L'.set i a) := fun j => by
  rw [List.getElem?_set, List.getElem?_set, lel_len h]
  by_cases e : i = j
  · rw [if_pos e, if_pos e]; exact Or.inl rfl
  · rw [if_neg e, if_neg e]; exact h j
theorem ldI_le (h : lel L L') (e : ldI L i = some v) : ldI L' i = some v := by
  unfold ldI at *; rcases h i with g | ⟨g, -⟩
  · rw [← g]; exact e
  · rw [g] at e; cases e
theorem ldJ_le (h : lel L L') (e : ldJ L i = some v) : ldJ L' i = some v := by
  unfold ldJ at *; rcases h i with g | ⟨g, -⟩
  · rw [← g]; exact e
  · rw [g] at e; cases e
theorem ldR_le (h : lel L L') (e : ldR L i = some v) : ldR L' i = some v := by
  unfold ldR at *; rcases h i with g | ⟨g, -⟩
  · rw [← g]; exact e
  · rw [g] at e; cases e
theorem stl_le (h : lel L L') (e : stl L i v = some M) : ∃ M', stl L' i v = some M' ∧ lel M M' := by
  unfold stl at *
  rcases h i with g | ⟨g, o, g', ho⟩
  · rw [← g, ← lel_len h]
    revert e; generalize L[i]? = x; intro e
    match x, e with
    | some .unset, e => cases e; exact ⟨_, rfl, lel_set h⟩
    | some (.val w), e =>
      simp only at e ⊢
      by_cases c : w.category = 1
      · simp only [c, if_true] at e ⊢; cases e; exact ⟨_, rfl, lel_set h⟩
      · simp only [c, if_false] at e ⊢
        by_cases d : i + 1 < L.length
        · simp only [d, if_true] at e ⊢; cases e; exact ⟨_, rfl, lel_set (lel_set h)⟩
        · simp only [d, if_false] at e; cases e
    | some .second, e =>
      simp only at e ⊢
      by_cases d : 1 ≤ i
      · simp only [d, if_true] at e ⊢; cases e; exact ⟨_, rfl, lel_set (lel_set h)⟩
      · simp only [d, if_false] at e; cases e
    | none, e => cases e
  · rw [g] at e; cases e; rw [g']
    match o, ho with
    | .unset, _ => exact ⟨_, rfl, lel_set h⟩
    | .val w, ho =>
      have c : w.category = 1 := by simpa [cat1] using ho
      simp only [c, if_true]; exact ⟨_, rfl, lel_set h⟩
theorem stL_le (h : lel L L') (e : stL L i v = some M) : ∃ M', stL L' i v = some M' ∧ lel M M' := by
  have key : ∀ o2, L[i + 1]? = some o2 → ∃ o3, L'[i + 1]? = some o3 ∧ (cat1 o2 = true → cat1 o3 = true) := by
    intro o2 e2
    rcases h (i + 1) with g | ⟨g, o, g', ho⟩
    · exact ⟨o2, by rw [← g]; exact e2, id⟩
    · exact ⟨o, g', fun _ => ho⟩
  unfold stL at *
  have hs : lel ((L.set i (.val v)).set (i + 1) .second) ((L'.set i (.val v)).set (i + 1) .second) := lel_set (lel_set h)
  cases e2 : L[i + 1]? with
  | none => rw [e2] at e; revert e; cases L[i]? with
    | none => intro e; cases e
    | some o => intro e; cases o <;> cases e
  | some o2 =>
    obtain ⟨o3, g3, c3⟩ := key o2 e2
    rw [e2] at e; rw [g3]
    rcases h i with g | ⟨g, o, g', ho⟩
    · rw [← g]
      revert e; generalize L[i]? = x; intro e
      match x, e with
      | some .unset, e =>
        simp only at e ⊢
        by_cases c : cat1 o2 = true
        · simp only [c, if_true] at e; cases e; simp only [c3 c, if_true]; exact ⟨_, rfl, hs⟩
        · simp only [c] at e; cases e
      | some (.val w), e =>
        simp only at e ⊢
        by_cases d : w.category = 2
        · simp only [d, if_true] at e ⊢; cases e; exact ⟨_, rfl, hs⟩
        · simp only [d, if_false] at e ⊢
          by_cases c : cat1 o2 = true
          · simp only [c, if_true] at e; cases e; simp only [c3 c, if_true]; exact ⟨_, rfl, hs⟩
          · simp only [c] at e; cases e
      | some .second, e => cases e
      | none, e => cases e
    · rw [g] at e; rw [g']
      simp only at e
      by_cases c : cat1 o2 = true
      · simp only [c, if_true] at e; cases e
        match o, ho with
        | .unset, _ => simp only [c3 c, if_true]; exact ⟨_, rfl, hs⟩
        | .val w, ho =>
          by_cases d : w.category = 2
          · simp only [d, if_true]; exact ⟨_, rfl, hs⟩
          · simp only [d, if_false, c3 c, if_true]; exact ⟨_, rfl, hs⟩
      · simp only [c] at e; cases e
def loc : Instr → Bool
  | .iload _ | .iload_n _ | .lload _ | .lload_n _ | .aload _ | .aload_n _ | .istore _ | .istore_n _ | .astore _ | .astore_n _ | .lstore _ | .lstore_n _ | .iinc _ _ => true
  | _ => false
theorem stp_fr {q : Fm} (hl : loc ins = false) (e : stp P m ins len aux pc L S k n H = some q) : q.2.1 = L ∧ stp P m ins len aux pc L' S k n H = some (q.1, L', q.2.2) := by
  cases ins <;> first
    | (cases hl; done)
    | (simp only [stp] at e ⊢; cases e; done)
    | (simp only [stp] at e ⊢; cases e; exact ⟨rfl, rfl⟩)
    | (simp only [stp, Option.map_eq_some_iff] at e ⊢; (repeat' split at e) <;> first
        | (cases e; done)
        | (cases e; exact ⟨rfl, rfl⟩)
        | (obtain ⟨w, h1, h2⟩ := e; subst h2; exact ⟨rfl, w, h1, rfl⟩)
        | (simp_all; done)
        | (simp_all; subst e; simp; done)
        | (simp_all; obtain ⟨e1, e2, e3⟩ := e; subst e3; simp_all; done)
        | (simp only [Option.bind_eq_some_iff, Option.map_eq_some_iff] at e; obtain ⟨w, h1, u, h2, h3⟩ := e; subst h3; simp_all; done)
        | (simp only [Option.bind_eq_some_iff, Option.map_eq_some_iff] at e; obtain ⟨w, h1, u, h2, h3⟩ := e; subst h3; simp_all; omega))
theorem stp_le {q : Fm} (h : lel L L') (e : stp P m ins len aux pc L S k n H = some q) : ∃ M, stp P m ins len aux pc L' S k n H = some (q.1, M, q.2.2) ∧ lel q.2.1 M := by
  cases hl : loc ins with
  | false =>
    obtain ⟨h1, h2⟩ := stp_fr (L' := L') hl e
    exact ⟨L', h2, by rw [h1]; exact h⟩
  | true =>
    cases ins <;> first
      | (cases hl; done)
      | (simp only [stp, Option.map_eq_some_iff] at e ⊢; obtain ⟨w, h1, h2⟩ := e; subst h2; first
          | exact ⟨L', ⟨w, ldI_le h h1, rfl⟩, h⟩
          | exact ⟨L', ⟨w, ldJ_le h h1, rfl⟩, h⟩
          | exact ⟨L', ⟨w, ldR_le h h1, rfl⟩, h⟩)
      | (simp only [stp] at e ⊢; split at e
         · simp only [Option.map_eq_some_iff] at e ⊢
           obtain ⟨w, h1, h2⟩ := e; subst h2
           first
            | (obtain ⟨M, g1, g2⟩ := stl_le h h1; exact ⟨M, ⟨M, g1, rfl⟩, g2⟩)
            | (obtain ⟨M, g1, g2⟩ := stL_le h h1; exact ⟨M, ⟨M, g1, rfl⟩, g2⟩)
         · cases e)
      | (simp only [stp] at e ⊢; rename_i i c; rcases h i with g | ⟨g, -⟩
         · rw [← g]; revert e; generalize L[i]? = x; intro e
           split at e
           · cases e; exact ⟨_, rfl, lel_set h⟩
           · cases e
         · rw [g] at e; cases e)
theorem run_fg : ∀ (f m pc : Nat) (L L' : List Slot) (S : List Value) (k n : Nat) (H : AH) (r : Option Value × AH), lel L L' → run P f m pc L S k n H = some r → run P f m pc L' S k n H = some r
  | 0, _, _, _, _, _, _, _, _, _, _, e => by cases e
  | f + 1, m, pc, L, L', S, k, n, H, r, h, e => by
    unfold run at e ⊢
    cases hd : P.1 m pc with
    | none => rw [hd] at e; cases e
    | some d =>
      rw [hd] at e; simp only at e ⊢
      cases hr : ret P m d.1 S with
      | some v => rw [hr] at e; exact e
      | none =>
        rw [hr] at e; simp only at e ⊢
        cases hc : cal P m d.1 d.2.2 S k n H with
        | some c =>
          rw [hc] at e; simp only at e ⊢
          cases hx : run P f c.1 0 (ent P c.1 c.2.1) [] 0 0 H with
          | none => rw [hx] at e; cases e
          | some y => rw [hx] at e; simp only at e ⊢; exact run_fg f _ _ _ _ _ _ _ _ _ h e
        | none =>
          rw [hc] at e; simp only at e ⊢
          cases hs : stp P m d.1 d.2.1 d.2.2 pc L S k n H with
          | none => rw [hs] at e; cases e
          | some q =>
            rw [hs] at e; simp only at e
            obtain ⟨M, g1, g2⟩ := stp_le h hs
            rw [g1]; exact run_fg f _ _ _ _ _ _ _ _ _ g2 e
theorem W_fg (h : lel L L') (w : W P m pc L S k n H Q) : W P m pc L' S k n H Q := by
  obtain ⟨f, v, H', e, q⟩ := w
  exact ⟨f, v, H', run_fg f m pc L L' S k n H _ h e, q⟩
end Forget
section Ist
variable {P : Prog} {m pc len k n i : Nat} {aux : Int} {L : List Slot} {S : List Value} {H : AH} {Q : Option Value → AH → Prop} {x : Int32} {l : Int64}
end Ist
section Num2
theorem nn32 {x : Int32} (h : 0 ≤ x.toInt) : x.toInt = (x.toBitVec.toNat : Int) ∧ x.toBitVec.toNat < 2147483648 := by
  have e : x.toInt = x.toBitVec.toInt := rfl
  rw [e, BitVec.toInt_eq_toNat_cond] at h ⊢
  have := x.toBitVec.isLt
  split at h
  · rename_i g; rw [if_pos g]; exact ⟨rfl, by omega⟩
  · omega
theorem of_nn {x : Int32} (h : x.toBitVec.toNat < 2147483648) : x.toInt = (x.toBitVec.toNat : Int) := by
  have e : x.toInt = x.toBitVec.toInt := rfl
  rw [e, BitVec.toInt_eq_toNat_cond, if_pos (by omega)]
theorem and_rg {x m : Int32} (h : 0 ≤ m.toInt) : 0 ≤ (x &&& m).toInt ∧ (x &&& m).toInt ≤ m.toInt := by
  obtain ⟨e, hm⟩ := nn32 h
  have h1 : (x &&& m).toBitVec.toNat ≤ m.toBitVec.toNat := by
    rw [Int32.toBitVec_and, BitVec.toNat_and]; exact Nat.and_le_right
  rw [of_nn (x := x &&& m) (by omega), e]; omega
theorem len32 {n : Nat} (h : n < 2147483648) : (n.toInt32).toInt = n := by
  rw [show n.toInt32 = Int32.ofNat n from rfl, Int32.toInt_ofNat_of_lt (by omega)]
end Num2
end Jvm.JX

namespace Jvm.JX
open Sem ClassFile Op Lib
end Jvm.JX

namespace Jvm.JX
open Sem ClassFile Op Lib Jvm.Stand Jvm.Free Jvm.LawKit Jvm.RoadKit
def CRel (C : String) (fn : Nat → String × String) (F : List Nat) (Z : State) (n0 : Nat) (h : Heap) (a : Nat) (c : Cel) : Prop :=
  (c.2.2.1 = true → n0 ≤ a) ∧
  match c.1 with
  | .object _ => Exa Z h a C ∧ ∀ k ∈ F, Fld Z h a C (fn k).1 (fn k).2 (c.2.2.2 k)
  | .array t => c.2.1 < 2 ^ 31 ∧ ∃ cl : Cell, Arr Z h a cl t ∧ cl.slots.size = c.2.1 ∧ ∀ i, i < c.2.1 → cl.slots[i]? = some (c.2.2.2 i)
  | _ => True
def RelH (C : String) (fn : Nat → String × String) (F : List Nat) (Z : State) (n0 : Nat) (h : Heap) (H : AH) : Prop := h.size = H.1 ∧ n0 ≤ H.1 ∧ ∀ a, CRel C fn F Z n0 h a (H.2 a)
def ilen2 : Instr → Nat → Nat
  | .tableswitch _ _ _ _, l => l
  | i, _ => ilen i
def RowOk (P : Prog) (tb : List Jvm.Cond) (C : String) (fn : Nat → String × String) (F : List Nat) (nsl : Nat) (nm : Nat → MethodName) (R : List Nat) (m : Nat) (ins : Instr) (aux : Int) : Prop :=
  match ins with
  | .getfield i => aux.toNat ∈ F ∧ Jvm.Cond.fieldLink (nm m).cls i C (fn aux.toNat).1 (fn aux.toNat).2 ∈ tb
  | .putfield i => aux.toNat ∈ F ∧ Jvm.Cond.fieldLink (nm m).cls i C (fn aux.toNat).1 (fn aux.toNat).2 ∈ tb ∧ (Jvm.Cond.lays C C (fn aux.toNat).1 (fn aux.toNat).2 ∈ tb ∨ (nm m).cls = C ∧ (nm m).name = "<init>")
  | .new i => aux.toNat = nsl ∧ Jvm.Cond.classLink (nm m).cls i C ∈ tb
  | .newarray t => Jvm.Cond.arrayClass (newarray.typeOf t) ∈ tb
  | .ldc i => Jvm.Cond.constant (nm m).cls i (Int32.ofInt aux) ∈ tb
  | .ldc2_w i => Jvm.Cond.constantLong (nm m).cls i (Int64.ofInt aux) ∈ tb
  | .invokevirtual i => aux.toNat ∈ R ∧ Jvm.Cond.methodLink (nm m).cls i (nm aux.toNat) ∈ tb
  | .invokestatic i => aux.toNat ∈ R ∧ Jvm.Cond.methodLink (nm m).cls i (nm aux.toNat) ∈ tb
  | .invokespecial i => (aux = -1 → Jvm.Cond.methodLink (nm m).cls i Lib.objectInit ∈ tb ∧ Jvm.Cond.instanceMethod Lib.objectInit ∈ tb ∧ Jvm.Cond.code Lib.objectInit ⟨#[0xb1]⟩ 1 none ∈ tb) ∧ (0 ≤ aux → aux.toNat ∈ R ∧ Jvm.Cond.methodLink (nm m).cls i (nm aux.toNat) ∈ tb)
  | _ => True
def CalOk (P : Prog) (tb : List Jvm.Cond) (C : String) (nm : Nat → MethodName) (bt : Nat → ByteArray) (m : Nat) : Prop :=
  Jvm.Cond.code (nm m) (bt m) (ml P m) (rt P m) ∈ tb ∧ Jvm.Cond.initialized (nm m).cls ∈ tb ∧ (∃ ps r, parseMethodDescriptor (nm m).desc = some ⟨ps, r⟩ ∧ ps.length + (if kd P m = 0 then 0 else 1) = na P m) ∧
  (kd P m = 0 → Jvm.Cond.static (nm m) ∈ tb) ∧
  (kd P m ≠ 0 → (nm m).cls = C ∧ Jvm.Cond.instanceMethod (nm m) ∈ tb) ∧
  (kd P m = 1 → Jvm.Cond.declares (nm m) ∈ tb ∧ Jvm.Cond.selects C (nm m) (nm m) ∈ tb) ∧
  (kd P m = 2 → Jvm.Cond.privateMethod (nm m) ∈ tb) ∧
  (kd P m = 3 → (nm m).name = "<init>" ∧ rt P m = none)
def Good (P : Prog) (tb : List Jvm.Cond) (C : String) (fn : Nat → String × String) (F : List Nat) (nsl : Nat) (nm : Nat → MethodName) (bt : Nat → ByteArray) (R : List Nat) (top : Nat) : Prop :=
  Jvm.Cond.instantiable C nsl ∈ tb ∧ Jvm.Cond.initialized C ∈ tb ∧
  (∀ k ∈ F, parseFieldDescriptor (fn k).2 = some (P.2.2.1 k) ∧ (Jvm.Cond.lays C C (fn k).1 (fn k).2 ∈ tb ∨ Jvm.Cond.laysFinal C C (fn k).1 (fn k).2 ∈ tb)) ∧
  (∀ j ∈ F, ∀ k ∈ F, (fn j).1 = (fn k).1 → j = k) ∧
  (∀ m ∈ R, plainName (nm m).cls = true ∧ ((nm m).cls ≠ "java/lang/invoke/MethodHandle" ∧ (nm m).cls ≠ "java/lang/invoke/VarHandle") ∧
    ∀ pc ins len aux, P.1 m pc = some (ins, len, aux) → decode (bt m) pc = .ok (ins, len) ∧ len = ilen2 ins len ∧ RowOk P tb C fn F nsl nm R m ins aux) ∧
  (∀ m ∈ R, m ≠ top → CalOk P tb C nm bt m) ∧
  (∀ m ∈ R, ∀ pc ins len aux, P.1 m pc = some (ins, len, aux) → aux = (top : Int) → kindOk ins (kd P top) = false)
section Rel
variable {C : String} {fn : Nat → String × String} {F : List Nat} {Z : State} {n0 : Nat} {h h' : Heap} {H : AH}
theorem RelH.obj (r : RelH C fn F Z n0 h H) {a : Nat} (ha : isO H a = true) : Exa Z h a C ∧ ∀ k ∈ F, Fld Z h a C (fn k).1 (fn k).2 (fld H a k) := by
  have q := (r.2.2 a).2
  unfold isO at ha
  cases hk : (H.2 a).1 <;> rw [hk] at ha <;> first | (cases ha; done) | (simp only [hk] at q; exact q)
theorem RelH.own (r : RelH C fn F Z n0 h H) {a : Nat} (ha : (H.2 a).2.2.1 = true) : n0 ≤ a := (r.2.2 a).1 ha
theorem RelH.arr (r : RelH C fn F Z n0 h H) {a : Nat} {t : FieldType} (ha : (H.2 a).1 = .array t) : (H.2 a).2.1 < 2 ^ 31 ∧ ∃ cl : Cell, Arr Z h a cl t ∧ cl.slots.size = (H.2 a).2.1 ∧ ∀ i, i < (H.2 a).2.1 → cl.slots[i]? = some ((H.2 a).2.2.2 i) := by
  have q := (r.2.2 a).2
  simp only [ha] at q; exact q
theorem RelH.ext (r : RelH C fn F Z n0 h H) (E : Ext h h') {c : Cel} (hs : h'.size = h.size + 1) (hc : CRel C fn F Z n0 h' h.size c) : RelH C fn F Z n0 h' (H.1 + 1, fun b => if b = H.1 then c else H.2 b) := by
  refine ⟨by rw [hs, r.1], Nat.le_succ_of_le r.2.1, fun a => ?_⟩
  by_cases e : a = H.1
  · subst e; simp only [if_true]; rw [← r.1]; exact hc
  · simp only [e, if_false]
    obtain ⟨q1, q2⟩ := r.2.2 a
    refine ⟨q1, ?_⟩
    cases hk : (H.2 a).1 <;> simp only [hk] at q2 ⊢
    · exact ⟨q2.1.ext E, fun k hk => (q2.2 k hk).ext E⟩
    · obtain ⟨q3, cl, q4, q5⟩ := q2; exact ⟨q3, cl, q4.ext E, q5⟩
end Rel
def Go (C : String) (fn : Nat → String × String) (F : List Nat) (Z : State) (n0 : Nat) (p : Program) (l : Launch) (e : Env) (R : Jvm.Room) (s : State) (mid : MethodId) (args : Array Value) (below : List Frame) (meth : Method) (c : Code) (start : State) (nl : Nat) (q : Fm) : Prop :=
  ∃ T' locs', Stand p l e R s mid args below meth c T' locs' q.2.2.2.1 q.2.2.2.2.1 ∧ RelH C fn F Z n0 T'.heap q.2.2.2.2.2 ∧ Fr n0 locs' ∧ q.2.2.2.1 ≤ R.cells ∧ q.2.2.2.2.1 ≤ R.slots ∧ q.2.1.length = nl ∧
    ∀ target, Steps p.tables e below (T'.setTop (mkF mid q.1 q.2.1.toArray q.2.2.1)) target → Steps p.tables e below start target
theorem lrem_mod (x y : Int64) : x - (x / y) * y = x % y := by
  apply Int64.toInt_inj.mp
  have h1 := Int64.le_toInt (x % y)
  have h2 := Int64.toInt_lt (x % y)
  rw [Int64.toInt_sub, Int64.toInt_mul, Int64.toInt_div, Int.bmod_mul_bmod, Int.sub_bmod_bmod, Int.mul_comm (x.toInt.tdiv y.toInt), ← Int.tmod_def, ← Int64.toInt_mod]
  exact Int.bmod_eq_of_le_mul_two (by omega) (by omega)
theorem arr_get {L : List Slot} {i : Nat} {o : Slot} (h : L[i]? = some o) : L.toArray[i]? = some o := by simpa using h
theorem stl_ok {L L' : List Slot} {i : Nat} {v : Value} (hv : v.category = 1) (h : stl L i v = some L') : storeLocals L.toArray i v = some L'.toArray ∧ L'.length = L.length := by
  unfold stl at h
  unfold storeLocals
  cases hi : L[i]? with
  | none => rw [hi] at h; cases h
  | some o =>
    have hlt : i < L.length := (List.getElem?_eq_some_iff.mp hi).1
    rw [hi] at h
    rw [arr_get hi]
    cases o with
    | unset => cases h; simp [storeSelf, setAt, hlt, hv]
    | second =>
      simp only at h
      split at h
      · cases h; simp [storeSelf, setAt, hv, hlt, Nat.lt_of_le_of_lt (Nat.sub_le i 1) hlt]
      · cases h
    | val w =>
      simp only at h
      split at h
      · rename_i hw; cases h; simp [storeSelf, setAt, hv, hlt, hw]
      · rename_i hw
        split at h
        · rename_i h1
          have hw2 : w.category = 2 := by cases w <;> simp [Value.category] at hw ⊢
          cases h; simp [storeSelf, setAt, hv, hlt, hw2, h1]
        · cases h
theorem stL_ok {L L' : List Slot} {i : Nat} {v : Value} (hv : v.category = 2) (h : stL L i v = some L') : storeLocals L.toArray i v = some L'.toArray ∧ L'.length = L.length := by
  unfold stL at h
  unfold storeLocals
  cases hi : L[i]? with
  | none => rw [hi] at h; cases h
  | some o =>
    cases hi2 : L[i + 1]? with
    | none => rw [hi, hi2] at h; cases o <;> cases h
    | some o2 =>
      have hlt : i < L.length := (List.getElem?_eq_some_iff.mp hi).1
      have hlt2 : i + 1 < L.length := (List.getElem?_eq_some_iff.mp hi2).1
      rw [hi, hi2] at h
      rw [arr_get hi]
      have g2 : (L.set i (.val v))[i + 1]? = some o2 := by rw [List.getElem?_set_ne (by omega)]; exact hi2
      have g4 : L[i + 1] = o2 := (List.getElem?_eq_some_iff.mp hi2).2
      cases o with
      | second => cases h
      | unset =>
        simp only at h
        split at h
        · rename_i hc
          cases h
          cases o2 with
          | second => cases hc
          | unset => simp [storeSelf, setAt, hv, hlt, hlt2, g2, g4]
          | val w => simp only [cat1, beq_iff_eq] at hc; simp [storeSelf, setAt, hv, hlt, hlt2, g2, g4, hc]
        · cases h
      | val w =>
        simp only at h
        split at h
        · rename_i hw
          cases h
          have g3 : ((L.set (i + 1) .unset).set i (.val v))[i + 1]? = some .unset := by rw [List.getElem?_set_ne (by omega)]; simp [hlt2]
          simp [storeSelf, setAt, hv, hlt, hlt2, hw, g3]
          rw [List.set_comm _ _ (by omega), List.set_set, List.set_comm _ _ (by omega)]
        · rename_i hw
          have hw1 : ¬ w.category = 2 := hw
          split at h
          · rename_i hc
            cases h
            cases o2 with
            | second => cases hc
            | unset => simp [storeSelf, setAt, hv, hlt, hlt2, g2, g4, hw1]
            | val w => simp only [cat1, beq_iff_eq] at hc; simp [storeSelf, setAt, hv, hlt, hlt2, g2, g4, hw1, hc]
          · cases h
theorem jmp_ok {pc q : Nat} {o : Int} (h : jmp pc o = some q) : 0 ≤ (pc : Int) + o ∧ ((pc : Int) + o).toNat = q := by
  unfold jmp at h
  split at h
  · rename_i g; cases h; exact ⟨g, rfl⟩
  · cases h
theorem ldI_ok {L : List Slot} {i : Nat} {v : Value} (h : ldI L i = some v) : ∃ x, v = .int x ∧ L.toArray[i]? = some (.val (.int x)) := by
  unfold ldI at h
  split at h
  · rename_i x e; cases h; exact ⟨x, rfl, arr_get e⟩
  · cases h
theorem ldJ_ok {L : List Slot} {i : Nat} {v : Value} (h : ldJ L i = some v) : ∃ x, v = .long x ∧ L.toArray[i]? = some (.val (.long x)) := by
  unfold ldJ at h
  split at h
  · rename_i x e; cases h; exact ⟨x, rfl, arr_get e⟩
  · cases h
theorem ldR_ok {L : List Slot} {i : Nat} {v : Value} (h : ldR L i = some v) : ∃ x, v = .ref x ∧ L.toArray[i]? = some (.val (.ref x)) := by
  unfold ldR at h
  split at h
  · rename_i x e; cases h; exact ⟨x, rfl, arr_get e⟩
  · cases h
theorem okv_ok {t : FieldType} {v : Value} (h : okv t v = true) : narrow t v = v ∧ fits t v = true := by
  unfold okv at h
  split at h
  · exact ⟨rfl, rfl⟩
  · rename_i z
    simp only [Bool.or_eq_true, beq_iff_eq] at h
    rcases h with rfl | rfl <;> exact ⟨rfl, rfl⟩
  · rename_i z
    simp only [beq_iff_eq] at h
    have q := fits_nar_byte z
    rw [h] at q
    exact ⟨by show Value.int _ = _; rw [h], q⟩
  · exact ⟨rfl, rfl⟩
  · exact ⟨rfl, rfl⟩
  · cases h
end Jvm.JX

namespace Jvm.JX
open Sem ClassFile Op Lib Jvm.Stand Jvm.Free Jvm.LawKit Jvm.RoadKit
section Step
variable {P : Prog} {tb : List Jvm.Cond} {C : String} {fn : Nat → String × String} {F : List Nat} {nsl : Nat} {nm : Nat → MethodName} {bt : Nat → ByteArray} {R : List Nat} {top : Nat}
variable {l : Launch} {Z : State} {a0 : Array Value} {n0 : Nat} {m pc len k n : Nat} {aux : Int} {L : List Slot} {S : List Value} {H : AH} {ins : Instr} {q : Fm}
variable {p : Program} {e : Env} {s : State} {mid : MethodId} {args : Array Value} {below : List Frame} {meth : Method} {c : Code} {T : State} {locs : List Loc} {Rm : Jvm.Room}
theorem go_same {start : State} {nl pc' : Nat} {L' : List Slot} {S' : List Value} (X : Stand p l e Rm s mid args below meth c T locs k n) (r : RelH C fn F Z n0 T.heap H) (N : Fr n0 locs) (hk : k ≤ Rm.cells) (hn : n ≤ Rm.slots) (hL : L'.length = nl)
    (st : ∀ target, Steps p.tables e below (T.setTop (mkF mid pc' L'.toArray S')) target → Steps p.tables e below start target) : Go C fn F Z n0 p l e Rm s mid args below meth c start nl (pc', L', S', k, n, H) := ⟨T, locs, X, r, N, hk, hn, hL, st⟩
theorem go_heap {start : State} {nl pc' : Nat} {L' : List Slot} {S' : List Value} {T' : State} (X : Stand p l e Rm s mid args below meth c T' locs k n) (r : RelH C fn F Z n0 T.heap H) (hh : T'.heap = T.heap) (N : Fr n0 locs) (hk : k ≤ Rm.cells) (hn : n ≤ Rm.slots) (hL : L'.length = nl)
    (st : ∀ target, Steps p.tables e below (T'.setTop (mkF mid pc' L'.toArray S')) target → Steps p.tables e below start target) : Go C fn F Z n0 p l e Rm s mid args below meth c start nl (pc', L', S', k, n, H) := ⟨T', locs, X, by rw [hh]; exact r, N, hk, hn, hL, st⟩
theorem idx_not {i : Int32} {n : Nat} (h1 : ¬ i < 0) (h2 : i.toNatClampNeg < n) : ¬ (i < 0 ∨ n ≤ i.toNatClampNeg) := fun h => h.elim h1 (Nat.not_le.mpr h2)
theorem inA_ok {a : Nat} {t : FieldType} {i : Int32} (h : inA H a t i = true) : (H.2 a).1 = .array t ∧ ¬ i < 0 ∧ i.toNatClampNeg < (H.2 a).2.1 := by
  simpa [inA, and_assoc] using h
theorem inAw_ok {a : Nat} {t : FieldType} {i : Int32} (h : inAw H a t i = true) : inA H a t i = true ∧ (H.2 a).2.2.1 = true := by
  simpa [inAw] using h
theorem isOw_ok {a : Nat} (h : isOw H a = true) : isO H a = true ∧ (H.2 a).2.2.1 = true := by simpa [isOw] using h
theorem RelH.wrF {h h' : Heap} {a j : Nat} {v : Value} (hG : Good P tb C fn F nsl nm bt R top) (hw : ∀ d ∈ tb, d.before a0 Z = true) (r : RelH C fn F Z n0 h H) (ha : isO H a = true) (hj : j ∈ F) (Wt : Wr h h' a (Jvm.RoadKit.slotOf Z C (fn j).1 (fn j).2) v) : RelH C fn F Z n0 h' (wr H a j v) := by
  refine ⟨by rw [Wt.size]; exact r.1, r.2.1, fun b => ?_⟩
  by_cases e : b = a
  · subst e
    obtain ⟨q1, q2⟩ := r.2.2 b
    obtain ⟨E, Fs⟩ := r.obj ha
    simp only [wr, if_true]
    refine ⟨q1, ?_⟩
    unfold isO at ha
    cases hk : (H.2 b).1 <;> rw [hk] at ha <;> try (cases ha; done)
    simp only
    refine ⟨E.wr Wt, fun i hi => ?_⟩
    by_cases e2 : i = j
    · subst e2; simp only [if_true]; exact (Fs i hi).same Wt
    · simp only [e2, if_false]
      refine (Fs i hi).other Wt (Or.inr ?_)
      have lw : ∀ k ∈ F, Laid Z a0 C C (fn k).1 (fn k).2 := fun k hk => ((hG.2.2.1 k hk).2).imp (hw _) (hw _)
      exact slot_ne (lw i hi) (lw j hj) (fun q => e2 (hG.2.2.2.1 i hi j hj q)) (hG.2.2.1 i hi).1 (hG.2.2.1 j hj).1
  · simp only [wr, e, if_false]
    obtain ⟨q1, q2⟩ := r.2.2 b
    refine ⟨q1, ?_⟩
    cases hk : (H.2 b).1 <;> simp only [hk] at q2 ⊢
    · exact ⟨q2.1.wr Wt, fun k hk => (q2.2 k hk).other Wt (Or.inl e)⟩
    · obtain ⟨q3, cl, q4, q5⟩ := q2; exact ⟨q3, cl, q4.other Wt e, q5⟩
theorem RelH.wrA {h h' : Heap} {a j : Nat} {t : FieldType} {v : Value} (r : RelH C fn F Z n0 h H) (ha : (H.2 a).1 = .array t) (hj : j < (H.2 a).2.1) (Wt : Wr h h' a j v) : RelH C fn F Z n0 h' (wr H a j v) := by
  refine ⟨by rw [Wt.size]; exact r.1, r.2.1, fun b => ?_⟩
  by_cases e : b = a
  · subst e
    obtain ⟨q1, q2⟩ := r.2.2 b
    obtain ⟨g1, cl, g2, g3, g4⟩ := r.arr ha
    simp only [wr, if_true]
    refine ⟨q1, ?_⟩
    simp only [ha]
    refine ⟨g1, cl.setSlot j v, g2.same Wt, by rw [sz_set]; exact g3, fun i hi => ?_⟩
    by_cases e2 : i = j
    · subst e2; simp [Cell.setSlot, g3, hj]
    · simp only [e2, if_false]; rw [← g4 i hi]; exact Array.getElem?_setIfInBounds_ne (Ne.symm e2)
  · simp only [wr, e, if_false]
    obtain ⟨q1, q2⟩ := r.2.2 b
    refine ⟨q1, ?_⟩
    cases hk : (H.2 b).1 <;> simp only [hk] at q2 ⊢
    · exact ⟨q2.1.wr Wt, fun k hk => (q2.2 k hk).other Wt (Or.inl e)⟩
    · obtain ⟨q3, cl, q4, q5⟩ := q2; exact ⟨q3, cl, q4.other Wt e, q5⟩
theorem ext_push (h : Heap) (x : Cell) : Ext h (h.push x) := ⟨by simp, fun a c q => by rw [Array.getElem?_push_lt (Array.getElem?_eq_some_iff.mp q).1]; exact (Array.getElem?_eq_getElem _).symm.trans q⟩
theorem made_obj {h : Heap} {cC : ClassId} {kC : Class} (hZ : Z.Warmed39 s.vm) (h1 : s.vm.findClass C = some cC) (h2 : s.vm.classes[cC]? = some kC) :
    Exa Z (h.push { cls := cC, slots := kC.instanceTypes.map defaultValue, vm := .none }) h.size C ∧ ∀ {nm d : String} {ty : FieldType}, Laid Z a0 C C nm d → parseFieldDescriptor d = some ty → Fld Z (h.push { cls := cC, slots := kC.instanceTypes.map defaultValue, vm := .none }) h.size C nm d (defaultValue ty) := by
  rw [hZ.alike.findClass] at h1
  obtain ⟨kZ, z1, -⟩ := Vm.findClass_spec h1
  obtain ⟨k', z2, z3⟩ := hZ.alike.2.2 _ _ z1
  cases h2.symm.trans z2
  have ei : kC.instanceTypes = kZ.instanceTypes := by rw [z3]
  have hN : ∀ x : Cell, (h.push x)[h.size]? = some x := fun x => by simp
  refine ⟨⟨_, kZ, hN _, h1, z1, rfl, fun _ => by simp [ei]⟩, fun {nm d ty} lw ht => ?_⟩
  obtain ⟨c1, k1, cf, kf, i, f, a1, a2, a3, a4, a5, a6, -⟩ := lw.spec
  cases h1.symm.trans a1
  cases z1.symm.trans a2
  exact ⟨_, cf, kf, i, f, hN _, a3, a4, by simp, rfl, a5, by simp [ei, a6, (State.fieldFound?_type a3 ht).2]⟩
theorem made_arr {h : Heap} {t : FieldType} {cA comp : ClassId} {kA : Class} {xs : Array Value} (hZ : Z.Warmed39 s.vm) (h1 : s.vm.findClass ("[" ++ t.toString) = some cA) (h2 : s.vm.classes[cA]? = some kA) (h3 : kA.kind = .array comp t) : Arr Z (h.push { cls := cA, slots := xs, vm := .none }) h.size { cls := cA, slots := xs, vm := .none } t := by
  rw [hZ.alike.findClass] at h1
  obtain ⟨kZ, z1, -⟩ := Vm.findClass_spec h1
  obtain ⟨k', z2, z3⟩ := hZ.alike.2.2 _ _ z1
  cases h2.symm.trans z2
  exact ⟨by simp, ⟨by simp, kZ, z1, comp, by rw [← h3, z3]⟩, by simp⟩
set_option maxHeartbeats 4000000 in
theorem stp_go (hG : Good P tb C fn F nsl nm bt R top) (hw : ∀ d ∈ tb, d.before a0 Z = true) (hm : m ∈ R) (hrow : P.1 m pc = some (ins, len, aux)) (h : stp P m ins len aux pc L S k n H = some q) (X : Stand p l e (rm P m) s mid args below meth c T locs k n) (hx : p.tables.exec = Jvm.exec) (hZ : Z.Warmed39 s.vm)
    (hby : c.code = bt m) (hml : c.maxLocals = ml P m) (hown : s.vm.findClass (nm m).cls = some mid.cls) (hnm : meth.name = (nm m).name) (hL : L.length = ml P m) (r : RelH C fn F Z n0 T.heap H) (N : Fr n0 locs) (hk : k ≤ (rm P m).cells) (hn : n ≤ (rm P m).slots) :
    Go C fn F Z n0 p l e (rm P m) s mid args below meth c (T.setTop (mkF mid pc L.toArray S)) (ml P m) q := by
  obtain ⟨hd, hl, ho⟩ := (hG.2.2.2.2.1 m hm).2.2 pc ins len aux hrow
  replace hd := hb hby hd
  cases ins with
  | iconst i =>
    have hl : len = 1 := hl; subst hl
    obtain rfl := Option.some.inj h
    exact go_same X r N hk hn hL fun t g => XS.iconst X.here hx rfl hd g
  | bipush i =>
    have hl : len = 2 := hl; subst hl
    obtain rfl := Option.some.inj h
    exact go_same X r N hk hn hL fun t g => XS.bipush X.here hx rfl hd g
  | sipush i =>
    have hl : len = 3 := hl; subst hl
    obtain rfl := Option.some.inj h
    exact go_same X r N hk hn hL fun t g => XS.sipush X.here hx rfl hd g
  | lconst i =>
    have hl : len = 1 := hl; subst hl
    obtain rfl := Option.some.inj h
    exact go_same X r N hk hn hL fun t g => XT.lconst X.here hx rfl hd g
  | ldc i =>
    have hl : len = 2 := hl; subst hl
    obtain rfl := Option.some.inj h
    exact go_same X r N hk hn hL fun t g => X.ldcI hx hown (mv hZ (hw _ ho)) rfl hd g
  | ldc2_w i =>
    have hl : len = 3 := hl; subst hl
    obtain rfl := Option.some.inj h
    exact go_same X r N hk hn hL fun t g => X.ldc2J hx hown (mv hZ (hw _ ho)) rfl hd g
  | iload i =>
    have hl : len = 2 := hl; subst hl
    obtain ⟨v, hv, rfl⟩ := Option.map_eq_some_iff.mp h
    obtain ⟨x, rfl, hg⟩ := ldI_ok hv
    exact go_same X r N hk hn hL fun t g => XS.iload X.here hx rfl hd hg g
  | iload_n i =>
    have hl : len = 1 := hl; subst hl
    obtain ⟨v, hv, rfl⟩ := Option.map_eq_some_iff.mp h
    obtain ⟨x, rfl, hg⟩ := ldI_ok hv
    exact go_same X r N hk hn hL fun t g => XS.iloadN X.here hx rfl hd hg g
  | lload i =>
    have hl : len = 2 := hl; subst hl
    obtain ⟨v, hv, rfl⟩ := Option.map_eq_some_iff.mp h
    obtain ⟨x, rfl, hg⟩ := ldJ_ok hv
    exact go_same X r N hk hn hL fun t g => XT.lload X.here hx rfl hd hg g
  | lload_n i =>
    have hl : len = 1 := hl; subst hl
    obtain ⟨v, hv, rfl⟩ := Option.map_eq_some_iff.mp h
    obtain ⟨x, rfl, hg⟩ := ldJ_ok hv
    exact go_same X r N hk hn hL fun t g => XT.lloadN X.here hx rfl hd hg g
  | aload i =>
    have hl : len = 2 := hl; subst hl
    obtain ⟨v, hv, rfl⟩ := Option.map_eq_some_iff.mp h
    obtain ⟨x, rfl, hg⟩ := ldR_ok hv
    exact go_same X r N hk hn hL fun t g => XS.aload X.here hx rfl hd hg rfl g
  | aload_n i =>
    have hl : len = 1 := hl; subst hl
    obtain ⟨v, hv, rfl⟩ := Option.map_eq_some_iff.mp h
    obtain ⟨x, rfl, hg⟩ := ldR_ok hv
    exact go_same X r N hk hn hL fun t g => XS.aloadN X.here hx rfl hd hg rfl g
  | istore i =>
    have hl : len = 2 := hl; subst hl
    dsimp only [stp] at h
    split at h
    · rename_i x S'
      obtain ⟨L', hv, rfl⟩ := Option.map_eq_some_iff.mp h
      obtain ⟨g1, g2⟩ := stl_ok rfl hv
      exact go_same X r N hk hn (g2.trans hL) fun t g => XS.istore X.here hx rfl hd rfl g1 g
    · cases h
  | istore_n i =>
    have hl : len = 1 := hl; subst hl
    dsimp only [stp] at h
    split at h
    · rename_i x S'
      obtain ⟨L', hv, rfl⟩ := Option.map_eq_some_iff.mp h
      obtain ⟨g1, g2⟩ := stl_ok rfl hv
      exact go_same X r N hk hn (g2.trans hL) fun t g => XS.istoreN X.here hx rfl hd rfl g1 g
    · cases h
  | astore i =>
    have hl : len = 2 := hl; subst hl
    dsimp only [stp] at h
    split at h
    · rename_i x S'
      obtain ⟨L', hv, rfl⟩ := Option.map_eq_some_iff.mp h
      obtain ⟨g1, g2⟩ := stl_ok rfl hv
      exact go_same X r N hk hn (g2.trans hL) fun t g => XS.astore X.here hx rfl hd rfl rfl g1 g
    · cases h
  | astore_n i =>
    have hl : len = 1 := hl; subst hl
    dsimp only [stp] at h
    split at h
    · rename_i x S'
      obtain ⟨L', hv, rfl⟩ := Option.map_eq_some_iff.mp h
      obtain ⟨g1, g2⟩ := stl_ok rfl hv
      exact go_same X r N hk hn (g2.trans hL) fun t g => XS.astoreN X.here hx rfl hd rfl rfl g1 g
    · cases h
  | lstore i =>
    have hl : len = 2 := hl; subst hl
    dsimp only [stp] at h
    split at h
    · rename_i x S'
      obtain ⟨L', hv, rfl⟩ := Option.map_eq_some_iff.mp h
      obtain ⟨g1, g2⟩ := stL_ok rfl hv
      exact go_same X r N hk hn (g2.trans hL) fun t g => XT.lstore X.here hx rfl hd rfl g1 g
    · cases h
  | lstore_n i =>
    have hl : len = 1 := hl; subst hl
    dsimp only [stp] at h
    split at h
    · rename_i x S'
      obtain ⟨L', hv, rfl⟩ := Option.map_eq_some_iff.mp h
      obtain ⟨g1, g2⟩ := stL_ok rfl hv
      exact go_same X r N hk hn (g2.trans hL) fun t g => XT.lstoreN X.here hx rfl hd rfl g1 g
    · cases h
  | iinc i cst =>
    have hl : len = 3 := hl; subst hl
    dsimp only [stp] at h
    split at h
    · rename_i x hx1
      obtain rfl := Option.some.inj h
      have g1 : storeLocals L.toArray i (.int (x + Int32.ofInt cst)) = some (L.set i (.val (.int (x + Int32.ofInt cst)))).toArray := (stl_ok rfl (stl_plain hx1 rfl)).1
      exact go_same X r N hk hn (by simpa using hL) fun t g => XS.iinc X.here hx rfl hd (arr_get hx1) g1 g
    · cases h
  | iadd =>
    have hl : len = 1 := hl; subst hl
    dsimp only [stp] at h
    split at h
    · rename_i y x S'
      obtain rfl := Option.some.inj h
      exact go_same X r N hk hn hL fun t g => XS.iadd X.here hx rfl hd rfl g
    · cases h
  | isub =>
    have hl : len = 1 := hl; subst hl
    dsimp only [stp] at h
    split at h
    · rename_i y x S'
      obtain rfl := Option.some.inj h
      exact go_same X r N hk hn hL fun t g => XS.isub X.here hx rfl hd rfl g
    · cases h
  | imul =>
    have hl : len = 1 := hl; subst hl
    dsimp only [stp] at h
    split at h
    · rename_i y x S'
      obtain rfl := Option.some.inj h
      exact go_same X r N hk hn hL fun t g => XS.imul X.here hx rfl hd rfl g
    · cases h
  | iand =>
    have hl : len = 1 := hl; subst hl
    dsimp only [stp] at h
    split at h
    · rename_i y x S'
      obtain rfl := Option.some.inj h
      exact go_same X r N hk hn hL fun t g => XS.iand X.here hx rfl hd rfl g
    · cases h
  | ior =>
    have hl : len = 1 := hl; subst hl
    dsimp only [stp] at h
    split at h
    · rename_i y x S'
      obtain rfl := Option.some.inj h
      exact go_same X r N hk hn hL fun t g => XT.ior X.here hx rfl hd rfl g
    · cases h
  | ixor =>
    have hl : len = 1 := hl; subst hl
    dsimp only [stp] at h
    split at h
    · rename_i y x S'
      obtain rfl := Option.some.inj h
      exact go_same X r N hk hn hL fun t g => XT.ixor X.here hx rfl hd rfl g
    · cases h
  | ishl =>
    have hl : len = 1 := hl; subst hl
    dsimp only [stp] at h
    split at h
    · rename_i y x S'
      obtain rfl := Option.some.inj h
      exact go_same X r N hk hn hL fun t g => XT.ishl X.here hx rfl hd rfl g
    · cases h
  | ishr =>
    have hl : len = 1 := hl; subst hl
    dsimp only [stp] at h
    split at h
    · rename_i y x S'
      obtain rfl := Option.some.inj h
      exact go_same X r N hk hn hL fun t g => XT.ishr X.here hx rfl hd rfl g
    · cases h
  | iushr =>
    have hl : len = 1 := hl; subst hl
    dsimp only [stp] at h
    split at h
    · rename_i y x S'
      obtain rfl := Option.some.inj h
      exact go_same X r N hk hn hL fun t g => XT.iushr X.here hx rfl hd rfl g
    · cases h
  | ladd =>
    have hl : len = 1 := hl; subst hl
    dsimp only [stp] at h
    split at h
    · rename_i y x S'
      obtain rfl := Option.some.inj h
      exact go_same X r N hk hn hL fun t g => XT.ladd X.here hx rfl hd rfl g
    · cases h
  | lsub =>
    have hl : len = 1 := hl; subst hl
    dsimp only [stp] at h
    split at h
    · rename_i y x S'
      obtain rfl := Option.some.inj h
      exact go_same X r N hk hn hL fun t g => XT.lsub X.here hx rfl hd rfl g
    · cases h
  | lmul =>
    have hl : len = 1 := hl; subst hl
    dsimp only [stp] at h
    split at h
    · rename_i y x S'
      obtain rfl := Option.some.inj h
      exact go_same X r N hk hn hL fun t g => XT.lmul X.here hx rfl hd rfl g
    · cases h
  | land =>
    have hl : len = 1 := hl; subst hl
    dsimp only [stp] at h
    split at h
    · rename_i y x S'
      obtain rfl := Option.some.inj h
      exact go_same X r N hk hn hL fun t g => XT.land X.here hx rfl hd rfl g
    · cases h
  | lor =>
    have hl : len = 1 := hl; subst hl
    dsimp only [stp] at h
    split at h
    · rename_i y x S'
      obtain rfl := Option.some.inj h
      exact go_same X r N hk hn hL fun t g => XT.lor X.here hx rfl hd rfl g
    · cases h
  | lxor =>
    have hl : len = 1 := hl; subst hl
    dsimp only [stp] at h
    split at h
    · rename_i y x S'
      obtain rfl := Option.some.inj h
      exact go_same X r N hk hn hL fun t g => XT.lxor X.here hx rfl hd rfl g
    · cases h
  | lshl =>
    have hl : len = 1 := hl; subst hl
    dsimp only [stp] at h
    split at h
    · rename_i y x S'
      obtain rfl := Option.some.inj h
      exact go_same X r N hk hn hL fun t g => XT.lshl X.here hx rfl hd rfl g
    · cases h
  | lshr =>
    have hl : len = 1 := hl; subst hl
    dsimp only [stp] at h
    split at h
    · rename_i y x S'
      obtain rfl := Option.some.inj h
      exact go_same X r N hk hn hL fun t g => XT.lshr X.here hx rfl hd rfl g
    · cases h
  | lushr =>
    have hl : len = 1 := hl; subst hl
    dsimp only [stp] at h
    split at h
    · rename_i y x S'
      obtain rfl := Option.some.inj h
      exact go_same X r N hk hn hL fun t g => XT.lushr X.here hx rfl hd rfl g
    · cases h
  | idiv =>
    have hl : len = 1 := hl; subst hl
    dsimp only [stp] at h
    split at h
    · rename_i y x S'
      split at h
      · cases h
      · rename_i g0
        obtain rfl := Option.some.inj h
        exact go_same X r N hk hn hL fun t g => XS.idiv X.here hx rfl hd rfl g0 g
    · cases h
  | irem =>
    have hl : len = 1 := hl; subst hl
    dsimp only [stp] at h
    split at h
    · rename_i y x S'
      split at h
      · cases h
      · rename_i g0
        obtain rfl := Option.some.inj h
        exact go_same X r N hk hn hL fun t g => iremM X hx rfl hd rfl g0 g
    · cases h
  | ldiv =>
    have hl : len = 1 := hl; subst hl
    dsimp only [stp] at h
    split at h
    · rename_i y x S'
      split at h
      · cases h
      · rename_i g0
        obtain rfl := Option.some.inj h
        exact go_same X r N hk hn hL fun t g => XT.ldiv X.here hx rfl hd rfl g0 g
    · cases h
  | lrem =>
    have hl : len = 1 := hl; subst hl
    dsimp only [stp] at h
    split at h
    · rename_i y x S'
      split at h
      · cases h
      · rename_i g0
        obtain rfl := Option.some.inj h
        exact go_same X r N hk hn hL fun t g => XT.lrem X.here hx rfl hd rfl g0 (by rw [lrem_mod]; exact g)
    · cases h
  | ineg =>
    have hl : len = 1 := hl; subst hl
    dsimp only [stp] at h
    split at h
    · rename_i x S'
      obtain rfl := Option.some.inj h
      exact go_same X r N hk hn hL fun t g => XS.ineg X.here hx rfl hd rfl g
    · cases h
  | lneg =>
    have hl : len = 1 := hl; subst hl
    dsimp only [stp] at h
    split at h
    · rename_i x S'
      obtain rfl := Option.some.inj h
      exact go_same X r N hk hn hL fun t g => XT.lneg X.here hx rfl hd rfl g
    · cases h
  | i2l =>
    have hl : len = 1 := hl; subst hl
    dsimp only [stp] at h
    split at h
    · rename_i x S'
      obtain rfl := Option.some.inj h
      exact go_same X r N hk hn hL fun t g => XT.i2l X.here hx rfl hd rfl g
    · cases h
  | l2i =>
    have hl : len = 1 := hl; subst hl
    dsimp only [stp] at h
    split at h
    · rename_i x S'
      obtain rfl := Option.some.inj h
      exact go_same X r N hk hn hL fun t g => XT.l2i X.here hx rfl hd rfl g
    · cases h
  | i2b =>
    have hl : len = 1 := hl; subst hl
    dsimp only [stp] at h
    split at h
    · rename_i x S'
      obtain rfl := Option.some.inj h
      exact go_same X r N hk hn hL fun t g => XT.i2b X.here hx rfl hd rfl g
    · cases h
  | lcmp =>
    have hl : len = 1 := hl; subst hl
    dsimp only [stp] at h
    split at h
    · rename_i y x S'
      obtain rfl := Option.some.inj h
      exact go_same X r N hk hn hL fun t g => XT.lcmp X.here hx rfl hd rfl g
    · cases h
  | dup =>
    have hl : len = 1 := hl; subst hl
    dsimp only [stp] at h
    split at h
    · rename_i v S'
      split at h
      · rename_i g0
        obtain rfl := Option.some.inj h
        exact go_same X r N hk hn hL fun t g => XS.dup X.here hx rfl hd rfl g0 g
      · cases h
    · cases h
  | pop =>
    have hl : len = 1 := hl; subst hl
    dsimp only [stp] at h
    split at h
    · rename_i v S'
      split at h
      · rename_i g0
        obtain rfl := Option.some.inj h
        exact go_same X r N hk hn hL fun t g => XT.pop X.here hx rfl hd rfl g0 g
      · cases h
    · cases h
  | dup2 =>
    have hl : len = 1 := hl; subst hl
    dsimp only [stp] at h
    split at h
    · rename_i x S'
      obtain rfl := Option.some.inj h
      exact go_same X r N hk hn hL fun t g => XT.dup2L X.here hx rfl hd rfl g
    · rename_i v w S' _
      split at h
      · rename_i g0
        obtain rfl := Option.some.inj h
        exact go_same X r N hk hn hL fun t g => XT.dup2 X.here hx rfl hd rfl g0.1 g0.2 g
      · cases h
    · cases h
  | goto o =>
    have hl : len = 3 := hl; subst hl
    obtain ⟨v, hv, rfl⟩ := Option.map_eq_some_iff.mp h
    obtain ⟨g1, g2⟩ := jmp_ok hv
    exact go_same X r N hk hn hL fun t g => XS.goto X.here hx rfl rfl hd g1 g2 g
  | ifCond cd o =>
    have hl : len = 3 := hl; subst hl
    dsimp only [stp] at h
    split at h
    · rename_i x S'
      split at h
      · rename_i g0
        obtain ⟨v, hv, rfl⟩ := Option.map_eq_some_iff.mp h
        obtain ⟨g1, g2⟩ := jmp_ok hv
        exact go_same X r N hk hn hL fun t g => XS.ifYes X.here hx rfl rfl hd rfl g0 g1 g2 g
      · rename_i g0
        obtain rfl := Option.some.inj h
        exact go_same X r N hk hn hL fun t g => XS.ifNo X.here hx rfl hd rfl (by simpa using g0) g
    · cases h
  | if_icmp cd o =>
    have hl : len = 3 := hl; subst hl
    dsimp only [stp] at h
    split at h
    · rename_i y x S'
      split at h
      · rename_i g0
        obtain ⟨v, hv, rfl⟩ := Option.map_eq_some_iff.mp h
        obtain ⟨g1, g2⟩ := jmp_ok hv
        exact go_same X r N hk hn hL fun t g => XS.icmpYes X.here hx rfl rfl hd rfl g0 g1 g2 g
      · rename_i g0
        obtain rfl := Option.some.inj h
        exact go_same X r N hk hn hL fun t g => XS.icmpNo X.here hx rfl hd rfl (by simpa using g0) g
    · cases h
  | tableswitch d lo hi os =>
    dsimp only [stp] at h
    split at h
    · rename_i x S'
      split at h
      · rename_i g0
        obtain ⟨v, hv, rfl⟩ := Option.map_eq_some_iff.mp h
        obtain ⟨g1, g2⟩ := jmp_ok hv
        exact go_same X r N hk hn hL fun t g => XS.tswOut X.here hx rfl rfl hd rfl g0 g1 g2 g
      · rename_i g0
        obtain ⟨o, ho1, h⟩ := Option.bind_eq_some_iff.mp h
        obtain ⟨v, hv, rfl⟩ := Option.map_eq_some_iff.mp h
        obtain ⟨g1, g2⟩ := jmp_ok hv
        exact go_same X r N hk hn hL fun t g => XS.tswIn X.here hx rfl rfl hd rfl g0 ho1 g1 g2 g
    · cases h
  | getfield i =>
    have hl : len = 3 := hl; subst hl
    dsimp only [stp] at h
    split at h
    · rename_i a S'
      split at h
      · rename_i g0
        obtain rfl := Option.some.inj h
        obtain ⟨T1, X1, e1, st1⟩ := getF X hx hZ hown (host := "") (Or.inl (hw _ ho.2)) Via.refl rfl ((r.obj g0).2 _ ho.1) (g := mkF mid pc L.toArray (.ref a :: S')) rfl rfl hd
        exact go_heap X1 r e1 N hk hn hL fun t g => st1 t g
      · cases h
    · cases h
  | putfield i =>
    have hl : len = 3 := hl; subst hl
    dsimp only [stp] at h
    split at h
    · rename_i v a S'
      split at h
      · rename_i g0
        obtain rfl := Option.some.inj h
        obtain ⟨o1, o2, o3⟩ := ho
        obtain ⟨w1, w2⟩ := isOw_ok g0.1
        obtain ⟨n1, n2⟩ := okv_ok g0.2
        have hlay : (Jvm.Cond.lays C C (fn aux.toNat).1 (fn aux.toNat).2).before a0 Z = true ∨ ((Jvm.Cond.laysFinal C C (fn aux.toNat).1 (fn aux.toNat).2).before a0 Z = true ∧ (nm m).cls = C ∧ meth.name = "<init>") := by
          rcases o3 with q | ⟨q1, q2⟩
          · exact Or.inl (hw _ q)
          · rcases (hG.2.2.1 _ o1).2 with q | q
            · exact Or.inl (hw _ q)
            · exact Or.inr ⟨hw _ q, q1, hnm.trans q2⟩
        obtain ⟨T1, h1, X1, e1, W1, st1⟩ := putF X hx hZ hown (host := "") (Or.inl (hw _ o2)) Via.refl rfl ((r.obj w1).2 _ o1) (r.obj w1).1 hlay (hw _ hG.1) (hG.2.2.1 _ o1).1 n1 n2 (g := mkF mid pc L.toArray (v :: .ref a :: S')) rfl rfl hd
        exact ⟨T1, _, X1, by rw [e1]; exact r.wrF hG hw w1 o1 W1, Fr.snoc X1 N (r.own w2), hk, hn, hL, st1⟩
      · cases h
    · cases h
  | iaload =>
    have hl : len = 1 := hl; subst hl
    dsimp only [stp] at h
    split at h
    · rename_i i a S'
      split at h
      · rename_i g0
        obtain rfl := Option.some.inj h
        obtain ⟨w1, w2, w3⟩ := inA_ok g0
        obtain ⟨b1, cl, b2, b3, b4⟩ := r.arr w1
        exact go_same X r N hk hn hL fun t g => X.iaload hx (g := mkF mid pc L.toArray (.int i :: .ref a :: S')) b2.1 (State.isArrayOf_alike hZ.alike b2.2.1) b2.2.2 (by rw [b3]; exact idx_not w2 w3) (b4 _ w3) rfl rfl hd t g
      · cases h
    · cases h
  | laload =>
    have hl : len = 1 := hl; subst hl
    dsimp only [stp] at h
    split at h
    · rename_i i a S'
      split at h
      · rename_i g0
        obtain rfl := Option.some.inj h
        obtain ⟨w1, w2, w3⟩ := inA_ok g0
        obtain ⟨b1, cl, b2, b3, b4⟩ := r.arr w1
        exact go_same X r N hk hn hL fun t g => X.laload hx (g := mkF mid pc L.toArray (.int i :: .ref a :: S')) b2.1 (State.isArrayOf_alike hZ.alike b2.2.1) b2.2.2 (by rw [b3]; exact idx_not w2 w3) (b4 _ w3) rfl rfl hd t g
      · cases h
    · cases h
  | baload =>
    have hl : len = 1 := hl; subst hl
    dsimp only [stp] at h
    split at h
    · rename_i i a S'
      split at h
      · rename_i g0
        obtain rfl := Option.some.inj h
        rcases g0 with g0 | g0
        · obtain ⟨w1, w2, w3⟩ := inA_ok g0
          obtain ⟨b1, cl, b2, b3, b4⟩ := r.arr w1
          exact go_same X r N hk hn hL fun t g => X.baloadBytes hx (g := mkF mid pc L.toArray (.int i :: .ref a :: S')) b2.1 (State.isArrayOf_alike hZ.alike b2.2.1) b2.2.2 (by rw [b3]; exact idx_not w2 w3) (b4 _ w3) rfl rfl hd t g
        · obtain ⟨w1, w2, w3⟩ := inA_ok g0
          obtain ⟨b1, cl, b2, b3, b4⟩ := r.arr w1
          exact go_same X r N hk hn hL fun t g => X.baloadBooleans hx (g := mkF mid pc L.toArray (.int i :: .ref a :: S')) b2.1 (State.isArrayOf_alike hZ.alike b2.2.1) b2.2.2 (by rw [b3]; exact idx_not w2 w3) (b4 _ w3) rfl rfl hd t g
      · cases h
    · cases h
  | iastore =>
    have hl : len = 1 := hl; subst hl
    dsimp only [stp] at h
    split at h
    · rename_i x i a S'
      split at h
      · rename_i g0
        obtain rfl := Option.some.inj h
        obtain ⟨g1, g2⟩ := inAw_ok g0
        obtain ⟨w1, w2, w3⟩ := inA_ok g1
        obtain ⟨b1, cl, b2, b3, b4⟩ := r.arr w1
        obtain ⟨T1, h1, X1, e1, W1, st1⟩ := stI X hx hZ rfl b2 (j := i) (x := x) (by rw [b3]; exact idx_not w2 w3) (g := mkF mid pc L.toArray (.int x :: .int i :: .ref a :: S')) rfl rfl hd
        exact ⟨T1, _, X1, by rw [e1]; exact r.wrA w1 w3 W1, Fr.snoc X1 N (r.own g2), hk, hn, hL, st1⟩
      · cases h
    · cases h
  | lastore =>
    have hl : len = 1 := hl; subst hl
    dsimp only [stp] at h
    split at h
    · rename_i x i a S'
      split at h
      · rename_i g0
        obtain rfl := Option.some.inj h
        obtain ⟨g1, g2⟩ := inAw_ok g0
        obtain ⟨w1, w2, w3⟩ := inA_ok g1
        obtain ⟨b1, cl, b2, b3, b4⟩ := r.arr w1
        obtain ⟨T1, h1, X1, e1, W1, st1⟩ := stJ X hx hZ rfl b2 (j := i) (x := x) (by rw [b3]; exact idx_not w2 w3) (g := mkF mid pc L.toArray (.long x :: .int i :: .ref a :: S')) rfl rfl hd
        exact ⟨T1, _, X1, by rw [e1]; exact r.wrA w1 w3 W1, Fr.snoc X1 N (r.own g2), hk, hn, hL, st1⟩
      · cases h
    · cases h
  | bastore =>
    have hl : len = 1 := hl; subst hl
    dsimp only [stp] at h
    split at h
    · rename_i x i a S'
      split at h
      · rename_i g0
        obtain rfl := Option.some.inj h
        rcases g0 with ⟨g0, gx⟩ | ⟨g0, gx⟩
        · obtain ⟨g1, g2⟩ := inAw_ok g0
          obtain ⟨w1, w2, w3⟩ := inA_ok g1
          obtain ⟨b1, cl, b2, b3, b4⟩ := r.arr w1
          have hx2 : nar .byte x = x := Value.int.inj (okv_ok gx).1
          obtain ⟨T1, h1, X1, e1, W1, st1⟩ := stB X hx hZ rfl b2 (j := i) (x := x) (by rw [b3]; exact idx_not w2 w3) (g := mkF mid pc L.toArray (.int x :: .int i :: .ref a :: S')) rfl rfl hd
          rw [hx2] at W1
          exact ⟨T1, _, X1, by rw [e1]; exact r.wrA w1 w3 W1, Fr.snoc X1 N (r.own g2), hk, hn, hL, st1⟩
        · obtain ⟨g1, g2⟩ := inAw_ok g0
          obtain ⟨w1, w2, w3⟩ := inA_ok g1
          obtain ⟨b1, cl, b2, b3, b4⟩ := r.arr w1
          have hx2 : nar .boolean x = x := Value.int.inj (okv_ok gx).1
          obtain ⟨T1, h1, X1, e1, W1, st1⟩ := stZ X hx hZ rfl b2 (j := i) (x := x) (by rw [b3]; exact idx_not w2 w3) (g := mkF mid pc L.toArray (.int x :: .int i :: .ref a :: S')) rfl rfl hd
          rw [hx2] at W1
          exact ⟨T1, _, X1, by rw [e1]; exact r.wrA w1 w3 W1, Fr.snoc X1 N (r.own g2), hk, hn, hL, st1⟩
      · cases h
    · cases h
  | arraylength =>
    have hl : len = 1 := hl; subst hl
    dsimp only [stp] at h
    split at h
    · rename_i a S'
      split at h
      · rename_i g0
        obtain rfl := Option.some.inj h
        obtain ⟨t0, w1⟩ : ∃ t0, (H.2 a).1 = .array t0 := by unfold isA at g0; cases hq : (H.2 a).1 <;> rw [hq] at g0 <;> first | (cases g0; done) | exact ⟨_, rfl⟩
        obtain ⟨b1, cl, b2, b3, b4⟩ := r.arr w1
        refine go_same X r N hk hn hL fun t g => X.arraylength hx (g := mkF mid pc L.toArray (.ref a :: S')) b2.1 (State.isArrayOf_alike hZ.alike b2.2.1) rfl rfl hd t ?_
        rw [b3]; exact g
      · cases h
    · cases h
  | newarray t =>
    have hl : len = 2 := hl; subst hl
    dsimp only [stp] at h
    split at h
    · rename_i cnt S'
      split at h
      · rename_i g0
        obtain rfl := Option.some.inj h
        obtain ⟨z1, z2, z3, z4⟩ := g0
        have hcb : componentBytes (newarray.typeOf t) ≤ 8 := by cases t <;> decide
        obtain ⟨cA, kA, comp, h1, h2, h3, X1, st1⟩ := X.newarrayPrim hx (mvA hZ (hw _ ho)) (g := mkF mid pc L.toArray (.int cnt :: S')) rfl hd rfl z1 (Nat.le_trans (Nat.mul_le_mul_left _ hcb) z2) z3 z4
        refine ⟨_, locs, X1, ?_, N, z3, z4, hL, fun t g => st1 t (by rw [r.1]; exact g)⟩
        exact r.ext (ext_push _ _) (by show (T.heap.push _).size = _; simp) ⟨fun _ => by rw [r.1]; exact r.2.1, (back32 z1).2, _, made_arr hZ h1 h2 h3, by simp, fun i hi => by simp [hi]⟩
      · cases h
    · cases h
  | new i =>
    have hl : len = 3 := hl; subst hl
    dsimp only [stp] at h
    split at h
    · rename_i g0
      obtain rfl := Option.some.inj h
      obtain ⟨z1, z2, z3⟩ := g0
      rw [ho.1] at z3 ⊢
      obtain ⟨vm1, cC, kC, h1, h2, h3, h4, X1, st1⟩ := X.newCold hx hown (mv hZ (hw _ ho.2)) (mv hZ (hw _ hG.1)) (mv hZ (hw _ hG.2.1)) (g := mkF mid pc L.toArray S) rfl hd z2 z3
      obtain ⟨A1, D1⟩ := made_obj (h := T.heap) (a0 := a0) hZ h1 h2
      refine ⟨_, locs, X1, ?_, N, z2, z3, hL, fun t g => st1 t (by rw [r.1]; exact g)⟩
      exact r.ext (ext_push _ _) (by show (T.heap.push _).size = _; simp) ⟨fun _ => by rw [r.1]; exact r.2.1, A1, fun j hj => D1 (((hG.2.2.1 j hj).2).imp (hw _) (hw _)) (hG.2.2.1 j hj).1⟩
    · cases h
  | invokespecial i =>
    have hl : len = 3 := hl; subst hl
    dsimp only [stp] at h
    split at h
    · rename_i a S'
      split at h
      · rename_i g0
        obtain rfl := Option.some.inj h
        obtain ⟨rfl, z2, z3⟩ := g0
        obtain ⟨o1, o2, o3⟩ := ho.1 rfl
        obtain ⟨T1, X1, e1, st1⟩ := initO X hx hZ hown (hw _ o1) (hw _ o2) (hw _ o3) rfl (g := mkF mid pc L.toArray (.ref a :: S')) rfl (by rw [hml, ← hL]; simp) rfl hd z2 (W := cs S') (by show 2 * 0 + _ ≤ _; exact Nat.le_of_eq (Nat.zero_add _)) z3
        exact go_heap X1 r e1 N hk hn hL fun t g => st1 t g
      · cases h
    · cases h
  | _ => exact absurd (show (none : Option Fm) = some q from h) (by simp)
end Step
end Jvm.JX

namespace Jvm.JX
open Sem ClassFile Op Lib Jvm.Stand Jvm.Free Jvm.LawKit Jvm.RoadKit
section Sound
variable {P : Prog} {tb : List Jvm.Cond} {C : String} {fn : Nat → String × String} {F : List Nat} {nsl : Nat} {nm : Nat → MethodName} {bt : Nat → ByteArray} {R : List Nat} {top : Nat}
variable {l : Launch} {Z : State} {a0 : Array Value} {n0 : Nat}
def Endd (C : String) (fn : Nat → String × String) (F : List Nat) (Z : State) (n0 : Nat) (p : Program) (l : Launch) (e : Env) (Rm : Jvm.Room) (s : State) (mid : MethodId) (args : Array Value) (below : List Frame) (meth : Method) (c : Code) (rt0 : Option FieldType) (start : State) (v : Option Value) (H' : AH) : Prop :=
  ∃ T' locs' k' n', Stand p l e Rm s mid args below meth c T' locs' k' n' ∧ RelH C fn F Z n0 T'.heap H' ∧ Fr n0 locs' ∧ k' ≤ Rm.cells ∧ n' ≤ Rm.slots ∧ (rt0 = none → v = none) ∧
    ∀ fs, (∀ (f : JFrame) (acts : List Action), f.method = mid → f.locked = none → f.entered = [] → (doReturn e (T'.setTop f) acts v).1 = T'.setFrames fs) → Steps p.tables e below start (T'.setFrames fs)
def Says (P : Prog) (C : String) (fn : Nat → String × String) (F : List Nat) (nm : Nat → MethodName) (bt : Nat → ByteArray) (l : Launch) (Z : State) (n0 m pc : Nat) (L : List Slot) (S : List Value) (k n : Nat) (H : AH) (v : Option Value) (H' : AH) : Prop :=
  ∀ (p : Program) (e : Env) (s : State) (mid : MethodId) (args : Array Value) (below : List Frame) (meth : Method) (c : Code) (T : State) (locs : List Loc), Stand p l e (rm P m) s mid args below meth c T locs k n → p.tables.exec = Jvm.exec → Z.Warmed39 s.vm → c.code = bt m → c.maxLocals = ml P m →
    s.vm.findClass (nm m).cls = some mid.cls → meth.name = (nm m).name → meth.sig.returnType = rt P m → L.length = ml P m → RelH C fn F Z n0 T.heap H → Fr n0 locs → k ≤ (rm P m).cells → n ≤ (rm P m).slots →
    Endd C fn F Z n0 p l e (rm P m) s mid args below meth c (rt P m) (T.setTop (mkF mid pc L.toArray S)) v H'
theorem Endd.back {p : Program} {e : Env} {Rm : Jvm.Room} {s : State} {mid : MethodId} {args : Array Value} {below : List Frame} {meth : Method} {c : Code} {rt0 : Option FieldType} {start start' : State} {v : Option Value} {H' : AH}
    (h : Endd C fn F Z n0 p l e Rm s mid args below meth c rt0 start' v H') (st : ∀ t, Steps p.tables e below start' t → Steps p.tables e below start t) : Endd C fn F Z n0 p l e Rm s mid args below meth c rt0 start v H' := by
  obtain ⟨T', locs', k', n', h1, h2, h3, h4, h5, h6, h7⟩ := h
  exact ⟨T', locs', k', n', h1, h2, h3, h4, h5, h6, fun fs g => st _ (h7 fs g)⟩
theorem met_of {m : Nat} {as : List Value} {H H' : AH} {v : Option Value} {h : Heap} (ws : List Jvm.Cond) (hp : plainName (nm m).cls = true) (hl : (Sym.laidSlots as).length ≤ ml P m) (r : RelH C fn F Z n0 h H)
    (hS : Says P C fn F nm bt l Z n0 m 0 (ent P m as) [] 0 0 H v H') :
    MetFree l (nm m) (head1 (Jvm.Cond.code (nm m) (bt m) (ml P m) (rt P m) :: ws) (rm P m)) (fun a U => a = as.toArray ∧ Z.Warmed39 U.vm ∧ U.heap = h) (fun _ _ _ _ _ => True)
      (fun _ U o U' => ∃ v' L, o = .returned v' ∧ (v' = v ∧ Fr n0 L ∧ RelH C fn F Z n0 U'.heap H') ∧ FrameEnd U o U' L (rm P m).cells (rm P m).slots) := by
  refine MetFree.of_bodySF (plainFor_of_name hp) hisR ?_
  intro p e s mid args below meth c s₁ Bd hml0 hP hK
  obtain ⟨rfl, hZ, hh⟩ := hP
  have X0 : Stand p l e (rm P m) s mid as.toArray below meth c s₁ [] 0 0 := Stand.of_body Bd
  have e0 : s₁.heap = h := by rw [← hh, Bd.state]; rfl
  have hle : (ent P m as).length = ml P m := by simp [ent]; omega
  obtain ⟨T', locs', k', n', X1, r1, N1, hk1, hn1, hv1, st1⟩ := hS p e s mid as.toArray below meth c s₁ [] X0 Bd.exec hZ Bd.bytes hml0 (findClass_of_methodNamed Bd.named) (name_of_methodNamed Bd.named Bd.method).1 Bd.returns hle (by rw [e0]; exact r) (Fr.nil n0) (Nat.zero_le _) (Nat.zero_le _)
  obtain ⟨fs, hr, hrun, hended, hW, hsame⟩ := X1.leave (v := v) (fun q => hv1 (Bd.returns.symm.trans q))
  refine ⟨_, _, (Jvm.Free.XT.entry (Ls := (ent P m as).toArray) (by simp [ent])).trans (st1 fs hr), hrun, hended, v, locs', rfl, ⟨rfl, N1, r1⟩, ⟨_, rfl⟩, hW, hsame.mono hk1 hn1⟩
theorem ret_ok {m : Nat} {ins : Instr} {S : List Value} {v : Option Value} (h : ret P m ins S = some v) : (rt P m = none ∧ v = none ∧ ins = .return_ ∧ S = []) ∨ ∃ t w rest, rt P m = some t ∧ v = some w ∧ S = w :: rest ∧ narrow t w = w ∧
    ((ins = .ireturn ∧ (t = .int ∨ t = .boolean ∨ t = .byte ∨ t = .char ∨ t = .short) ∧ ∃ z, w = .int z) ∨ (ins = .lreturn ∧ t = .long ∧ ∃ z, w = .long z)) := by
  unfold ret at h
  split at h
  · split at h
    · rename_i g; cases h; exact Or.inl ⟨g.1, rfl, rfl, g.2⟩
    · cases h
  · split at h
    · rename_i z rest g; cases h; exact Or.inr ⟨.int, _, rest, g, rfl, rfl, rfl, Or.inl ⟨rfl, Or.inl rfl, z, rfl⟩⟩
    · rename_i z rest g
      split at h
      · rename_i g0
        cases h
        refine Or.inr ⟨.boolean, _, rest, g, rfl, rfl, ?_, Or.inl ⟨rfl, Or.inr (Or.inl rfl), z, rfl⟩⟩
        rcases g0 with rfl | rfl <;> rfl
      · cases h
    · cases h
  · split at h
    · rename_i z rest g; cases h; exact Or.inr ⟨.long, _, rest, g, rfl, rfl, rfl, Or.inr ⟨rfl, rfl, z, rfl⟩⟩
    · cases h
  · cases h
theorem cal_ok {m m' k n : Nat} {ins : Instr} {aux : Int} {S a r : List Value} {H : AH} (h : cal P m ins aux S k n H = some (m', a, r)) : aux = (m' : Int) ∧ kindOk ins (kd P m') = true ∧ may P m m' a r k n H = true ∧ S = a.reverse ++ r := by
  have h1 : cal1 P m ins aux S k n H = some (m', a, r) := by
    unfold cal at h
    split at h <;> first | exact h | (cases h)
  unfold cal1 at h1
  split at h1
  · rename_i g
    cases h1
    exact ⟨by omega, g.2.1, g.2.2, by rw [List.reverse_reverse]; exact (List.take_append_drop ..).symm⟩
  · cases h1
end Sound
end Jvm.JX

namespace Jvm.JX
open Sem ClassFile Op Lib Jvm.Stand Jvm.Free Jvm.LawKit Jvm.RoadKit
section Sound
variable {P : Prog} {tb : List Jvm.Cond} {C : String} {fn : Nat → String × String} {F : List Nat} {nsl : Nat} {nm : Nat → MethodName} {bt : Nat → ByteArray} {R : List Nat} {top : Nat}
variable {l : Launch} {Z : State} {a0 : Array Value} {n0 : Nat}
theorem may_ok {m m' k n : Nat} {a r : List Value} {H : AH} (h : may P m m' a r k n H = true) : (Sym.laidSlots a).length ≤ ml P m' ∧ a.length = na P m' ∧ (rm P m').frames + 1 ≤ (rm P m).frames ∧ cs r + (ml P m' + 11) + (rm P m').locals ≤ (rm P m).locals ∧
    (((rm P m').cells = 0 ∧ (rm P m').slots = 0) ∨ (k + (rm P m').cells ≤ (rm P m).cells ∧ n + (rm P m').slots ≤ (rm P m).slots)) ∧ (kd P m' = 0 ∨ rcv H a = true) := by
  simpa [may, and_assoc] using h
theorem rcv_ok {H : AH} {a : List Value} (h : rcv H a = true) : ∃ b as, a = .ref b :: as ∧ isO H b = true := by
  unfold rcv at h
  split at h
  · exact ⟨_, _, rfl, h⟩
  · cases h
set_option maxHeartbeats 1000000 in
theorem call_go {m pc len k n m' : Nat} {aux : Int} {L : List Slot} {S a r : List Value} {H H1 : AH} {ins : Instr} {v1 : Option Value} {p : Program} {e : Env} {s : State} {mid : MethodId} {args : Array Value} {below : List Frame} {meth : Method} {c : Code} {T : State} {locs : List Loc}
    (hG : Good P tb C fn F nsl nm bt R top) (hw : ∀ d ∈ tb, d.before a0 Z = true) (hm : m ∈ R) (hrow : P.1 m pc = some (ins, len, aux)) (hc : cal P m ins aux S k n H = some (m', a, r)) (hS : m' ∈ R → Says P C fn F nm bt l Z n0 m' 0 (ent P m' a) [] 0 0 H v1 H1)
    (X : Stand p l e (rm P m) s mid args below meth c T locs k n) (hx : p.tables.exec = Jvm.exec) (hZ : Z.Warmed39 s.vm)
    (hby : c.code = bt m) (hml : c.maxLocals = ml P m) (hown : s.vm.findClass (nm m).cls = some mid.cls) (hL : L.length = ml P m) (rr : RelH C fn F Z n0 T.heap H) (N : Fr n0 locs) (hk : k ≤ (rm P m).cells) (hn : n ≤ (rm P m).slots) :
    Go C fn F Z n0 p l e (rm P m) s mid args below meth c (T.setTop (mkF mid pc L.toArray S)) (ml P m) (pc + len, L, v1.toList ++ r, k + (rm P m').cells, n + (rm P m').slots, H1) := by
  obtain ⟨hd, hl, ho⟩ := (hG.2.2.2.2.1 m hm).2.2 pc ins len aux hrow
  replace hd := hb hby hd
  obtain ⟨e1, e2, e3, e4⟩ := cal_ok hc
  obtain ⟨y1, y2, y3, y4, y5, y6⟩ := may_ok e3
  have hnt : m' ≠ top := fun q => by
    have := hG.2.2.2.2.2.2 m hm pc ins len aux hrow (by rw [e1, q])
    rw [q, this] at e2; cases e2
  have y5' : k + (rm P m').cells ≤ (rm P m).cells ∧ n + (rm P m').slots ≤ (rm P m).slots := by rcases y5 with ⟨q1, q2⟩ | q <;> omega
  have hsize : (mkF mid pc L.toArray S).locals.size = c.maxLocals := by rw [hml, ← hL]; simp
  have hcs : 2 * (mkF mid pc L.toArray S).monitorRoom + (r.map fun v => v.category).sum ≤ cs r := by show 2 * 0 + _ ≤ _; exact Nat.le_of_eq (Nat.zero_add _)
  subst e1
  cases ins with
  | invokevirtual ix =>
    have hl : len = 3 := hl
    subst hl
    obtain ⟨mR, lnk⟩ := ho
    rw [Int.toNat_natCast] at mR lnk
    obtain ⟨c1, c2, ⟨ps, rr0, c3, c4⟩, c5, c6, c7, c8, c9⟩ := hG.2.2.2.2.2.1 m' mR hnt
    have hk0 : kd P m' ≠ 0 := fun q => by rw [q] at e2; cases e2
    obtain ⟨hcls, hinst⟩ := c6 hk0
    obtain ⟨b, as, rfl, hb⟩ := rcv_ok (y6.resolve_left hk0)
    obtain ⟨Eb, -⟩ := rr.obj hb
    have hlen : as.length = ps.length := by rw [if_neg hk0] at c4; simp only [List.length_cons] at y2; omega
    have eS : S = as.reverse ++ .ref b :: r := by rw [e4]; simp
    subst eS
    obtain ⟨pn, hy, -⟩ := hG.2.2.2.2.1 m' mR
    have BK := backOf (Q := fun v' h' L' => v' = v1 ∧ Fr n0 L' ∧ RelH C fn F Z n0 h' H1) (R := rm P m) (W := cs r) (p := p) (e := e) (below := below) (s := s) (args := args) (len := 3) (met_of [] pn y1 rr (hS mR)) hZ (hw _ c1) (hw _ c2) y3 y4
    have hkk : kd P m' = 1 ∨ kd P m' = 2 := by simpa [kindOk] using e2
    rcases hkk with hkk | hkk
    · obtain ⟨d1, d2⟩ := c7 hkk
      obtain ⟨cB, kB, q1, q2, q3⟩ := isOf (T := T) hZ rfl Eb
      obtain ⟨v, vm1, ⟨T1, L1, k1, n1⟩, -, X1, ⟨Lc, hQ, l1, z1, z2⟩, st⟩ := X.virtualBack hx (y := nm m') (z := nm m') hown (mvT hZ (hw _ lnk)) (mvT hZ (hw _ d1)) (notFace_of_selects (args := #[]) (mvT hZ (hw _ d2))) (mvT hZ (hw _ d2)) (mvT hZ (hw _ hinst)) hy BK q1 q3 (g := mkF mid pc L.toArray (as.reverse ++ .ref b :: r)) rfl hsize (Steps.refl _) (argsL := as) (rest := r) (lenOf c3 hlen) rfl hcs hd (fun _ _ => ⟨rfl, rfl, y5'.1, y5'.2⟩)
      dsimp only [Pt.U, Pt.locs, Pt.cells, Pt.slots] at X1 l1 z1 z2 st hQ
      subst l1 z1 z2
      obtain ⟨rfl, N1, r1⟩ := hQ
      exact ⟨T1, _, X1, r1, Fr.app N N1, y5'.1, y5'.2, hL, fun t g => st.trans g⟩
    · obtain ⟨ci, ki, i1, i2, i3, i4, -⟩ := Cond.instantiable_spec (show (Jvm.Cond.instantiable C nsl).before args s = true from mv hZ (hw _ hG.1))
      have hni : ki.isInterface = false := (Bool.or_eq_false_iff.mp i4).1
      have hpriv := Cond.privateMethod_at (mvP hZ (hw _ (c8 hkk)) (args := #[]))
      have hsel : (Jvm.Cond.selects (nm m').cls (nm m') (nm m')).before args s = true := selects_self_of_private (by rw [hcls]; exact i1) i2 hni hpriv (mvT hZ (hw _ hinst)) hy
      obtain ⟨cl, hcl, hcl'⟩ := Eb.cell
      obtain ⟨v, vm1, ⟨T1, L1, k1, n1⟩, -, X1, ⟨Lc, hQ, l1, z1, z2⟩, st⟩ := X.privateBack hx (y := nm m') hown (mvT hZ (hw _ lnk)) (mvT hZ (hw _ hinst)) hsel hpriv (mvT hZ (hw _ c1)) hy BK (g := mkF mid pc L.toArray (as.reverse ++ .ref b :: r)) rfl hsize (Steps.refl _) (a := b) hcl hcl' (argsL := as) (rest := r) (lenOf c3 hlen) rfl hcs hd (fun _ _ => ⟨rfl, rfl, y5'.1, y5'.2⟩)
      dsimp only [Pt.U, Pt.locs, Pt.cells, Pt.slots] at X1 l1 z1 z2 st hQ
      subst l1 z1 z2
      obtain ⟨rfl, N1, r1⟩ := hQ
      exact ⟨T1, _, X1, r1, Fr.app N N1, y5'.1, y5'.2, hL, fun t g => st.trans g⟩
  | invokestatic ix =>
    have hl : len = 3 := hl
    subst hl
    obtain ⟨mR, lnk⟩ := ho
    rw [Int.toNat_natCast] at mR lnk
    obtain ⟨c1, c2, ⟨ps, rr0, c3, c4⟩, c5, c6, c7, c8, c9⟩ := hG.2.2.2.2.2.1 m' mR hnt
    have hk0 : kd P m' = 0 := by simpa [kindOk] using e2
    have hlen : a.length = ps.length := by rw [if_pos hk0] at c4; omega
    subst e4
    obtain ⟨pn, hy, -⟩ := hG.2.2.2.2.1 m' mR
    have BK := backOf (Q := fun v' h' L' => v' = v1 ∧ Fr n0 L' ∧ RelH C fn F Z n0 h' H1) (R := rm P m) (W := cs r) (p := p) (e := e) (below := below) (s := s) (args := args) (len := 3) (met_of [] pn y1 rr (hS mR)) hZ (hw _ c1) (hw _ c2) y3 y4
    obtain ⟨v, vm1, ⟨T1, L1, k1, n1⟩, -, X1, ⟨Lc, hQ, l1, z1, z2⟩, st⟩ := Jvm.LawKit.callS X hx (y := nm m') hown (mvT hZ (hw _ lnk)) (mvT hZ (hw _ (c5 hk0))) (mvT hZ (hw _ c2)) (mvT hZ (hw _ c1)) hy BK (g := mkF mid pc L.toArray (a.reverse ++ r)) rfl hsize (argsL := a) (rest := r) (lenOf c3 hlen) rfl hcs hd (fun _ _ => ⟨rfl, rfl, y5'.1, y5'.2⟩)
    dsimp only [Pt.U, Pt.locs, Pt.cells, Pt.slots] at X1 l1 z1 z2 st hQ
    subst l1 z1 z2
    obtain ⟨rfl, N1, r1⟩ := hQ
    exact ⟨T1, _, X1, r1, Fr.app N N1, y5'.1, y5'.2, hL, fun t g => st t g⟩
  | invokespecial ix =>
    have hl : len = 3 := hl
    subst hl
    obtain ⟨mR, lnk⟩ := ho.2 (by omega)
    rw [Int.toNat_natCast] at mR lnk
    obtain ⟨c1, c2, ⟨ps, rr0, c3, c4⟩, c5, c6, c7, c8, c9⟩ := hG.2.2.2.2.2.1 m' mR hnt
    have hk3 : kd P m' = 3 := by simpa [kindOk] using e2
    have hk0 : kd P m' ≠ 0 := by omega
    obtain ⟨hcls, hinst⟩ := c6 hk0
    obtain ⟨hn3, hr3⟩ := c9 hk3
    obtain ⟨b, as, rfl, hb⟩ := rcv_ok (y6.resolve_left hk0)
    have hlen : as.length = ps.length := by rw [if_neg hk0] at c4; simp only [List.length_cons] at y2; omega
    have eS : S = as.reverse ++ .ref b :: r := by rw [e4]; simp
    subst eS
    obtain ⟨pn, hy, -⟩ := hG.2.2.2.2.1 m' mR
    have BK := backOf (Q := fun v' h' L' => v' = v1 ∧ Fr n0 L' ∧ RelH C fn F Z n0 h' H1) (R := rm P m) (W := cs r) (p := p) (e := e) (below := below) (s := s) (args := args) (len := 3) (met_of [] pn y1 rr (hS mR)) hZ (hw _ c1) (hw _ c2) y3 y4
    rw [hr3] at c1
    obtain ⟨v, vm1, ⟨T1, L1, k1, n1⟩, -, X1, ⟨Lc, hQ, l1, z1, z2⟩, st⟩ := X.specialBack hx (y := nm m') hn3 hown (mvT hZ (hw _ lnk)) (mvT hZ (hw _ hinst)) (mvT hZ (hw _ c1)) hy BK (g := mkF mid pc L.toArray (as.reverse ++ .ref b :: r)) rfl hsize (Steps.refl _) (a := b) (argsL := as) (rest := r) (lenOf c3 hlen) rfl hcs hd (fun _ _ => ⟨rfl, rfl, y5'.1, y5'.2⟩)
    dsimp only [Pt.U, Pt.locs, Pt.cells, Pt.slots] at X1 l1 z1 z2 st hQ
    subst l1 z1 z2
    obtain ⟨rfl, N1, r1⟩ := hQ
    exact ⟨T1, _, X1, r1, Fr.app N N1, y5'.1, y5'.2, hL, fun t g => st.trans g⟩
  | _ => cases e2
theorem sound (hG : Good P tb C fn F nsl nm bt R top) (hw : ∀ d ∈ tb, d.before a0 Z = true) : ∀ (f m : Nat), m ∈ R → ∀ (pc : Nat) (L : List Slot) (S : List Value) (k n : Nat) (H : AH) (v : Option Value) (H' : AH), run P f m pc L S k n H = some (v, H') → Says P C fn F nm bt l Z n0 m pc L S k n H v H' := by
  intro f
  induction f with
  | zero => intro m _ pc L S k n H v H' h; cases h
  | succ f ih =>
    intro m hm pc L S k n H v H' h p e s mid args below meth c T locs X hx hZ hby hml hown hnm hret hL r N hk hn
    rw [run_succ] at h
    cases hd : P.1 m pc with
    | none => rw [hd] at h; cases h
    | some d =>
      obtain ⟨ins, len, aux⟩ := d
      rw [hd] at h
      simp only at h
      cases hr : ret P m ins S with
      | some v1 =>
        rw [hr] at h
        cases h
        obtain ⟨hdec, hl, -⟩ := (hG.2.2.2.2.1 m hm).2.2 pc ins len aux hd
        replace hdec := hb hby hdec
        rcases ret_ok hr with ⟨q1, rfl, rfl, q0⟩ | ⟨t, w, rest, q1, rfl, rfl, q4, q5⟩
        · have hl : len = 1 := hl
          subst hl
          exact ⟨T, locs, k, n, X, r, N, hk, hn, fun _ => rfl, fun fs g => by subst q0; exact X.returnOut hx (hret.trans q1) hdec g⟩
        · refine ⟨T, locs, k, n, X, r, N, hk, hn, fun q => absurd (q1.symm.trans q) (by simp), fun fs g => ?_⟩
          have hl1 : len = 1 := by
            rcases q5 with ⟨rfl, -⟩ | ⟨rfl, -⟩ <;> exact hl
          subst hl1
          exact retOut X hx (hret.trans q1) q4 (q5.elim (fun u => Or.inl u) (fun u => Or.inr (Or.inl u))) hdec g
      | none =>
        rw [hr] at h
        simp only at h
        cases hc : cal P m ins aux S k n H with
        | some cc =>
          obtain ⟨m', a, rs⟩ := cc
          rw [hc] at h
          simp only at h
          cases hq : run P f m' 0 (ent P m' a) [] 0 0 H with
          | none => rw [hq] at h; cases h
          | some q =>
            obtain ⟨v1, H1⟩ := q
            rw [hq] at h
            obtain ⟨T1, locs1, X1, r1, N1, hk1, hn1, hL1, st⟩ := call_go hG hw hm hd hc (fun mR => ih m' mR _ _ _ _ _ _ _ _ hq) X hx hZ hby hml hown hL r N hk hn
            exact (ih m hm _ _ _ _ _ _ _ _ h p e s mid args below meth c T1 locs1 X1 hx hZ hby hml hown hnm hret hL1 r1 N1 hk1 hn1).back st
        | none =>
          rw [hc] at h
          simp only at h
          cases hs : stp P m ins len aux pc L S k n H with
          | none => rw [hs] at h; cases h
          | some q =>
            rw [hs] at h
            obtain ⟨T1, locs1, X1, r1, N1, hk1, hn1, hL1, st⟩ := stp_go hG hw hm hd hs X hx hZ hby hml hown hnm hL r N hk hn
            exact (ih m hm _ _ _ _ _ _ _ _ h p e s mid args below meth c T1 locs1 X1 hx hZ hby hml hown hnm hret hL1 r1 N1 hk1 hn1).back st
theorem law_met (hG : Good P tb C fn F nsl nm bt R top) (hw : ∀ d ∈ tb, d.before a0 Z = true) {as : List Value} {H : AH} {h : Heap} {Q : Option Value → AH → Prop} (ws : List Jvm.Cond) (ht : top ∈ R) (hl : (Sym.laidSlots as).length ≤ ml P top) (r : RelH C fn F Z n0 h H) (hC : Cl P top as H Q) :
    MetFree l (nm top) (head1 (Jvm.Cond.code (nm top) (bt top) (ml P top) (rt P top) :: ws) (rm P top)) (fun a U => a = as.toArray ∧ Z.Warmed39 U.vm ∧ U.heap = h) (fun _ _ _ _ _ => True)
      (fun _ U o U' => ∃ v' L, o = .returned v' ∧ (Fr n0 L ∧ ∃ H', Q v' H') ∧ FrameEnd U o U' L (rm P top).cells (rm P top).slots) := by
  obtain ⟨f, v, H', h1, h2⟩ := hC
  have hM := met_of (l := l) (h := h) ws (hG.2.2.2.2.1 top ht).1 hl r (sound hG hw f top ht _ _ _ _ _ _ _ _ h1)
  intro p e ha hc hk s m args below hf happ hP hK
  obtain ⟨n, o, q1, q2, q3, v', L, q4, ⟨q5, q6, q7⟩, q8⟩ := hM p e ha hc hk s m args below hf happ hP hK
  exact ⟨n, o, q1, q2, q3, v', L, q4, ⟨q6, H', by rw [q5]; exact h2⟩, q8⟩
end Sound
end Jvm.JX
namespace Jvm.JX
open Sem ClassFile Op Lib Jvm.Stand Jvm.Free Jvm.LawKit Jvm.RoadKit
theorem fa0 {α : Type} {p : α → Prop} : ∀ x ∈ ([] : List α), p x := fun _ q => nomatch q
theorem faS {α : Type} {p : α → Prop} {y : α} {L : List α} (q : p y) (r : ∀ x ∈ L, p x) : ∀ x ∈ y :: L, p x := fun x z => (List.mem_cons.mp z).elim (fun u => u ▸ q) (r x)
def rowChk (FL ML : List (Nat × Nat × Nat)) (KI KJ : List (Nat × Nat × Int)) (AT : List FieldType) (WF : List Nat) (nsl nw : Nat) (own : Nat) (ini : Bool) (ins : Instr) (aux : Int) : Bool :=
  match ins with
  | .getfield i => FL.contains (own, i, aux.toNat)
  | .putfield i => FL.contains (own, i, aux.toNat) && (WF.contains aux.toNat || ini)
  | .new i => decide (aux.toNat = nsl) && decide (own = 1) && decide (i = nw)
  | .newarray t => decide (newarray.typeOf t ∈ AT)
  | .ldc i => KI.contains (own, i, aux)
  | .ldc2_w i => KJ.contains (own, i, aux)
  | .invokevirtual i => ML.contains (own, i, aux.toNat)
  | .invokestatic i => ML.contains (own, i, aux.toNat)
  | .invokespecial i => if aux = -1 then decide (own = 0) && decide (i = 1) else ML.contains (own, i, aux.toNat)
  | _ => true
def rowOne (FL ML : List (Nat × Nat × Nat)) (KI KJ : List (Nat × Nat × Int)) (AT : List FieldType) (WF : List Nat) (nsl nw : Nat) (bt : Nat → ByteArray) (own : Nat → Nat) (ini : Nat → Bool) (m : Nat) (r : Row) : Bool :=
  decide (decode (bt m) r.1 = .ok (r.2.1, r.2.2.1)) && decide (r.2.2.1 = ilen2 r.2.1 r.2.2.1) && rowChk FL ML KI KJ AT WF nsl nw (own m) (ini m) r.2.1 r.2.2.2
theorem lookup_mem {L : List Row} {pc : Nat} {d : Instr × Nat × Int} (h : L.lookup pc = some d) : (pc, d) ∈ L := by
  induction L with
  | nil => cases h
  | cons x L ih =>
    obtain ⟨k, v⟩ := x
    rw [List.lookup_cons] at h
    by_cases e : pc = k
    · subst e; simp at h; subst h; exact List.mem_cons_self ..
    · have : (pc == k) = false := by simpa using e
      rw [this] at h; exact List.mem_cons_of_mem _ (ih h)
theorem row_ok {P : Prog} {tb : List Jvm.Cond} {C : String} {fn : Nat → String × String} {F : List Nat} {nsl nw : Nat} {nm : Nat → MethodName} {R : List Nat} {cn : Nat → String} {own : Nat → Nat} {ini : Nat → Bool}
    {FL ML : List (Nat × Nat × Nat)} {KI KJ : List (Nat × Nat × Int)} {AT : List FieldType} {WF : List Nat} {m : Nat} {ins : Instr} {aux : Int}
    (hown : (nm m).cls = cn (own m)) (hini : ini m = true → (nm m).cls = C ∧ (nm m).name = "<init>")
    (hFL : ∀ t ∈ FL, t.2.2 ∈ F ∧ Jvm.Cond.fieldLink (cn t.1) t.2.1 C (fn t.2.2).1 (fn t.2.2).2 ∈ tb) (hWF : ∀ k ∈ WF, Jvm.Cond.lays C C (fn k).1 (fn k).2 ∈ tb)
    (hML : ∀ t ∈ ML, t.2.2 ∈ R ∧ Jvm.Cond.methodLink (cn t.1) t.2.1 (nm t.2.2) ∈ tb) (hKI : ∀ t ∈ KI, Jvm.Cond.constant (cn t.1) t.2.1 (Int32.ofInt t.2.2) ∈ tb) (hKJ : ∀ t ∈ KJ, Jvm.Cond.constantLong (cn t.1) t.2.1 (Int64.ofInt t.2.2) ∈ tb)
    (hAT : ∀ t ∈ AT, Jvm.Cond.arrayClass t ∈ tb) (hN : Jvm.Cond.classLink (cn 1) nw C ∈ tb)
    (hO : Jvm.Cond.methodLink (cn 0) 1 Lib.objectInit ∈ tb ∧ Jvm.Cond.instanceMethod Lib.objectInit ∈ tb ∧ Jvm.Cond.code Lib.objectInit ⟨#[0xb1]⟩ 1 none ∈ tb)
    (h : rowChk FL ML KI KJ AT WF nsl nw (own m) (ini m) ins aux = true) : RowOk P tb C fn F nsl nm R m ins aux := by
  cases ins <;> first | trivial | skip
  case getfield i => have q := hFL _ (List.contains_iff_mem.mp h); exact ⟨q.1, by rw [hown]; exact q.2⟩
  case putfield i =>
    simp only [rowChk, Bool.and_eq_true, Bool.or_eq_true] at h
    have q := hFL _ (List.contains_iff_mem.mp h.1)
    exact ⟨q.1, by rw [hown]; exact q.2, h.2.imp (fun u => hWF _ (List.contains_iff_mem.mp u)) hini⟩
  case new i =>
    simp only [rowChk, Bool.and_eq_true, decide_eq_true_eq] at h
    obtain ⟨⟨h1, h2⟩, h3⟩ := h
    exact ⟨h1, by rw [hown, h2, h3]; exact hN⟩
  case newarray t => exact hAT _ (of_decide_eq_true h)
  case ldc i => have q := hKI _ (List.contains_iff_mem.mp h); show _ ∈ tb; rw [hown]; exact q
  case ldc2_w i => have q := hKJ _ (List.contains_iff_mem.mp h); show _ ∈ tb; rw [hown]; exact q
  case invokevirtual i => have q := hML _ (List.contains_iff_mem.mp h); exact ⟨q.1, by rw [hown]; exact q.2⟩
  case invokestatic i => have q := hML _ (List.contains_iff_mem.mp h); exact ⟨q.1, by rw [hown]; exact q.2⟩
  case invokespecial i =>
    simp only [rowChk] at h
    refine ⟨fun e => ?_, fun e => ?_⟩
    · rw [if_pos e] at h
      simp only [Bool.and_eq_true, decide_eq_true_eq] at h
      rw [hown, h.1, h.2]; exact hO
    · rw [if_neg (by omega)] at h
      have q := hML _ (List.contains_iff_mem.mp h)
      exact ⟨q.1, by rw [hown]; exact q.2⟩
theorem rel_H1 {C : String} {fn : Nat → String × String} {F : List Nat} {s : State} {a : Addr} {cl : Cell} (hf : Fit s) (A : Arr s s.heap a cl .int) (hl : cl.slots.size < 2 ^ 31) :
    ∃ f : Nat → Int32, RelH C fn F s s.heap.size s.heap (H1 s.heap.size a cl.slots.size f) := by
  refine ⟨fun i => match cl.slots[i]? with | some (.int x) => x | _ => 0, rfl, Nat.le_refl _, fun b => ?_⟩
  simp only [H1]
  by_cases e : b = a
  · subst e
    simp only [if_true]
    refine ⟨fun q => (by cases q), hl, cl, A, rfl, fun i hi => ?_⟩
    have hi : i < cl.slots.size := hi
    have hj := idx_in hi hl
    obtain ⟨v, q1, q2⟩ := elem_fit hf A hj
    have e2 : (i.toInt32).toNatClampNeg = i := by
      have := len_toInt (n := i) (by omega)
      simp only [Int32.toNatClampNeg, this]; omega
    rw [e2] at q1
    obtain ⟨x, rfl⟩ := fit_I q2 (Or.inl rfl)
    show _ = some (Value.int (match cl.slots[i]? with | some (.int x) => x | _ => 0))
    rw [q1]
  · simp only [e, if_false]; exact ⟨fun q => (by cases q), trivial⟩
end Jvm.JX

namespace Jvm.JX.Pj
open Jvm Jvm.ClassFile Sem Op Lib Jvm.JX
def r1 : List Row := [(0, .aload_n 0, 1, 0), (1, .invokespecial 1, 3, (-1)), (4, .aload_n 0, 1, 0), (5, .sipush 128, 3, 0), (8, .newarray .int, 2, 0), (10, .putfield 7, 3, 4), (13, .aload_n 0, 1, 0), (14, .sipush 128, 3, 0), (17, .newarray .int, 2, 0), (19, .putfield 13, 3, 5), (22, .aload_n 0, 1, 0), (23, .sipush 128, 3, 0), (26, .newarray .int, 2, 0), (28, .putfield 16, 3, 6), (31, .aload_n 0, 1, 0), (32, .sipush 128, 3, 0), (35, .newarray .boolean, 2, 0), (37, .putfield 19, 3, 7), (40, .aload_n 0, 1, 0), (41, .sipush 128, 3, 0), (44, .newarray .boolean, 2, 0), (46, .putfield 23, 3, 8), (49, .aload_n 0, 1, 0), (50, .sipush 128, 3, 0), (53, .newarray .int, 2, 0), (55, .putfield 26, 3, 9), (58, .aload_n 0, 1, 0), (59, .sipush 128, 3, 0), (62, .newarray .int, 2, 0), (64, .putfield 29, 3, 10), (67, .aload_n 0, 1, 0), (68, .sipush 128, 3, 0), (71, .newarray .int, 2, 0), (73, .putfield 32, 3, 11), (76, .aload_n 0, 1, 0), (77, .sipush 128, 3, 0), (80, .newarray .int, 2, 0), (82, .putfield 35, 3, 12), (85, .aload_n 0, 1, 0), (86, .sipush 128, 3, 0), (89, .newarray .boolean, 2, 0), (91, .putfield 38, 3, 13), (94, .aload_n 0, 1, 0), (95, .sipush 128, 3, 0), (98, .newarray .int, 2, 0), (100, .putfield 41, 3, 14), (103, .aload_n 0, 1, 0), (104, .sipush 256, 3, 0), (107, .newarray .int, 2, 0), (109, .putfield 44, 3, 15), (112, .aload_n 0, 1, 0), (113, .sipush 256, 3, 0), (116, .newarray .int, 2, 0), (118, .putfield 47, 3, 16), (121, .aload_n 0, 1, 0), (122, .sipush 256, 3, 0), (125, .newarray .int, 2, 0), (127, .putfield 50, 3, 17), (130, .aload_n 0, 1, 0), (131, .aload_n 0, 1, 0), (132, .iload_n 1, 1, 0), (133, .iconst 2, 1, 0), (134, .sipush 128, 3, 0), (137, .invokevirtual 53, 3, 17), (140, .putfield 57, 3, 0), (143, .aload_n 0, 1, 0), (144, .aload_n 0, 1, 0), (145, .iload_n 2, 1, 0), (146, .iconst 1, 1, 0), (147, .bipush 8, 2, 0), (149, .invokevirtual 53, 3, 17), (152, .putfield 61, 3, 1), (155, .aload_n 0, 1, 0), (156, .aload_n 0, 1, 0), (157, .iload_n 3, 1, 0), (158, .iconst 1, 1, 0), (159, .bipush 8, 2, 0), (161, .invokevirtual 53, 3, 17), (164, .putfield 64, 3, 2), (167, .aload_n 0, 1, 0), (168, .aload_n 0, 1, 0), (169, .iload 4, 2, 0), (171, .iconst 1, 1, 0), (172, .bipush 16, 2, 0), (174, .invokevirtual 53, 3, 17), (177, .putfield 67, 3, 3), (180, .iconst 0, 1, 0), (181, .istore 5, 2, 0), (183, .iload 5, 2, 0), (185, .sipush 128, 3, 0), (188, .if_icmp .ge 74, 3, 0), (191, .aload_n 0, 1, 0), (192, .getfield 7, 3, 4), (195, .iload 5, 2, 0), (197, .iconst 0, 1, 0), (198, .iastore, 1, 0), (199, .aload_n 0, 1, 0), (200, .getfield 13, 3, 5), (203, .iload 5, 2, 0), (205, .iconst 0, 1, 0), (206, .iastore, 1, 0), (207, .aload_n 0, 1, 0), (208, .getfield 16, 3, 6), (211, .iload 5, 2, 0), (213, .iconst 0, 1, 0), (214, .iastore, 1, 0), (215, .aload_n 0, 1, 0), (216, .getfield 19, 3, 7), (219, .iload 5, 2, 0), (221, .iconst 0, 1, 0), (222, .bastore, 1, 0), (223, .aload_n 0, 1, 0), (224, .getfield 23, 3, 8), (227, .iload 5, 2, 0), (229, .iconst 0, 1, 0), (230, .bastore, 1, 0), (231, .aload_n 0, 1, 0), (232, .getfield 26, 3, 9), (235, .iload 5, 2, 0), (237, .bipush (-2), 2, 0), (239, .iastore, 1, 0), (240, .aload_n 0, 1, 0), (241, .getfield 29, 3, 10), (244, .iload 5, 2, 0), (246, .iconst (-1), 1, 0), (247, .iastore, 1, 0), (248, .aload_n 0, 1, 0), (249, .getfield 32, 3, 11), (252, .iload 5, 2, 0), (254, .iconst (-1), 1, 0), (255, .iastore, 1, 0), (256, .iinc 5 1, 3, 0), (259, .goto (-76), 3, 0), (262, .aload_n 0, 1, 0), (263, .iconst 0, 1, 0), (264, .putfield 70, 3, 18), (267, .aload_n 0, 1, 0), (268, .iconst 0, 1, 0), (269, .putfield 73, 3, 19), (272, .aload_n 0, 1, 0), (273, .iconst 0, 1, 0), (274, .putfield 76, 3, 20), (277, .aload_n 0, 1, 0), (278, .iconst 0, 1, 0), (279, .putfield 79, 3, 21), (282, .aload_n 0, 1, 0), (283, .iconst 0, 1, 0), (284, .putfield 82, 3, 22), (287, .aload_n 0, 1, 0), (288, .iconst 1, 1, 0), (289, .putfield 85, 3, 23), (292, .return_, 1, 0)]
def r2 : List Row := [(0, .aload_n 0, 1, 0), (1, .iload_n 1, 1, 0), (2, .putfield 85, 3, 23), (5, .return_, 1, 0)]
def r3 : List Row := [(0, .aload_n 0, 1, 0), (1, .aload_n 0, 1, 0), (2, .iload_n 1, 1, 0), (3, .iconst 0, 1, 0), (4, .bipush 16, 2, 0), (6, .invokevirtual 53, 3, 17), (9, .putfield 73, 3, 19), (12, .aload_n 0, 1, 0), (13, .getfield 73, 3, 19), (16, .ireturn, 1, 0)]
def r4 : List Row := [(0, .aload_n 0, 1, 0), (1, .iload_n 1, 1, 0), (2, .invokevirtual 88, 3, 18), (5, .ifCond .eq 11, 3, 0), (8, .aload_n 0, 1, 0), (9, .iload_n 2, 1, 0), (10, .invokevirtual 88, 3, 18), (13, .ifCond .ne 5, 3, 0), (16, .iconst (-1), 1, 0), (17, .ireturn, 1, 0), (18, .iload_n 1, 1, 0), (19, .iload_n 2, 1, 0), (20, .if_icmp .ne 5, 3, 0), (23, .iconst (-1), 1, 0), (24, .ireturn, 1, 0), (25, .iload_n 3, 1, 0), (26, .iconst 1, 1, 0), (27, .if_icmp .lt 10, 3, 0), (30, .iload_n 3, 1, 0), (31, .sipush 1000, 3, 0), (34, .if_icmp .le 5, 3, 0), (37, .iconst (-1), 1, 0), (38, .ireturn, 1, 0), (39, .aload_n 0, 1, 0), (40, .iload_n 1, 1, 0), (41, .iload_n 2, 1, 0), (42, .invokevirtual 92, 3, 20), (45, .ifCond .eq 5, 3, 0), (48, .iconst (-1), 1, 0), (49, .ireturn, 1, 0), (50, .aload_n 0, 1, 0), (51, .getfield 70, 3, 18), (54, .sipush 256, 3, 0), (57, .if_icmp .lt 5, 3, 0), (60, .iconst (-1), 1, 0), (61, .ireturn, 1, 0), (62, .aload_n 0, 1, 0), (63, .getfield 70, 3, 18), (66, .istore 4, 2, 0), (68, .aload_n 0, 1, 0), (69, .getfield 44, 3, 15), (72, .iload 4, 2, 0), (74, .iload_n 1, 1, 0), (75, .iastore, 1, 0), (76, .aload_n 0, 1, 0), (77, .getfield 47, 3, 16), (80, .iload 4, 2, 0), (82, .iload_n 2, 1, 0), (83, .iastore, 1, 0), (84, .aload_n 0, 1, 0), (85, .getfield 50, 3, 17), (88, .iload 4, 2, 0), (90, .iload_n 3, 1, 0), (91, .iastore, 1, 0), (92, .aload_n 0, 1, 0), (93, .iload 4, 2, 0), (95, .iconst 1, 1, 0), (96, .iadd, 1, 0), (97, .putfield 70, 3, 18), (100, .iload 4, 2, 0), (102, .ireturn, 1, 0)]
def r5 : List Row := [(0, .aload_n 0, 1, 0), (1, .iload_n 1, 1, 0), (2, .invokevirtual 88, 3, 18), (5, .ifCond .ne 5, 3, 0), (8, .iconst 0, 1, 0), (9, .ireturn, 1, 0), (10, .aload_n 0, 1, 0), (11, .getfield 7, 3, 4), (14, .iload_n 1, 1, 0), (15, .iaload, 1, 0), (16, .ifCond .eq 5, 3, 0), (19, .iconst 0, 1, 0), (20, .ireturn, 1, 0), (21, .aload_n 0, 1, 0), (22, .getfield 7, 3, 4), (25, .iload_n 1, 1, 0), (26, .iconst 2, 1, 0), (27, .iastore, 1, 0), (28, .aload_n 0, 1, 0), (29, .getfield 13, 3, 5), (32, .iload_n 1, 1, 0), (33, .aload_n 0, 1, 0), (34, .getfield 64, 3, 2), (37, .iastore, 1, 0), (38, .aload_n 0, 1, 0), (39, .getfield 26, 3, 9), (42, .iload_n 1, 1, 0), (43, .iconst (-1), 1, 0), (44, .iastore, 1, 0), (45, .aload_n 0, 1, 0), (46, .getfield 29, 3, 10), (49, .iload_n 1, 1, 0), (50, .aload_n 0, 1, 0), (51, .getfield 82, 3, 22), (54, .iastore, 1, 0), (55, .aload_n 0, 1, 0), (56, .getfield 32, 3, 11), (59, .iload_n 1, 1, 0), (60, .iconst 0, 1, 0), (61, .iastore, 1, 0), (62, .iconst 1, 1, 0), (63, .ireturn, 1, 0)]
def r6 : List Row := [(0, .aload_n 0, 1, 0), (1, .iload_n 1, 1, 0), (2, .invokevirtual 88, 3, 18), (5, .ifCond .ne 5, 3, 0), (8, .iconst 0, 1, 0), (9, .ireturn, 1, 0), (10, .aload_n 0, 1, 0), (11, .getfield 19, 3, 7), (14, .iload_n 1, 1, 0), (15, .baload, 1, 0), (16, .ifCond .ne 12, 3, 0), (19, .aload_n 0, 1, 0), (20, .getfield 23, 3, 8), (23, .iload_n 1, 1, 0), (24, .baload, 1, 0), (25, .ifCond .eq 5, 3, 0), (28, .iconst 0, 1, 0), (29, .ireturn, 1, 0), (30, .aload_n 0, 1, 0), (31, .getfield 23, 3, 8), (34, .iload_n 1, 1, 0), (35, .iconst 1, 1, 0), (36, .bastore, 1, 0), (37, .iconst 1, 1, 0), (38, .ireturn, 1, 0)]
def r7 : List Row := [(0, .aload_n 0, 1, 0), (1, .iload_n 1, 1, 0), (2, .iconst 0, 1, 0), (3, .bipush 8, 2, 0), (5, .invokevirtual 53, 3, 17), (8, .istore_n 2, 1, 0), (9, .iconst 0, 1, 0), (10, .istore_n 3, 1, 0), (11, .iload_n 3, 1, 0), (12, .iload_n 2, 1, 0), (13, .if_icmp .ge 13, 3, 0), (16, .aload_n 0, 1, 0), (17, .invokevirtual 96, 3, 21), (20, .iinc 3 1, 3, 0), (23, .goto (-12), 3, 0), (26, .aload_n 0, 1, 0), (27, .getfield 82, 3, 22), (30, .ireturn, 1, 0)]
def r8 : List Row := [(0, .aload_n 0, 1, 0), (1, .iload_n 1, 1, 0), (2, .invokevirtual 88, 3, 18), (5, .ifCond .eq 12, 3, 0), (8, .aload_n 0, 1, 0), (9, .getfield 7, 3, 4), (12, .iload_n 1, 1, 0), (13, .iaload, 1, 0), (14, .goto 4, 3, 0), (17, .iconst (-1), 1, 0), (18, .ireturn, 1, 0)]
def r9 : List Row := [(0, .aload_n 0, 1, 0), (1, .iload_n 1, 1, 0), (2, .invokevirtual 88, 3, 18), (5, .ifCond .eq 12, 3, 0), (8, .aload_n 0, 1, 0), (9, .getfield 13, 3, 5), (12, .iload_n 1, 1, 0), (13, .iaload, 1, 0), (14, .goto 4, 3, 0), (17, .iconst (-1), 1, 0), (18, .ireturn, 1, 0)]
def r10 : List Row := [(0, .aload_n 0, 1, 0), (1, .iload_n 1, 1, 0), (2, .invokevirtual 88, 3, 18), (5, .ifCond .eq 12, 3, 0), (8, .aload_n 0, 1, 0), (9, .getfield 16, 3, 6), (12, .iload_n 1, 1, 0), (13, .iaload, 1, 0), (14, .goto 4, 3, 0), (17, .iconst (-1), 1, 0), (18, .ireturn, 1, 0)]
def r11 : List Row := [(0, .aload_n 0, 1, 0), (1, .iload_n 1, 1, 0), (2, .invokevirtual 88, 3, 18), (5, .ifCond .ne 5, 3, 0), (8, .iconst (-1), 1, 0), (9, .ireturn, 1, 0), (10, .iconst 0, 1, 0), (11, .istore_n 2, 1, 0), (12, .aload_n 0, 1, 0), (13, .getfield 19, 3, 7), (16, .iload_n 1, 1, 0), (17, .baload, 1, 0), (18, .ifCond .eq 6, 3, 0), (21, .iinc 2 1, 3, 0), (24, .aload_n 0, 1, 0), (25, .getfield 23, 3, 8), (28, .iload_n 1, 1, 0), (29, .baload, 1, 0), (30, .ifCond .eq 6, 3, 0), (33, .iinc 2 2, 3, 0), (36, .iload_n 2, 1, 0), (37, .ireturn, 1, 0)]
def r12 : List Row := [(0, .aload_n 0, 1, 0), (1, .iload_n 1, 1, 0), (2, .invokevirtual 88, 3, 18), (5, .ifCond .eq 12, 3, 0), (8, .aload_n 0, 1, 0), (9, .getfield 26, 3, 9), (12, .iload_n 1, 1, 0), (13, .iaload, 1, 0), (14, .goto 5, 3, 0), (17, .bipush (-2), 2, 0), (19, .ireturn, 1, 0)]
def r13 : List Row := [(0, .aload_n 0, 1, 0), (1, .iload_n 1, 1, 0), (2, .invokevirtual 88, 3, 18), (5, .ifCond .eq 12, 3, 0), (8, .aload_n 0, 1, 0), (9, .getfield 29, 3, 10), (12, .iload_n 1, 1, 0), (13, .iaload, 1, 0), (14, .goto 4, 3, 0), (17, .iconst (-1), 1, 0), (18, .ireturn, 1, 0)]
def r14 : List Row := [(0, .aload_n 0, 1, 0), (1, .iload_n 1, 1, 0), (2, .invokevirtual 88, 3, 18), (5, .ifCond .eq 12, 3, 0), (8, .aload_n 0, 1, 0), (9, .getfield 32, 3, 11), (12, .iload_n 1, 1, 0), (13, .iaload, 1, 0), (14, .goto 4, 3, 0), (17, .iconst (-1), 1, 0), (18, .ireturn, 1, 0)]
def r15 : List Row := [(0, .aload_n 0, 1, 0), (1, .iload_n 1, 1, 0), (2, .invokevirtual 88, 3, 18), (5, .ifCond .ne 5, 3, 0), (8, .iconst (-1), 1, 0), (9, .ireturn, 1, 0), (10, .iconst 0, 1, 0), (11, .istore_n 2, 1, 0), (12, .iconst 0, 1, 0), (13, .istore_n 3, 1, 0), (14, .iload_n 3, 1, 0), (15, .aload_n 0, 1, 0), (16, .getfield 57, 3, 0), (19, .if_icmp .ge 22, 3, 0), (22, .aload_n 0, 1, 0), (23, .getfield 26, 3, 9), (26, .iload_n 3, 1, 0), (27, .iaload, 1, 0), (28, .iload_n 1, 1, 0), (29, .if_icmp .ne 6, 3, 0), (32, .iinc 2 1, 3, 0), (35, .iinc 3 1, 3, 0), (38, .goto (-24), 3, 0), (41, .iload_n 2, 1, 0), (42, .ireturn, 1, 0)]
def r16 : List Row := [(0, .iload_n 1, 1, 0), (1, .ifCond .lt 14, 3, 0), (4, .iload_n 1, 1, 0), (5, .iconst 3, 1, 0), (6, .if_icmp .gt 9, 3, 0), (9, .aload_n 0, 1, 0), (10, .iload_n 1, 1, 0), (11, .invokevirtual 99, 3, 31), (14, .ireturn, 1, 0), (15, .iload_n 1, 1, 0), (16, .tableswitch 90 4 11 #[48, 53, 59, 65, 70, 75, 80, 85], 48, 0), (64, .aload_n 0, 1, 0), (65, .invokevirtual 103, 3, 32), (68, .ireturn, 1, 0), (69, .aload_n 0, 1, 0), (70, .iconst 1, 1, 0), (71, .invokevirtual 107, 3, 33), (74, .ireturn, 1, 0), (75, .aload_n 0, 1, 0), (76, .iconst 0, 1, 0), (77, .invokevirtual 107, 3, 33), (80, .ireturn, 1, 0), (81, .aload_n 0, 1, 0), (82, .getfield 76, 3, 20), (85, .ireturn, 1, 0), (86, .aload_n 0, 1, 0), (87, .getfield 79, 3, 21), (90, .ireturn, 1, 0), (91, .aload_n 0, 1, 0), (92, .getfield 70, 3, 18), (95, .ireturn, 1, 0), (96, .aload_n 0, 1, 0), (97, .getfield 82, 3, 22), (100, .ireturn, 1, 0), (101, .aload_n 0, 1, 0), (102, .invokevirtual 111, 3, 34), (105, .ireturn, 1, 0), (106, .iconst (-1), 1, 0), (107, .ireturn, 1, 0)]
def r17 : List Row := [(0, .iload_n 1, 1, 0), (1, .iload_n 2, 1, 0), (2, .if_icmp .ge 5, 3, 0), (5, .iload_n 2, 1, 0), (6, .ireturn, 1, 0), (7, .iload_n 1, 1, 0), (8, .iload_n 3, 1, 0), (9, .if_icmp .le 5, 3, 0), (12, .iload_n 3, 1, 0), (13, .ireturn, 1, 0), (14, .iload_n 1, 1, 0), (15, .ireturn, 1, 0)]
def r18 : List Row := [(0, .iload_n 1, 1, 0), (1, .ifCond .lt 15, 3, 0), (4, .iload_n 1, 1, 0), (5, .aload_n 0, 1, 0), (6, .getfield 57, 3, 0), (9, .if_icmp .ge 7, 3, 0), (12, .iconst 1, 1, 0), (13, .goto 4, 3, 0), (16, .iconst 0, 1, 0), (17, .ireturn, 1, 0)]
def r19 : List Row := [(0, .aload_n 0, 1, 0), (1, .aload_n 0, 1, 0), (2, .getfield 85, 3, 23), (5, .ldc 114, 2, 1103515245), (7, .imul, 1, 0), (8, .sipush 12345, 3, 0), (11, .iadd, 1, 0), (12, .putfield 85, 3, 23), (15, .aload_n 0, 1, 0), (16, .getfield 85, 3, 23), (19, .bipush 8, 2, 0), (21, .iushr, 1, 0), (22, .ldc 115, 2, 16777215), (24, .iand, 1, 0), (25, .sipush 1000, 3, 0), (28, .irem, 1, 0), (29, .ireturn, 1, 0)]
def r20 : List Row := [(0, .iconst 0, 1, 0), (1, .istore_n 3, 1, 0), (2, .iload_n 3, 1, 0), (3, .aload_n 0, 1, 0), (4, .getfield 70, 3, 18), (7, .if_icmp .ge 51, 3, 0), (10, .aload_n 0, 1, 0), (11, .getfield 44, 3, 15), (14, .iload_n 3, 1, 0), (15, .iaload, 1, 0), (16, .istore 4, 2, 0), (18, .aload_n 0, 1, 0), (19, .getfield 47, 3, 16), (22, .iload_n 3, 1, 0), (23, .iaload, 1, 0), (24, .istore 5, 2, 0), (26, .iload 4, 2, 0), (28, .iload_n 1, 1, 0), (29, .if_icmp .ne 9, 3, 0), (32, .iload 5, 2, 0), (34, .iload_n 2, 1, 0), (35, .if_icmp .eq 15, 3, 0), (38, .iload 4, 2, 0), (40, .iload_n 2, 1, 0), (41, .if_icmp .ne 11, 3, 0), (44, .iload 5, 2, 0), (46, .iload_n 1, 1, 0), (47, .if_icmp .ne 5, 3, 0), (50, .iconst 1, 1, 0), (51, .ireturn, 1, 0), (52, .iinc 3 1, 3, 0), (55, .goto (-53), 3, 0), (58, .iconst 0, 1, 0), (59, .ireturn, 1, 0)]
def r21 : List Row := [(0, .aload_n 0, 1, 0), (1, .invokevirtual 116, 3, 22), (4, .aload_n 0, 1, 0), (5, .invokevirtual 119, 3, 24), (8, .aload_n 0, 1, 0), (9, .invokevirtual 122, 3, 26), (12, .aload_n 0, 1, 0), (13, .invokevirtual 125, 3, 27), (16, .aload_n 0, 1, 0), (17, .invokevirtual 128, 3, 28), (20, .aload_n 0, 1, 0), (21, .aload_n 0, 1, 0), (22, .getfield 82, 3, 22), (25, .iconst 1, 1, 0), (26, .iadd, 1, 0), (27, .putfield 82, 3, 22), (30, .return_, 1, 0)]
def r22 : List Row := [(0, .iconst 0, 1, 0), (1, .istore_n 1, 1, 0), (2, .iload_n 1, 1, 0), (3, .aload_n 0, 1, 0), (4, .getfield 57, 3, 0), (7, .if_icmp .ge 41, 3, 0), (10, .aload_n 0, 1, 0), (11, .getfield 35, 3, 12), (14, .iload_n 1, 1, 0), (15, .aload_n 0, 1, 0), (16, .getfield 7, 3, 4), (19, .iload_n 1, 1, 0), (20, .iaload, 1, 0), (21, .iastore, 1, 0), (22, .aload_n 0, 1, 0), (23, .getfield 38, 3, 13), (26, .iload_n 1, 1, 0), (27, .aload_n 0, 1, 0), (28, .getfield 16, 3, 6), (31, .iload_n 1, 1, 0), (32, .iaload, 1, 0), (33, .ifCond .le 7, 3, 0), (36, .iconst 1, 1, 0), (37, .goto 4, 3, 0), (40, .iconst 0, 1, 0), (41, .bastore, 1, 0), (42, .iinc 1 1, 3, 0), (45, .goto (-43), 3, 0), (48, .return_, 1, 0)]
def r23 : List Row := [(0, .aload_n 0, 1, 0), (1, .getfield 35, 3, 12), (4, .iload_n 1, 1, 0), (5, .iaload, 1, 0), (6, .iconst 2, 1, 0), (7, .if_icmp .ne 34, 3, 0), (10, .aload_n 0, 1, 0), (11, .getfield 38, 3, 13), (14, .iload_n 1, 1, 0), (15, .baload, 1, 0), (16, .ifCond .ne 25, 3, 0), (19, .aload_n 0, 1, 0), (20, .getfield 35, 3, 12), (23, .iload_n 2, 1, 0), (24, .iaload, 1, 0), (25, .ifCond .ne 16, 3, 0), (28, .aload_n 0, 1, 0), (29, .getfield 38, 3, 13), (32, .iload_n 2, 1, 0), (33, .baload, 1, 0), (34, .ifCond .ne 7, 3, 0), (37, .iconst 1, 1, 0), (38, .goto 4, 3, 0), (41, .iconst 0, 1, 0), (42, .ireturn, 1, 0)]
def r24 : List Row := [(0, .iconst 0, 1, 0), (1, .istore_n 1, 1, 0), (2, .iload_n 1, 1, 0), (3, .aload_n 0, 1, 0), (4, .getfield 70, 3, 18), (7, .if_icmp .ge 68, 3, 0), (10, .aload_n 0, 1, 0), (11, .getfield 44, 3, 15), (14, .iload_n 1, 1, 0), (15, .iaload, 1, 0), (16, .istore_n 2, 1, 0), (17, .aload_n 0, 1, 0), (18, .getfield 47, 3, 16), (21, .iload_n 1, 1, 0), (22, .iaload, 1, 0), (23, .istore_n 3, 1, 0), (24, .aload_n 0, 1, 0), (25, .iload_n 2, 1, 0), (26, .iload_n 3, 1, 0), (27, .invokevirtual 131, 3, 23), (30, .ifCond .eq 18, 3, 0), (33, .aload_n 0, 1, 0), (34, .iload_n 2, 1, 0), (35, .iload_n 3, 1, 0), (36, .aload_n 0, 1, 0), (37, .getfield 50, 3, 17), (40, .iload_n 1, 1, 0), (41, .iaload, 1, 0), (42, .invokevirtual 134, 3, 25), (45, .goto 24, 3, 0), (48, .aload_n 0, 1, 0), (49, .iload_n 3, 1, 0), (50, .iload_n 2, 1, 0), (51, .invokevirtual 131, 3, 23), (54, .ifCond .eq 15, 3, 0), (57, .aload_n 0, 1, 0), (58, .iload_n 3, 1, 0), (59, .iload_n 2, 1, 0), (60, .aload_n 0, 1, 0), (61, .getfield 50, 3, 17), (64, .iload_n 1, 1, 0), (65, .iaload, 1, 0), (66, .invokevirtual 134, 3, 25), (69, .iinc 1 1, 3, 0), (72, .goto (-70), 3, 0), (75, .return_, 1, 0)]
def r25 : List Row := [(0, .aload_n 0, 1, 0), (1, .invokevirtual 138, 3, 19), (4, .istore 4, 2, 0), (6, .iload 4, 2, 0), (8, .iload_n 3, 1, 0), (9, .if_icmp .ge 62, 3, 0), (12, .aload_n 0, 1, 0), (13, .getfield 7, 3, 4), (16, .iload_n 2, 1, 0), (17, .iaload, 1, 0), (18, .ifCond .ne 53, 3, 0), (21, .aload_n 0, 1, 0), (22, .getfield 7, 3, 4), (25, .iload_n 2, 1, 0), (26, .iconst 1, 1, 0), (27, .iastore, 1, 0), (28, .aload_n 0, 1, 0), (29, .getfield 13, 3, 5), (32, .iload_n 2, 1, 0), (33, .aload_n 0, 1, 0), (34, .getfield 61, 3, 1), (37, .iastore, 1, 0), (38, .aload_n 0, 1, 0), (39, .getfield 26, 3, 9), (42, .iload_n 2, 1, 0), (43, .iload_n 1, 1, 0), (44, .iastore, 1, 0), (45, .aload_n 0, 1, 0), (46, .getfield 29, 3, 10), (49, .iload_n 2, 1, 0), (50, .aload_n 0, 1, 0), (51, .getfield 82, 3, 22), (54, .iconst 1, 1, 0), (55, .iadd, 1, 0), (56, .iastore, 1, 0), (57, .aload_n 0, 1, 0), (58, .getfield 32, 3, 11), (61, .iload_n 2, 1, 0), (62, .aload_n 0, 1, 0), (63, .getfield 32, 3, 11), (66, .iload_n 1, 1, 0), (67, .iaload, 1, 0), (68, .iconst 1, 1, 0), (69, .iadd, 1, 0), (70, .iastore, 1, 0), (71, .return_, 1, 0)]
def r26 : List Row := [(0, .iconst 0, 1, 0), (1, .istore_n 1, 1, 0), (2, .iload_n 1, 1, 0), (3, .aload_n 0, 1, 0), (4, .getfield 57, 3, 0), (7, .if_icmp .ge 102, 3, 0), (10, .aload_n 0, 1, 0), (11, .getfield 35, 3, 12), (14, .iload_n 1, 1, 0), (15, .iaload, 1, 0), (16, .iconst 1, 1, 0), (17, .if_icmp .ne 46, 3, 0), (20, .aload_n 0, 1, 0), (21, .getfield 13, 3, 5), (24, .iload_n 1, 1, 0), (25, .aload_n 0, 1, 0), (26, .getfield 13, 3, 5), (29, .iload_n 1, 1, 0), (30, .iaload, 1, 0), (31, .iconst 1, 1, 0), (32, .isub, 1, 0), (33, .iastore, 1, 0), (34, .aload_n 0, 1, 0), (35, .getfield 13, 3, 5), (38, .iload_n 1, 1, 0), (39, .iaload, 1, 0), (40, .ifCond .ne 63, 3, 0), (43, .aload_n 0, 1, 0), (44, .getfield 7, 3, 4), (47, .iload_n 1, 1, 0), (48, .iconst 2, 1, 0), (49, .iastore, 1, 0), (50, .aload_n 0, 1, 0), (51, .getfield 13, 3, 5), (54, .iload_n 1, 1, 0), (55, .aload_n 0, 1, 0), (56, .getfield 64, 3, 2), (59, .iastore, 1, 0), (60, .goto 43, 3, 0), (63, .aload_n 0, 1, 0), (64, .getfield 35, 3, 12), (67, .iload_n 1, 1, 0), (68, .iaload, 1, 0), (69, .iconst 2, 1, 0), (70, .if_icmp .ne 33, 3, 0), (73, .aload_n 0, 1, 0), (74, .getfield 13, 3, 5), (77, .iload_n 1, 1, 0), (78, .aload_n 0, 1, 0), (79, .getfield 13, 3, 5), (82, .iload_n 1, 1, 0), (83, .iaload, 1, 0), (84, .iconst 1, 1, 0), (85, .isub, 1, 0), (86, .iastore, 1, 0), (87, .aload_n 0, 1, 0), (88, .getfield 13, 3, 5), (91, .iload_n 1, 1, 0), (92, .iaload, 1, 0), (93, .ifCond .ne 10, 3, 0), (96, .aload_n 0, 1, 0), (97, .getfield 7, 3, 4), (100, .iload_n 1, 1, 0), (101, .iconst 3, 1, 0), (102, .iastore, 1, 0), (103, .iinc 1 1, 3, 0), (106, .goto (-104), 3, 0), (109, .return_, 1, 0)]
def r27 : List Row := [(0, .iconst 0, 1, 0), (1, .istore_n 1, 1, 0), (2, .iload_n 1, 1, 0), (3, .aload_n 0, 1, 0), (4, .getfield 57, 3, 0), (7, .if_icmp .ge 32, 3, 0), (10, .aload_n 0, 1, 0), (11, .getfield 16, 3, 6), (14, .iload_n 1, 1, 0), (15, .iaload, 1, 0), (16, .ifCond .le 17, 3, 0), (19, .aload_n 0, 1, 0), (20, .getfield 16, 3, 6), (23, .iload_n 1, 1, 0), (24, .aload_n 0, 1, 0), (25, .getfield 16, 3, 6), (28, .iload_n 1, 1, 0), (29, .iaload, 1, 0), (30, .iconst 1, 1, 0), (31, .isub, 1, 0), (32, .iastore, 1, 0), (33, .iinc 1 1, 3, 0), (36, .goto (-34), 3, 0), (39, .return_, 1, 0)]
def r28 : List Row := [(0, .iconst 0, 1, 0), (1, .istore_n 1, 1, 0), (2, .iconst 0, 1, 0), (3, .istore_n 2, 1, 0), (4, .iload_n 2, 1, 0), (5, .aload_n 0, 1, 0), (6, .getfield 57, 3, 0), (9, .if_icmp .ge 36, 3, 0), (12, .iload_n 1, 1, 0), (13, .aload_n 0, 1, 0), (14, .getfield 73, 3, 19), (17, .if_icmp .ge 28, 3, 0), (20, .aload_n 0, 1, 0), (21, .getfield 23, 3, 8), (24, .iload_n 2, 1, 0), (25, .baload, 1, 0), (26, .ifCond .eq 13, 3, 0), (29, .aload_n 0, 1, 0), (30, .getfield 41, 3, 14), (33, .iload_n 1, 1, 0), (34, .iload_n 2, 1, 0), (35, .iastore, 1, 0), (36, .iinc 1 1, 3, 0), (39, .iinc 2 1, 3, 0), (42, .goto (-38), 3, 0), (45, .iconst 0, 1, 0), (46, .istore_n 2, 1, 0), (47, .iload_n 2, 1, 0), (48, .iload_n 1, 1, 0), (49, .if_icmp .ge 19, 3, 0), (52, .aload_n 0, 1, 0), (53, .aload_n 0, 1, 0), (54, .getfield 41, 3, 14), (57, .iload_n 2, 1, 0), (58, .iaload, 1, 0), (59, .invokevirtual 141, 3, 29), (62, .iinc 2 1, 3, 0), (65, .goto (-18), 3, 0), (68, .return_, 1, 0)]
def r29 : List Row := [(0, .aload_n 0, 1, 0), (1, .getfield 23, 3, 8), (4, .iload_n 1, 1, 0), (5, .iconst 0, 1, 0), (6, .bastore, 1, 0), (7, .aload_n 0, 1, 0), (8, .aload_n 0, 1, 0), (9, .getfield 76, 3, 20), (12, .iconst 1, 1, 0), (13, .iadd, 1, 0), (14, .putfield 76, 3, 20), (17, .aload_n 0, 1, 0), (18, .getfield 7, 3, 4), (21, .iload_n 1, 1, 0), (22, .iaload, 1, 0), (23, .iconst 2, 1, 0), (24, .if_icmp .eq 4, 3, 0), (27, .return_, 1, 0), (28, .aload_n 0, 1, 0), (29, .aload_n 0, 1, 0), (30, .getfield 79, 3, 21), (33, .iconst 1, 1, 0), (34, .iadd, 1, 0), (35, .putfield 79, 3, 21), (38, .aload_n 0, 1, 0), (39, .getfield 19, 3, 7), (42, .iload_n 1, 1, 0), (43, .iconst 1, 1, 0), (44, .bastore, 1, 0), (45, .aload_n 0, 1, 0), (46, .getfield 16, 3, 6), (49, .iload_n 1, 1, 0), (50, .aload_n 0, 1, 0), (51, .getfield 67, 3, 3), (54, .iastore, 1, 0), (55, .aload_n 0, 1, 0), (56, .iload_n 1, 1, 0), (57, .invokevirtual 145, 3, 30), (60, .return_, 1, 0)]
def r30 : List Row := [(0, .iconst 0, 1, 0), (1, .istore_n 2, 1, 0), (2, .iload_n 2, 1, 0), (3, .aload_n 0, 1, 0), (4, .getfield 70, 3, 18), (7, .if_icmp .ge 88, 3, 0), (10, .iconst (-1), 1, 0), (11, .istore_n 3, 1, 0), (12, .aload_n 0, 1, 0), (13, .getfield 44, 3, 15), (16, .iload_n 2, 1, 0), (17, .iaload, 1, 0), (18, .iload_n 1, 1, 0), (19, .if_icmp .ne 13, 3, 0), (22, .aload_n 0, 1, 0), (23, .getfield 47, 3, 16), (26, .iload_n 2, 1, 0), (27, .iaload, 1, 0), (28, .istore_n 3, 1, 0), (29, .goto 20, 3, 0), (32, .aload_n 0, 1, 0), (33, .getfield 47, 3, 16), (36, .iload_n 2, 1, 0), (37, .iaload, 1, 0), (38, .iload_n 1, 1, 0), (39, .if_icmp .ne 10, 3, 0), (42, .aload_n 0, 1, 0), (43, .getfield 44, 3, 15), (46, .iload_n 2, 1, 0), (47, .iaload, 1, 0), (48, .istore_n 3, 1, 0), (49, .iload_n 3, 1, 0), (50, .ifCond .lt 39, 3, 0), (53, .aload_n 0, 1, 0), (54, .getfield 7, 3, 4), (57, .iload_n 3, 1, 0), (58, .iaload, 1, 0), (59, .iconst 3, 1, 0), (60, .if_icmp .eq 29, 3, 0), (63, .aload_n 0, 1, 0), (64, .getfield 19, 3, 7), (67, .iload_n 3, 1, 0), (68, .baload, 1, 0), (69, .ifCond .ne 20, 3, 0), (72, .aload_n 0, 1, 0), (73, .getfield 16, 3, 6), (76, .iload_n 3, 1, 0), (77, .aload_n 0, 1, 0), (78, .getfield 67, 3, 3), (81, .iastore, 1, 0), (82, .aload_n 0, 1, 0), (83, .getfield 23, 3, 8), (86, .iload_n 3, 1, 0), (87, .iconst 1, 1, 0), (88, .bastore, 1, 0), (89, .iinc 2 1, 3, 0), (92, .goto (-90), 3, 0), (95, .return_, 1, 0)]
def r31 : List Row := [(0, .iconst 0, 1, 0), (1, .istore_n 2, 1, 0), (2, .iconst 0, 1, 0), (3, .istore_n 3, 1, 0), (4, .iload_n 3, 1, 0), (5, .aload_n 0, 1, 0), (6, .getfield 57, 3, 0), (9, .if_icmp .ge 22, 3, 0), (12, .aload_n 0, 1, 0), (13, .getfield 7, 3, 4), (16, .iload_n 3, 1, 0), (17, .iaload, 1, 0), (18, .iload_n 1, 1, 0), (19, .if_icmp .ne 6, 3, 0), (22, .iinc 2 1, 3, 0), (25, .iinc 3 1, 3, 0), (28, .goto (-24), 3, 0), (31, .iload_n 2, 1, 0), (32, .ireturn, 1, 0)]
def r32 : List Row := [(0, .iconst 0, 1, 0), (1, .istore_n 1, 1, 0), (2, .iconst 0, 1, 0), (3, .istore_n 2, 1, 0), (4, .iload_n 2, 1, 0), (5, .aload_n 0, 1, 0), (6, .getfield 57, 3, 0), (9, .if_icmp .ge 21, 3, 0), (12, .aload_n 0, 1, 0), (13, .getfield 16, 3, 6), (16, .iload_n 2, 1, 0), (17, .iaload, 1, 0), (18, .ifCond .le 6, 3, 0), (21, .iinc 1 1, 3, 0), (24, .iinc 2 1, 3, 0), (27, .goto (-23), 3, 0), (30, .iload_n 1, 1, 0), (31, .ireturn, 1, 0)]
def r33 : List Row := [(0, .iconst 0, 1, 0), (1, .istore_n 2, 1, 0), (2, .iconst 0, 1, 0), (3, .istore_n 3, 1, 0), (4, .iload_n 3, 1, 0), (5, .aload_n 0, 1, 0), (6, .getfield 57, 3, 0), (9, .if_icmp .ge 38, 3, 0), (12, .iload_n 1, 1, 0), (13, .ifCond .eq 12, 3, 0), (16, .aload_n 0, 1, 0), (17, .getfield 19, 3, 7), (20, .iload_n 3, 1, 0), (21, .baload, 1, 0), (22, .goto 9, 3, 0), (25, .aload_n 0, 1, 0), (26, .getfield 23, 3, 8), (29, .iload_n 3, 1, 0), (30, .baload, 1, 0), (31, .istore 4, 2, 0), (33, .iload 4, 2, 0), (35, .ifCond .eq 6, 3, 0), (38, .iinc 2 1, 3, 0), (41, .iinc 3 1, 3, 0), (44, .goto (-40), 3, 0), (47, .iload_n 2, 1, 0), (48, .ireturn, 1, 0)]
def r34 : List Row := [(0, .iconst 0, 1, 0), (1, .istore_n 1, 1, 0), (2, .iconst 0, 1, 0), (3, .istore_n 2, 1, 0), (4, .iload_n 2, 1, 0), (5, .aload_n 0, 1, 0), (6, .getfield 57, 3, 0), (9, .if_icmp .ge 23, 3, 0), (12, .aload_n 0, 1, 0), (13, .getfield 26, 3, 9), (16, .iload_n 2, 1, 0), (17, .iaload, 1, 0), (18, .bipush (-2), 2, 0), (20, .if_icmp .eq 6, 3, 0), (23, .iinc 1 1, 3, 0), (26, .iinc 2 1, 3, 0), (29, .goto (-25), 3, 0), (32, .iload_n 1, 1, 0), (33, .ireturn, 1, 0)]
def prows : List (List Row) := [[], r1, r2, r3, r4, r5, r6, r7, r8, r9, r10, r11, r12, r13, r14, r15, r16, r17, r18, r19, r20, r21, r22, r23, r24, r25, r26, r27, r28, r29, r30, r31, r32, r33, r34]
def pinfo : List MInfo := [(0, 0, 9, none, {}), (5, 6, 3, none, { frames := 1, cells := 14, slots := 2176, locals := 16 }), (2, 2, 1, none, { frames := 0, cells := 0, slots := 0, locals := 0 }), (2, 2, 1, some .int, { frames := 1, cells := 0, slots := 0, locals := 16 }), (4, 5, 1, some .int, { frames := 1, cells := 0, slots := 0, locals := 17 }), (2, 2, 1, some .boolean, { frames := 1, cells := 0, slots := 0, locals := 13 }), (2, 2, 1, some .boolean, { frames := 1, cells := 0, slots := 0, locals := 13 }), (2, 4, 1, some .int, { frames := 4, cells := 0, slots := 0, locals := 55 }), (2, 2, 1, some .int, { frames := 1, cells := 0, slots := 0, locals := 13 }), (2, 2, 1, some .int, { frames := 1, cells := 0, slots := 0, locals := 13 }), (2, 2, 1, some .int, { frames := 1, cells := 0, slots := 0, locals := 13 }), (2, 3, 1, some .int, { frames := 1, cells := 0, slots := 0, locals := 13 }), (2, 2, 1, some .int, { frames := 1, cells := 0, slots := 0, locals := 13 }), (2, 2, 1, some .int, { frames := 1, cells := 0, slots := 0, locals := 13 }), (2, 2, 1, some .int, { frames := 1, cells := 0, slots := 0, locals := 13 }), (2, 4, 1, some .int, { frames := 1, cells := 0, slots := 0, locals := 13 }), (2, 2, 1, some .int, { frames := 1, cells := 0, slots := 0, locals := 16 }), (4, 4, 2, some .int, { frames := 0, cells := 0, slots := 0, locals := 0 }), (2, 2, 2, some .boolean, { frames := 0, cells := 0, slots := 0, locals := 0 }), (1, 1, 2, some .int, { frames := 0, cells := 0, slots := 0, locals := 0 }), (3, 6, 2, some .boolean, { frames := 0, cells := 0, slots := 0, locals := 0 }), (1, 1, 2, none, { frames := 3, cells := 0, slots := 0, locals := 43 }), (1, 2, 2, none, { frames := 0, cells := 0, slots := 0, locals := 0 }), (3, 3, 2, some .boolean, { frames := 0, cells := 0, slots := 0, locals := 0 }), (1, 4, 2, none, { frames := 2, cells := 0, slots := 0, locals := 28 }), (4, 5, 2, none, { frames := 1, cells := 0, slots := 0, locals := 12 }), (1, 2, 2, none, { frames := 0, cells := 0, slots := 0, locals := 0 }), (1, 2, 2, none, { frames := 0, cells := 0, slots := 0, locals := 0 }), (1, 3, 2, none, { frames := 2, cells := 0, slots := 0, locals := 28 }), (2, 2, 2, none, { frames := 1, cells := 0, slots := 0, locals := 15 }), (2, 4, 2, none, { frames := 0, cells := 0, slots := 0, locals := 0 }), (2, 4, 2, some .int, { frames := 0, cells := 0, slots := 0, locals := 0 }), (1, 3, 2, some .int, { frames := 0, cells := 0, slots := 0, locals := 0 }), (2, 5, 2, some .int, { frames := 0, cells := 0, slots := 0, locals := 0 }), (1, 3, 2, some .int, { frames := 0, cells := 0, slots := 0, locals := 0 })]
def pft : List FieldType := [.int, .int, .int, .int, .array .int, .array .int, .array .int, .array .boolean, .array .boolean, .array .int, .array .int, .array .int, .array .int, .array .boolean, .array .int, .array .int, .array .int, .array .int, .int, .int, .int, .int, .int, .int]
def pj (lw : LW) : Prog := (fun m pc => if m < 100 then (prows.getD m []).lookup pc else lw.1 (m - 100) pc, fun m => if m < 100 then pinfo.getD m (0, 0, 9, none, {}) else lw.2 (m - 100), fun k => pft.getD k .int, 24)
def lay : Lay := ([(.int, 0), (.int, 0), (.int, 0), (.int, 0), (.array .int, 1), (.array .int, 2), (.array .int, 3), (.array .boolean, 4), (.array .boolean, 5), (.array .int, 6), (.array .int, 7), (.array .int, 8), (.array .int, 9), (.array .boolean, 10), (.array .int, 11), (.array .int, 12), (.array .int, 13), (.array .int, 14), (.int, 0), (.int, 0), (.int, 0), (.int, 0), (.int, 0), (.int, 0)], [(.int, 128), (.int, 128), (.int, 128), (.boolean, 128), (.boolean, 128), (.int, 128), (.int, 128), (.int, 128), (.int, 128), (.boolean, 128), (.int, 128), (.int, 256), (.int, 256), (.int, 256)])
abbrev ob (H : AH) (p : Nat) (s : St) : AH := put lay 14 H p s
section Acc
variable {H : AH} {p : Nat} {s : St} {i : Int32} {j q : Nat} {v : Int32} {w : Int64}
theorem g0 : fld (put lay j H p s) p 0 = .int (sI s 0) := fld_I (ty := .int) rfl (by decide) (by simp)
theorem s0 : wr (put lay j H p s) p 0 (.int v) = put lay j H p (uI s 0 v) := wr_I (ty := .int) rfl (by decide) (by simp)
theorem g1 : fld (put lay j H p s) p 1 = .int (sI s 1) := fld_I (ty := .int) rfl (by decide) (by simp)
theorem s1 : wr (put lay j H p s) p 1 (.int v) = put lay j H p (uI s 1 v) := wr_I (ty := .int) rfl (by decide) (by simp)
theorem g2 : fld (put lay j H p s) p 2 = .int (sI s 2) := fld_I (ty := .int) rfl (by decide) (by simp)
theorem s2 : wr (put lay j H p s) p 2 (.int v) = put lay j H p (uI s 2 v) := wr_I (ty := .int) rfl (by decide) (by simp)
theorem g3 : fld (put lay j H p s) p 3 = .int (sI s 3) := fld_I (ty := .int) rfl (by decide) (by simp)
theorem s3 : wr (put lay j H p s) p 3 (.int v) = put lay j H p (uI s 3 v) := wr_I (ty := .int) rfl (by decide) (by simp)
theorem g4 : fld (ob H p s) p 4 = .ref (p + 1) := fld_R (ty := .int) rfl (by decide)
theorem g5 : fld (ob H p s) p 5 = .ref (p + 2) := fld_R (ty := .int) rfl (by decide)
theorem g6 : fld (ob H p s) p 6 = .ref (p + 3) := fld_R (ty := .int) rfl (by decide)
theorem g7 : fld (ob H p s) p 7 = .ref (p + 4) := fld_R (ty := .boolean) rfl (by decide)
theorem g8 : fld (ob H p s) p 8 = .ref (p + 5) := fld_R (ty := .boolean) rfl (by decide)
theorem g9 : fld (ob H p s) p 9 = .ref (p + 6) := fld_R (ty := .int) rfl (by decide)
theorem g10 : fld (ob H p s) p 10 = .ref (p + 7) := fld_R (ty := .int) rfl (by decide)
theorem g11 : fld (ob H p s) p 11 = .ref (p + 8) := fld_R (ty := .int) rfl (by decide)
theorem g12 : fld (ob H p s) p 12 = .ref (p + 9) := fld_R (ty := .int) rfl (by decide)
theorem g13 : fld (ob H p s) p 13 = .ref (p + 10) := fld_R (ty := .boolean) rfl (by decide)
theorem g14 : fld (ob H p s) p 14 = .ref (p + 11) := fld_R (ty := .int) rfl (by decide)
theorem g15 : fld (ob H p s) p 15 = .ref (p + 12) := fld_R (ty := .int) rfl (by decide)
theorem g16 : fld (ob H p s) p 16 = .ref (p + 13) := fld_R (ty := .int) rfl (by decide)
theorem g17 : fld (ob H p s) p 17 = .ref (p + 14) := fld_R (ty := .int) rfl (by decide)
theorem g18 : fld (put lay j H p s) p 18 = .int (sI s 18) := fld_I (ty := .int) rfl (by decide) (by simp)
theorem s18 : wr (put lay j H p s) p 18 (.int v) = put lay j H p (uI s 18 v) := wr_I (ty := .int) rfl (by decide) (by simp)
theorem g19 : fld (put lay j H p s) p 19 = .int (sI s 19) := fld_I (ty := .int) rfl (by decide) (by simp)
theorem s19 : wr (put lay j H p s) p 19 (.int v) = put lay j H p (uI s 19 v) := wr_I (ty := .int) rfl (by decide) (by simp)
theorem g20 : fld (put lay j H p s) p 20 = .int (sI s 20) := fld_I (ty := .int) rfl (by decide) (by simp)
theorem s20 : wr (put lay j H p s) p 20 (.int v) = put lay j H p (uI s 20 v) := wr_I (ty := .int) rfl (by decide) (by simp)
theorem g21 : fld (put lay j H p s) p 21 = .int (sI s 21) := fld_I (ty := .int) rfl (by decide) (by simp)
theorem s21 : wr (put lay j H p s) p 21 (.int v) = put lay j H p (uI s 21 v) := wr_I (ty := .int) rfl (by decide) (by simp)
theorem g22 : fld (put lay j H p s) p 22 = .int (sI s 22) := fld_I (ty := .int) rfl (by decide) (by simp)
theorem s22 : wr (put lay j H p s) p 22 (.int v) = put lay j H p (uI s 22 v) := wr_I (ty := .int) rfl (by decide) (by simp)
theorem g23 : fld (put lay j H p s) p 23 = .int (sI s 23) := fld_I (ty := .int) rfl (by decide) (by simp)
theorem s23 : wr (put lay j H p s) p 23 (.int v) = put lay j H p (uI s 23 v) := wr_I (ty := .int) rfl (by decide) (by simp)
theorem ai1 : inA (ob H p s) (p + 1) .int i = true ↔ (0 ≤ i.toInt ∧ i.toInt < 128) := inA_I (t := 0) rfl (by decide) (by decide)
theorem aw1 : inAw (ob H p s) (p + 1) .int i = true ↔ (0 ≤ i.toInt ∧ i.toInt < 128) := inAw_I (t := 0) rfl (by decide) (by decide)
theorem ae1 : elt (ob H p s) (p + 1) i = .int (sA s 1 i.toNatClampNeg) := elt_I (t := 0) (ty := .int) rfl (by decide) (by decide)
theorem as1 : wr (ob H p s) (p + 1) q (.int v) = ob H p (uA s 1 q v) := wr_A (t := 0) (ty := .int) rfl (by decide) (by decide)
theorem ai2 : inA (ob H p s) (p + 2) .int i = true ↔ (0 ≤ i.toInt ∧ i.toInt < 128) := inA_I (t := 1) rfl (by decide) (by decide)
theorem aw2 : inAw (ob H p s) (p + 2) .int i = true ↔ (0 ≤ i.toInt ∧ i.toInt < 128) := inAw_I (t := 1) rfl (by decide) (by decide)
theorem ae2 : elt (ob H p s) (p + 2) i = .int (sA s 2 i.toNatClampNeg) := elt_I (t := 1) (ty := .int) rfl (by decide) (by decide)
theorem as2 : wr (ob H p s) (p + 2) q (.int v) = ob H p (uA s 2 q v) := wr_A (t := 1) (ty := .int) rfl (by decide) (by decide)
theorem ai3 : inA (ob H p s) (p + 3) .int i = true ↔ (0 ≤ i.toInt ∧ i.toInt < 128) := inA_I (t := 2) rfl (by decide) (by decide)
theorem aw3 : inAw (ob H p s) (p + 3) .int i = true ↔ (0 ≤ i.toInt ∧ i.toInt < 128) := inAw_I (t := 2) rfl (by decide) (by decide)
theorem ae3 : elt (ob H p s) (p + 3) i = .int (sA s 3 i.toNatClampNeg) := elt_I (t := 2) (ty := .int) rfl (by decide) (by decide)
theorem as3 : wr (ob H p s) (p + 3) q (.int v) = ob H p (uA s 3 q v) := wr_A (t := 2) (ty := .int) rfl (by decide) (by decide)
theorem ai4 : inA (ob H p s) (p + 4) .boolean i = true ↔ (0 ≤ i.toInt ∧ i.toInt < 128) := inA_I (t := 3) rfl (by decide) (by decide)
theorem aw4 : inAw (ob H p s) (p + 4) .boolean i = true ↔ (0 ≤ i.toInt ∧ i.toInt < 128) := inAw_I (t := 3) rfl (by decide) (by decide)
theorem ain4 : inA (ob H p s) (p + 4) .byte i = true ↔ False := inA_no (t := 3) (ty := .boolean) rfl (by decide) (by decide) (by decide)
theorem awn4 : inAw (ob H p s) (p + 4) .byte i = true ↔ False := inAw_no (t := 3) (ty := .boolean) rfl (by decide) (by decide) (by decide)
theorem ae4 : elt (ob H p s) (p + 4) i = .int (sA s 4 i.toNatClampNeg) := elt_I (t := 3) (ty := .boolean) rfl (by decide) (by decide)
theorem as4 : wr (ob H p s) (p + 4) q (.int v) = ob H p (uA s 4 q v) := wr_A (t := 3) (ty := .boolean) rfl (by decide) (by decide)
theorem ai5 : inA (ob H p s) (p + 5) .boolean i = true ↔ (0 ≤ i.toInt ∧ i.toInt < 128) := inA_I (t := 4) rfl (by decide) (by decide)
theorem aw5 : inAw (ob H p s) (p + 5) .boolean i = true ↔ (0 ≤ i.toInt ∧ i.toInt < 128) := inAw_I (t := 4) rfl (by decide) (by decide)
theorem ain5 : inA (ob H p s) (p + 5) .byte i = true ↔ False := inA_no (t := 4) (ty := .boolean) rfl (by decide) (by decide) (by decide)
theorem awn5 : inAw (ob H p s) (p + 5) .byte i = true ↔ False := inAw_no (t := 4) (ty := .boolean) rfl (by decide) (by decide) (by decide)
theorem ae5 : elt (ob H p s) (p + 5) i = .int (sA s 5 i.toNatClampNeg) := elt_I (t := 4) (ty := .boolean) rfl (by decide) (by decide)
theorem as5 : wr (ob H p s) (p + 5) q (.int v) = ob H p (uA s 5 q v) := wr_A (t := 4) (ty := .boolean) rfl (by decide) (by decide)
theorem ai6 : inA (ob H p s) (p + 6) .int i = true ↔ (0 ≤ i.toInt ∧ i.toInt < 128) := inA_I (t := 5) rfl (by decide) (by decide)
theorem aw6 : inAw (ob H p s) (p + 6) .int i = true ↔ (0 ≤ i.toInt ∧ i.toInt < 128) := inAw_I (t := 5) rfl (by decide) (by decide)
theorem ae6 : elt (ob H p s) (p + 6) i = .int (sA s 6 i.toNatClampNeg) := elt_I (t := 5) (ty := .int) rfl (by decide) (by decide)
theorem as6 : wr (ob H p s) (p + 6) q (.int v) = ob H p (uA s 6 q v) := wr_A (t := 5) (ty := .int) rfl (by decide) (by decide)
theorem ai7 : inA (ob H p s) (p + 7) .int i = true ↔ (0 ≤ i.toInt ∧ i.toInt < 128) := inA_I (t := 6) rfl (by decide) (by decide)
theorem aw7 : inAw (ob H p s) (p + 7) .int i = true ↔ (0 ≤ i.toInt ∧ i.toInt < 128) := inAw_I (t := 6) rfl (by decide) (by decide)
theorem ae7 : elt (ob H p s) (p + 7) i = .int (sA s 7 i.toNatClampNeg) := elt_I (t := 6) (ty := .int) rfl (by decide) (by decide)
theorem as7 : wr (ob H p s) (p + 7) q (.int v) = ob H p (uA s 7 q v) := wr_A (t := 6) (ty := .int) rfl (by decide) (by decide)
theorem ai8 : inA (ob H p s) (p + 8) .int i = true ↔ (0 ≤ i.toInt ∧ i.toInt < 128) := inA_I (t := 7) rfl (by decide) (by decide)
theorem aw8 : inAw (ob H p s) (p + 8) .int i = true ↔ (0 ≤ i.toInt ∧ i.toInt < 128) := inAw_I (t := 7) rfl (by decide) (by decide)
theorem ae8 : elt (ob H p s) (p + 8) i = .int (sA s 8 i.toNatClampNeg) := elt_I (t := 7) (ty := .int) rfl (by decide) (by decide)
theorem as8 : wr (ob H p s) (p + 8) q (.int v) = ob H p (uA s 8 q v) := wr_A (t := 7) (ty := .int) rfl (by decide) (by decide)
theorem ai9 : inA (ob H p s) (p + 9) .int i = true ↔ (0 ≤ i.toInt ∧ i.toInt < 128) := inA_I (t := 8) rfl (by decide) (by decide)
theorem aw9 : inAw (ob H p s) (p + 9) .int i = true ↔ (0 ≤ i.toInt ∧ i.toInt < 128) := inAw_I (t := 8) rfl (by decide) (by decide)
theorem ae9 : elt (ob H p s) (p + 9) i = .int (sA s 9 i.toNatClampNeg) := elt_I (t := 8) (ty := .int) rfl (by decide) (by decide)
theorem as9 : wr (ob H p s) (p + 9) q (.int v) = ob H p (uA s 9 q v) := wr_A (t := 8) (ty := .int) rfl (by decide) (by decide)
theorem ai10 : inA (ob H p s) (p + 10) .boolean i = true ↔ (0 ≤ i.toInt ∧ i.toInt < 128) := inA_I (t := 9) rfl (by decide) (by decide)
theorem aw10 : inAw (ob H p s) (p + 10) .boolean i = true ↔ (0 ≤ i.toInt ∧ i.toInt < 128) := inAw_I (t := 9) rfl (by decide) (by decide)
theorem ain10 : inA (ob H p s) (p + 10) .byte i = true ↔ False := inA_no (t := 9) (ty := .boolean) rfl (by decide) (by decide) (by decide)
theorem awn10 : inAw (ob H p s) (p + 10) .byte i = true ↔ False := inAw_no (t := 9) (ty := .boolean) rfl (by decide) (by decide) (by decide)
theorem ae10 : elt (ob H p s) (p + 10) i = .int (sA s 10 i.toNatClampNeg) := elt_I (t := 9) (ty := .boolean) rfl (by decide) (by decide)
theorem as10 : wr (ob H p s) (p + 10) q (.int v) = ob H p (uA s 10 q v) := wr_A (t := 9) (ty := .boolean) rfl (by decide) (by decide)
theorem ai11 : inA (ob H p s) (p + 11) .int i = true ↔ (0 ≤ i.toInt ∧ i.toInt < 128) := inA_I (t := 10) rfl (by decide) (by decide)
theorem aw11 : inAw (ob H p s) (p + 11) .int i = true ↔ (0 ≤ i.toInt ∧ i.toInt < 128) := inAw_I (t := 10) rfl (by decide) (by decide)
theorem ae11 : elt (ob H p s) (p + 11) i = .int (sA s 11 i.toNatClampNeg) := elt_I (t := 10) (ty := .int) rfl (by decide) (by decide)
theorem as11 : wr (ob H p s) (p + 11) q (.int v) = ob H p (uA s 11 q v) := wr_A (t := 10) (ty := .int) rfl (by decide) (by decide)
theorem ai12 : inA (ob H p s) (p + 12) .int i = true ↔ (0 ≤ i.toInt ∧ i.toInt < 256) := inA_I (t := 11) rfl (by decide) (by decide)
theorem aw12 : inAw (ob H p s) (p + 12) .int i = true ↔ (0 ≤ i.toInt ∧ i.toInt < 256) := inAw_I (t := 11) rfl (by decide) (by decide)
theorem ae12 : elt (ob H p s) (p + 12) i = .int (sA s 12 i.toNatClampNeg) := elt_I (t := 11) (ty := .int) rfl (by decide) (by decide)
theorem as12 : wr (ob H p s) (p + 12) q (.int v) = ob H p (uA s 12 q v) := wr_A (t := 11) (ty := .int) rfl (by decide) (by decide)
theorem ai13 : inA (ob H p s) (p + 13) .int i = true ↔ (0 ≤ i.toInt ∧ i.toInt < 256) := inA_I (t := 12) rfl (by decide) (by decide)
theorem aw13 : inAw (ob H p s) (p + 13) .int i = true ↔ (0 ≤ i.toInt ∧ i.toInt < 256) := inAw_I (t := 12) rfl (by decide) (by decide)
theorem ae13 : elt (ob H p s) (p + 13) i = .int (sA s 13 i.toNatClampNeg) := elt_I (t := 12) (ty := .int) rfl (by decide) (by decide)
theorem as13 : wr (ob H p s) (p + 13) q (.int v) = ob H p (uA s 13 q v) := wr_A (t := 12) (ty := .int) rfl (by decide) (by decide)
theorem ai14 : inA (ob H p s) (p + 14) .int i = true ↔ (0 ≤ i.toInt ∧ i.toInt < 256) := inA_I (t := 13) rfl (by decide) (by decide)
theorem aw14 : inAw (ob H p s) (p + 14) .int i = true ↔ (0 ≤ i.toInt ∧ i.toInt < 256) := inAw_I (t := 13) rfl (by decide) (by decide)
theorem ae14 : elt (ob H p s) (p + 14) i = .int (sA s 14 i.toNatClampNeg) := elt_I (t := 13) (ty := .int) rfl (by decide) (by decide)
theorem as14 : wr (ob H p s) (p + 14) q (.int v) = ob H p (uA s 14 q v) := wr_A (t := 13) (ty := .int) rfl (by decide) (by decide)
theorem mkO_ob {lw : LW} : mkO (pj lw) H = put lay 0 (H.1 + 1, H.2) H.1 z0 := mkO_put rfl (fun k => match k with | 0 => rfl | 1 => rfl | 2 => rfl | 3 => rfl | 4 => rfl | 5 => rfl | 6 => rfl | 7 => rfl | 8 => rfl | 9 => rfl | 10 => rfl | 11 => rfl | 12 => rfl | 13 => rfl | 14 => rfl | 15 => rfl | 16 => rfl | 17 => rfl | 18 => rfl | 19 => rfl | 20 => rfl | 21 => rfl | 22 => rfl | 23 => rfl | (_ + 24) => rfl)
theorem mk1 {h : Nat → Cel} (hz : zr s 1) : wr (mkA .int 128 (put lay 0 (p + 1, h) p s)) p 4 (.ref (p + 1)) = put lay 1 (p + 2, h) p s := mkA_put (j := 0) rfl rfl (by decide) hz.1 hz.2 (Or.inl rfl)
theorem io1 {h : Nat → Cel} : isOw (mkA .int 128 (put lay 0 (p + 1, h) p s)) p = true := isOw_mk (c := 0)
theorem mk2 {h : Nat → Cel} (hz : zr s 2) : wr (mkA .int 128 (put lay 1 (p + 2, h) p s)) p 5 (.ref (p + 2)) = put lay 2 (p + 3, h) p s := mkA_put (j := 1) rfl rfl (by decide) hz.1 hz.2 (Or.inl rfl)
theorem io2 {h : Nat → Cel} : isOw (mkA .int 128 (put lay 1 (p + 2, h) p s)) p = true := isOw_mk (c := 1)
theorem mk3 {h : Nat → Cel} (hz : zr s 3) : wr (mkA .int 128 (put lay 2 (p + 3, h) p s)) p 6 (.ref (p + 3)) = put lay 3 (p + 4, h) p s := mkA_put (j := 2) rfl rfl (by decide) hz.1 hz.2 (Or.inl rfl)
theorem io3 {h : Nat → Cel} : isOw (mkA .int 128 (put lay 2 (p + 3, h) p s)) p = true := isOw_mk (c := 2)
theorem mk4 {h : Nat → Cel} (hz : zr s 4) : wr (mkA .boolean 128 (put lay 3 (p + 4, h) p s)) p 7 (.ref (p + 4)) = put lay 4 (p + 5, h) p s := mkA_put (j := 3) rfl rfl (by decide) hz.1 hz.2 (Or.inr (Or.inr (Or.inr rfl)))
theorem io4 {h : Nat → Cel} : isOw (mkA .boolean 128 (put lay 3 (p + 4, h) p s)) p = true := isOw_mk (c := 3)
theorem mk5 {h : Nat → Cel} (hz : zr s 5) : wr (mkA .boolean 128 (put lay 4 (p + 5, h) p s)) p 8 (.ref (p + 5)) = put lay 5 (p + 6, h) p s := mkA_put (j := 4) rfl rfl (by decide) hz.1 hz.2 (Or.inr (Or.inr (Or.inr rfl)))
theorem io5 {h : Nat → Cel} : isOw (mkA .boolean 128 (put lay 4 (p + 5, h) p s)) p = true := isOw_mk (c := 4)
theorem mk6 {h : Nat → Cel} (hz : zr s 6) : wr (mkA .int 128 (put lay 5 (p + 6, h) p s)) p 9 (.ref (p + 6)) = put lay 6 (p + 7, h) p s := mkA_put (j := 5) rfl rfl (by decide) hz.1 hz.2 (Or.inl rfl)
theorem io6 {h : Nat → Cel} : isOw (mkA .int 128 (put lay 5 (p + 6, h) p s)) p = true := isOw_mk (c := 5)
theorem mk7 {h : Nat → Cel} (hz : zr s 7) : wr (mkA .int 128 (put lay 6 (p + 7, h) p s)) p 10 (.ref (p + 7)) = put lay 7 (p + 8, h) p s := mkA_put (j := 6) rfl rfl (by decide) hz.1 hz.2 (Or.inl rfl)
theorem io7 {h : Nat → Cel} : isOw (mkA .int 128 (put lay 6 (p + 7, h) p s)) p = true := isOw_mk (c := 6)
theorem mk8 {h : Nat → Cel} (hz : zr s 8) : wr (mkA .int 128 (put lay 7 (p + 8, h) p s)) p 11 (.ref (p + 8)) = put lay 8 (p + 9, h) p s := mkA_put (j := 7) rfl rfl (by decide) hz.1 hz.2 (Or.inl rfl)
theorem io8 {h : Nat → Cel} : isOw (mkA .int 128 (put lay 7 (p + 8, h) p s)) p = true := isOw_mk (c := 7)
theorem mk9 {h : Nat → Cel} (hz : zr s 9) : wr (mkA .int 128 (put lay 8 (p + 9, h) p s)) p 12 (.ref (p + 9)) = put lay 9 (p + 10, h) p s := mkA_put (j := 8) rfl rfl (by decide) hz.1 hz.2 (Or.inl rfl)
theorem io9 {h : Nat → Cel} : isOw (mkA .int 128 (put lay 8 (p + 9, h) p s)) p = true := isOw_mk (c := 8)
theorem mk10 {h : Nat → Cel} (hz : zr s 10) : wr (mkA .boolean 128 (put lay 9 (p + 10, h) p s)) p 13 (.ref (p + 10)) = put lay 10 (p + 11, h) p s := mkA_put (j := 9) rfl rfl (by decide) hz.1 hz.2 (Or.inr (Or.inr (Or.inr rfl)))
theorem io10 {h : Nat → Cel} : isOw (mkA .boolean 128 (put lay 9 (p + 10, h) p s)) p = true := isOw_mk (c := 9)
theorem mk11 {h : Nat → Cel} (hz : zr s 11) : wr (mkA .int 128 (put lay 10 (p + 11, h) p s)) p 14 (.ref (p + 11)) = put lay 11 (p + 12, h) p s := mkA_put (j := 10) rfl rfl (by decide) hz.1 hz.2 (Or.inl rfl)
theorem io11 {h : Nat → Cel} : isOw (mkA .int 128 (put lay 10 (p + 11, h) p s)) p = true := isOw_mk (c := 10)
theorem mk12 {h : Nat → Cel} (hz : zr s 12) : wr (mkA .int 256 (put lay 11 (p + 12, h) p s)) p 15 (.ref (p + 12)) = put lay 12 (p + 13, h) p s := mkA_put (j := 11) rfl rfl (by decide) hz.1 hz.2 (Or.inl rfl)
theorem io12 {h : Nat → Cel} : isOw (mkA .int 256 (put lay 11 (p + 12, h) p s)) p = true := isOw_mk (c := 11)
theorem mk13 {h : Nat → Cel} (hz : zr s 13) : wr (mkA .int 256 (put lay 12 (p + 13, h) p s)) p 16 (.ref (p + 13)) = put lay 13 (p + 14, h) p s := mkA_put (j := 12) rfl rfl (by decide) hz.1 hz.2 (Or.inl rfl)
theorem io13 {h : Nat → Cel} : isOw (mkA .int 256 (put lay 12 (p + 13, h) p s)) p = true := isOw_mk (c := 12)
theorem mk14 {h : Nat → Cel} (hz : zr s 14) : wr (mkA .int 256 (put lay 13 (p + 14, h) p s)) p 17 (.ref (p + 14)) = put lay 14 (p + 15, h) p s := mkA_put (j := 13) rfl rfl (by decide) hz.1 hz.2 (Or.inl rfl)
theorem io14 {h : Nat → Cel} : isOw (mkA .int 256 (put lay 13 (p + 14, h) p s)) p = true := isOw_mk (c := 13)
end Acc
section Pc
variable {lw : LW} {L : List Slot} {S : List Value} {k n : Nat} {H : AH} {Q : Option Value → AH → Prop}
theorem c1 {x0 : Nat} {x1 : Int32} {x2 : Int32} {x3 : Int32} {x4 : Int32} : Cl (pj lw) 1 [.ref x0, .int x1, .int x2, .int x3, .int x4] H Q ↔ W (pj lw) 1 0 [.val (.ref x0), .val (.int x1), .val (.int x2), .val (.int x3), .val (.int x4), .unset] [] 0 0 H Q := cl_unf rfl
theorem w1_0 {x : Nat} : W (pj lw) 1 0 (.val (.ref x) :: L) S k n H Q ↔ W (pj lw) 1 1 (.val (.ref x) :: L) (.ref x :: S) k n H Q := W_s (rfl : (pj lw).1 1 0 = some (.aload_n 0, 1, 0)) rfl rfl rfl
theorem w1_1 {a : Nat} : W (pj lw) 1 1 L (.ref a :: S) k n H Q ↔ ((1 ≤ 1 ∧ cs S + 12 ≤ 16) ∧ W (pj lw) 1 4 L S k n H Q) := W_oinit (rfl : (pj lw).1 1 1 = some (.invokespecial 1, 3, (-1)))
theorem w1_4 {x : Nat} : W (pj lw) 1 4 (.val (.ref x) :: L) S k n H Q ↔ W (pj lw) 1 5 (.val (.ref x) :: L) (.ref x :: S) k n H Q := W_s (rfl : (pj lw).1 1 4 = some (.aload_n 0, 1, 0)) rfl rfl rfl
theorem w1_5 : W (pj lw) 1 5 L S k n H Q ↔ W (pj lw) 1 8 L (.int 128 :: S) k n H Q := W_s (rfl : (pj lw).1 1 5 = some (.sipush 128, 3, 0)) rfl rfl rfl
theorem w1_8 : W (pj lw) 1 8 L (.int 128 :: S) k n H Q ↔ ((k + 1 ≤ 14 ∧ n + 128 ≤ 2176) ∧ W (pj lw) 1 10 L (.ref H.1 :: S) (k + 1) (n + 128) (mkA .int 128 H) Q) := W_newarr' (rfl : (pj lw).1 1 8 = some (.newarray .int, 2, 0)) rfl (by decide) (by decide)
theorem w1_10 {a : Nat} {v : Value} : W (pj lw) 1 10 L (v :: .ref a :: S) k n H Q ↔ ((isOw H a = true ∧ okv (.array .int) v = true) ∧ W (pj lw) 1 13 L S k n (wr H a 4 v) Q) := W_putf (rfl : (pj lw).1 1 10 = some (.putfield 7, 3, 4))
theorem w1_13 {x : Nat} : W (pj lw) 1 13 (.val (.ref x) :: L) S k n H Q ↔ W (pj lw) 1 14 (.val (.ref x) :: L) (.ref x :: S) k n H Q := W_s (rfl : (pj lw).1 1 13 = some (.aload_n 0, 1, 0)) rfl rfl rfl
theorem w1_14 : W (pj lw) 1 14 L S k n H Q ↔ W (pj lw) 1 17 L (.int 128 :: S) k n H Q := W_s (rfl : (pj lw).1 1 14 = some (.sipush 128, 3, 0)) rfl rfl rfl
theorem w1_17 : W (pj lw) 1 17 L (.int 128 :: S) k n H Q ↔ ((k + 1 ≤ 14 ∧ n + 128 ≤ 2176) ∧ W (pj lw) 1 19 L (.ref H.1 :: S) (k + 1) (n + 128) (mkA .int 128 H) Q) := W_newarr' (rfl : (pj lw).1 1 17 = some (.newarray .int, 2, 0)) rfl (by decide) (by decide)
theorem w1_19 {a : Nat} {v : Value} : W (pj lw) 1 19 L (v :: .ref a :: S) k n H Q ↔ ((isOw H a = true ∧ okv (.array .int) v = true) ∧ W (pj lw) 1 22 L S k n (wr H a 5 v) Q) := W_putf (rfl : (pj lw).1 1 19 = some (.putfield 13, 3, 5))
theorem w1_22 {x : Nat} : W (pj lw) 1 22 (.val (.ref x) :: L) S k n H Q ↔ W (pj lw) 1 23 (.val (.ref x) :: L) (.ref x :: S) k n H Q := W_s (rfl : (pj lw).1 1 22 = some (.aload_n 0, 1, 0)) rfl rfl rfl
theorem w1_23 : W (pj lw) 1 23 L S k n H Q ↔ W (pj lw) 1 26 L (.int 128 :: S) k n H Q := W_s (rfl : (pj lw).1 1 23 = some (.sipush 128, 3, 0)) rfl rfl rfl
theorem w1_26 : W (pj lw) 1 26 L (.int 128 :: S) k n H Q ↔ ((k + 1 ≤ 14 ∧ n + 128 ≤ 2176) ∧ W (pj lw) 1 28 L (.ref H.1 :: S) (k + 1) (n + 128) (mkA .int 128 H) Q) := W_newarr' (rfl : (pj lw).1 1 26 = some (.newarray .int, 2, 0)) rfl (by decide) (by decide)
theorem w1_28 {a : Nat} {v : Value} : W (pj lw) 1 28 L (v :: .ref a :: S) k n H Q ↔ ((isOw H a = true ∧ okv (.array .int) v = true) ∧ W (pj lw) 1 31 L S k n (wr H a 6 v) Q) := W_putf (rfl : (pj lw).1 1 28 = some (.putfield 16, 3, 6))
theorem w1_31 {x : Nat} : W (pj lw) 1 31 (.val (.ref x) :: L) S k n H Q ↔ W (pj lw) 1 32 (.val (.ref x) :: L) (.ref x :: S) k n H Q := W_s (rfl : (pj lw).1 1 31 = some (.aload_n 0, 1, 0)) rfl rfl rfl
theorem w1_32 : W (pj lw) 1 32 L S k n H Q ↔ W (pj lw) 1 35 L (.int 128 :: S) k n H Q := W_s (rfl : (pj lw).1 1 32 = some (.sipush 128, 3, 0)) rfl rfl rfl
theorem w1_35 : W (pj lw) 1 35 L (.int 128 :: S) k n H Q ↔ ((k + 1 ≤ 14 ∧ n + 128 ≤ 2176) ∧ W (pj lw) 1 37 L (.ref H.1 :: S) (k + 1) (n + 128) (mkA .boolean 128 H) Q) := W_newarr' (rfl : (pj lw).1 1 35 = some (.newarray .boolean, 2, 0)) rfl (by decide) (by decide)
theorem w1_37 {a : Nat} {v : Value} : W (pj lw) 1 37 L (v :: .ref a :: S) k n H Q ↔ ((isOw H a = true ∧ okv (.array .boolean) v = true) ∧ W (pj lw) 1 40 L S k n (wr H a 7 v) Q) := W_putf (rfl : (pj lw).1 1 37 = some (.putfield 19, 3, 7))
theorem w1_40 {x : Nat} : W (pj lw) 1 40 (.val (.ref x) :: L) S k n H Q ↔ W (pj lw) 1 41 (.val (.ref x) :: L) (.ref x :: S) k n H Q := W_s (rfl : (pj lw).1 1 40 = some (.aload_n 0, 1, 0)) rfl rfl rfl
theorem w1_41 : W (pj lw) 1 41 L S k n H Q ↔ W (pj lw) 1 44 L (.int 128 :: S) k n H Q := W_s (rfl : (pj lw).1 1 41 = some (.sipush 128, 3, 0)) rfl rfl rfl
theorem w1_44 : W (pj lw) 1 44 L (.int 128 :: S) k n H Q ↔ ((k + 1 ≤ 14 ∧ n + 128 ≤ 2176) ∧ W (pj lw) 1 46 L (.ref H.1 :: S) (k + 1) (n + 128) (mkA .boolean 128 H) Q) := W_newarr' (rfl : (pj lw).1 1 44 = some (.newarray .boolean, 2, 0)) rfl (by decide) (by decide)
theorem w1_46 {a : Nat} {v : Value} : W (pj lw) 1 46 L (v :: .ref a :: S) k n H Q ↔ ((isOw H a = true ∧ okv (.array .boolean) v = true) ∧ W (pj lw) 1 49 L S k n (wr H a 8 v) Q) := W_putf (rfl : (pj lw).1 1 46 = some (.putfield 23, 3, 8))
theorem w1_49 {x : Nat} : W (pj lw) 1 49 (.val (.ref x) :: L) S k n H Q ↔ W (pj lw) 1 50 (.val (.ref x) :: L) (.ref x :: S) k n H Q := W_s (rfl : (pj lw).1 1 49 = some (.aload_n 0, 1, 0)) rfl rfl rfl
theorem w1_50 : W (pj lw) 1 50 L S k n H Q ↔ W (pj lw) 1 53 L (.int 128 :: S) k n H Q := W_s (rfl : (pj lw).1 1 50 = some (.sipush 128, 3, 0)) rfl rfl rfl
theorem w1_53 : W (pj lw) 1 53 L (.int 128 :: S) k n H Q ↔ ((k + 1 ≤ 14 ∧ n + 128 ≤ 2176) ∧ W (pj lw) 1 55 L (.ref H.1 :: S) (k + 1) (n + 128) (mkA .int 128 H) Q) := W_newarr' (rfl : (pj lw).1 1 53 = some (.newarray .int, 2, 0)) rfl (by decide) (by decide)
theorem w1_55 {a : Nat} {v : Value} : W (pj lw) 1 55 L (v :: .ref a :: S) k n H Q ↔ ((isOw H a = true ∧ okv (.array .int) v = true) ∧ W (pj lw) 1 58 L S k n (wr H a 9 v) Q) := W_putf (rfl : (pj lw).1 1 55 = some (.putfield 26, 3, 9))
theorem w1_58 {x : Nat} : W (pj lw) 1 58 (.val (.ref x) :: L) S k n H Q ↔ W (pj lw) 1 59 (.val (.ref x) :: L) (.ref x :: S) k n H Q := W_s (rfl : (pj lw).1 1 58 = some (.aload_n 0, 1, 0)) rfl rfl rfl
theorem w1_59 : W (pj lw) 1 59 L S k n H Q ↔ W (pj lw) 1 62 L (.int 128 :: S) k n H Q := W_s (rfl : (pj lw).1 1 59 = some (.sipush 128, 3, 0)) rfl rfl rfl
theorem w1_62 : W (pj lw) 1 62 L (.int 128 :: S) k n H Q ↔ ((k + 1 ≤ 14 ∧ n + 128 ≤ 2176) ∧ W (pj lw) 1 64 L (.ref H.1 :: S) (k + 1) (n + 128) (mkA .int 128 H) Q) := W_newarr' (rfl : (pj lw).1 1 62 = some (.newarray .int, 2, 0)) rfl (by decide) (by decide)
theorem w1_64 {a : Nat} {v : Value} : W (pj lw) 1 64 L (v :: .ref a :: S) k n H Q ↔ ((isOw H a = true ∧ okv (.array .int) v = true) ∧ W (pj lw) 1 67 L S k n (wr H a 10 v) Q) := W_putf (rfl : (pj lw).1 1 64 = some (.putfield 29, 3, 10))
theorem w1_67 {x : Nat} : W (pj lw) 1 67 (.val (.ref x) :: L) S k n H Q ↔ W (pj lw) 1 68 (.val (.ref x) :: L) (.ref x :: S) k n H Q := W_s (rfl : (pj lw).1 1 67 = some (.aload_n 0, 1, 0)) rfl rfl rfl
theorem w1_68 : W (pj lw) 1 68 L S k n H Q ↔ W (pj lw) 1 71 L (.int 128 :: S) k n H Q := W_s (rfl : (pj lw).1 1 68 = some (.sipush 128, 3, 0)) rfl rfl rfl
theorem w1_71 : W (pj lw) 1 71 L (.int 128 :: S) k n H Q ↔ ((k + 1 ≤ 14 ∧ n + 128 ≤ 2176) ∧ W (pj lw) 1 73 L (.ref H.1 :: S) (k + 1) (n + 128) (mkA .int 128 H) Q) := W_newarr' (rfl : (pj lw).1 1 71 = some (.newarray .int, 2, 0)) rfl (by decide) (by decide)
theorem w1_73 {a : Nat} {v : Value} : W (pj lw) 1 73 L (v :: .ref a :: S) k n H Q ↔ ((isOw H a = true ∧ okv (.array .int) v = true) ∧ W (pj lw) 1 76 L S k n (wr H a 11 v) Q) := W_putf (rfl : (pj lw).1 1 73 = some (.putfield 32, 3, 11))
theorem w1_76 {x : Nat} : W (pj lw) 1 76 (.val (.ref x) :: L) S k n H Q ↔ W (pj lw) 1 77 (.val (.ref x) :: L) (.ref x :: S) k n H Q := W_s (rfl : (pj lw).1 1 76 = some (.aload_n 0, 1, 0)) rfl rfl rfl
theorem w1_77 : W (pj lw) 1 77 L S k n H Q ↔ W (pj lw) 1 80 L (.int 128 :: S) k n H Q := W_s (rfl : (pj lw).1 1 77 = some (.sipush 128, 3, 0)) rfl rfl rfl
theorem w1_80 : W (pj lw) 1 80 L (.int 128 :: S) k n H Q ↔ ((k + 1 ≤ 14 ∧ n + 128 ≤ 2176) ∧ W (pj lw) 1 82 L (.ref H.1 :: S) (k + 1) (n + 128) (mkA .int 128 H) Q) := W_newarr' (rfl : (pj lw).1 1 80 = some (.newarray .int, 2, 0)) rfl (by decide) (by decide)
theorem w1_82 {a : Nat} {v : Value} : W (pj lw) 1 82 L (v :: .ref a :: S) k n H Q ↔ ((isOw H a = true ∧ okv (.array .int) v = true) ∧ W (pj lw) 1 85 L S k n (wr H a 12 v) Q) := W_putf (rfl : (pj lw).1 1 82 = some (.putfield 35, 3, 12))
theorem w1_85 {x : Nat} : W (pj lw) 1 85 (.val (.ref x) :: L) S k n H Q ↔ W (pj lw) 1 86 (.val (.ref x) :: L) (.ref x :: S) k n H Q := W_s (rfl : (pj lw).1 1 85 = some (.aload_n 0, 1, 0)) rfl rfl rfl
theorem w1_86 : W (pj lw) 1 86 L S k n H Q ↔ W (pj lw) 1 89 L (.int 128 :: S) k n H Q := W_s (rfl : (pj lw).1 1 86 = some (.sipush 128, 3, 0)) rfl rfl rfl
theorem w1_89 : W (pj lw) 1 89 L (.int 128 :: S) k n H Q ↔ ((k + 1 ≤ 14 ∧ n + 128 ≤ 2176) ∧ W (pj lw) 1 91 L (.ref H.1 :: S) (k + 1) (n + 128) (mkA .boolean 128 H) Q) := W_newarr' (rfl : (pj lw).1 1 89 = some (.newarray .boolean, 2, 0)) rfl (by decide) (by decide)
theorem w1_91 {a : Nat} {v : Value} : W (pj lw) 1 91 L (v :: .ref a :: S) k n H Q ↔ ((isOw H a = true ∧ okv (.array .boolean) v = true) ∧ W (pj lw) 1 94 L S k n (wr H a 13 v) Q) := W_putf (rfl : (pj lw).1 1 91 = some (.putfield 38, 3, 13))
theorem w1_94 {x : Nat} : W (pj lw) 1 94 (.val (.ref x) :: L) S k n H Q ↔ W (pj lw) 1 95 (.val (.ref x) :: L) (.ref x :: S) k n H Q := W_s (rfl : (pj lw).1 1 94 = some (.aload_n 0, 1, 0)) rfl rfl rfl
theorem w1_95 : W (pj lw) 1 95 L S k n H Q ↔ W (pj lw) 1 98 L (.int 128 :: S) k n H Q := W_s (rfl : (pj lw).1 1 95 = some (.sipush 128, 3, 0)) rfl rfl rfl
theorem w1_98 : W (pj lw) 1 98 L (.int 128 :: S) k n H Q ↔ ((k + 1 ≤ 14 ∧ n + 128 ≤ 2176) ∧ W (pj lw) 1 100 L (.ref H.1 :: S) (k + 1) (n + 128) (mkA .int 128 H) Q) := W_newarr' (rfl : (pj lw).1 1 98 = some (.newarray .int, 2, 0)) rfl (by decide) (by decide)
theorem w1_100 {a : Nat} {v : Value} : W (pj lw) 1 100 L (v :: .ref a :: S) k n H Q ↔ ((isOw H a = true ∧ okv (.array .int) v = true) ∧ W (pj lw) 1 103 L S k n (wr H a 14 v) Q) := W_putf (rfl : (pj lw).1 1 100 = some (.putfield 41, 3, 14))
theorem w1_103 {x : Nat} : W (pj lw) 1 103 (.val (.ref x) :: L) S k n H Q ↔ W (pj lw) 1 104 (.val (.ref x) :: L) (.ref x :: S) k n H Q := W_s (rfl : (pj lw).1 1 103 = some (.aload_n 0, 1, 0)) rfl rfl rfl
theorem w1_104 : W (pj lw) 1 104 L S k n H Q ↔ W (pj lw) 1 107 L (.int 256 :: S) k n H Q := W_s (rfl : (pj lw).1 1 104 = some (.sipush 256, 3, 0)) rfl rfl rfl
theorem w1_107 : W (pj lw) 1 107 L (.int 256 :: S) k n H Q ↔ ((k + 1 ≤ 14 ∧ n + 256 ≤ 2176) ∧ W (pj lw) 1 109 L (.ref H.1 :: S) (k + 1) (n + 256) (mkA .int 256 H) Q) := W_newarr' (rfl : (pj lw).1 1 107 = some (.newarray .int, 2, 0)) rfl (by decide) (by decide)
theorem w1_109 {a : Nat} {v : Value} : W (pj lw) 1 109 L (v :: .ref a :: S) k n H Q ↔ ((isOw H a = true ∧ okv (.array .int) v = true) ∧ W (pj lw) 1 112 L S k n (wr H a 15 v) Q) := W_putf (rfl : (pj lw).1 1 109 = some (.putfield 44, 3, 15))
theorem w1_112 {x : Nat} : W (pj lw) 1 112 (.val (.ref x) :: L) S k n H Q ↔ W (pj lw) 1 113 (.val (.ref x) :: L) (.ref x :: S) k n H Q := W_s (rfl : (pj lw).1 1 112 = some (.aload_n 0, 1, 0)) rfl rfl rfl
theorem w1_113 : W (pj lw) 1 113 L S k n H Q ↔ W (pj lw) 1 116 L (.int 256 :: S) k n H Q := W_s (rfl : (pj lw).1 1 113 = some (.sipush 256, 3, 0)) rfl rfl rfl
theorem w1_116 : W (pj lw) 1 116 L (.int 256 :: S) k n H Q ↔ ((k + 1 ≤ 14 ∧ n + 256 ≤ 2176) ∧ W (pj lw) 1 118 L (.ref H.1 :: S) (k + 1) (n + 256) (mkA .int 256 H) Q) := W_newarr' (rfl : (pj lw).1 1 116 = some (.newarray .int, 2, 0)) rfl (by decide) (by decide)
theorem w1_118 {a : Nat} {v : Value} : W (pj lw) 1 118 L (v :: .ref a :: S) k n H Q ↔ ((isOw H a = true ∧ okv (.array .int) v = true) ∧ W (pj lw) 1 121 L S k n (wr H a 16 v) Q) := W_putf (rfl : (pj lw).1 1 118 = some (.putfield 47, 3, 16))
theorem w1_121 {x : Nat} : W (pj lw) 1 121 (.val (.ref x) :: L) S k n H Q ↔ W (pj lw) 1 122 (.val (.ref x) :: L) (.ref x :: S) k n H Q := W_s (rfl : (pj lw).1 1 121 = some (.aload_n 0, 1, 0)) rfl rfl rfl
theorem w1_122 : W (pj lw) 1 122 L S k n H Q ↔ W (pj lw) 1 125 L (.int 256 :: S) k n H Q := W_s (rfl : (pj lw).1 1 122 = some (.sipush 256, 3, 0)) rfl rfl rfl
theorem w1_125 : W (pj lw) 1 125 L (.int 256 :: S) k n H Q ↔ ((k + 1 ≤ 14 ∧ n + 256 ≤ 2176) ∧ W (pj lw) 1 127 L (.ref H.1 :: S) (k + 1) (n + 256) (mkA .int 256 H) Q) := W_newarr' (rfl : (pj lw).1 1 125 = some (.newarray .int, 2, 0)) rfl (by decide) (by decide)
theorem w1_127 {a : Nat} {v : Value} : W (pj lw) 1 127 L (v :: .ref a :: S) k n H Q ↔ ((isOw H a = true ∧ okv (.array .int) v = true) ∧ W (pj lw) 1 130 L S k n (wr H a 17 v) Q) := W_putf (rfl : (pj lw).1 1 127 = some (.putfield 50, 3, 17))
theorem w1_130 {x : Nat} : W (pj lw) 1 130 (.val (.ref x) :: L) S k n H Q ↔ W (pj lw) 1 131 (.val (.ref x) :: L) (.ref x :: S) k n H Q := W_s (rfl : (pj lw).1 1 130 = some (.aload_n 0, 1, 0)) rfl rfl rfl
theorem w1_131 {x : Nat} : W (pj lw) 1 131 (.val (.ref x) :: L) S k n H Q ↔ W (pj lw) 1 132 (.val (.ref x) :: L) (.ref x :: S) k n H Q := W_s (rfl : (pj lw).1 1 131 = some (.aload_n 0, 1, 0)) rfl rfl rfl
theorem w1_132 {x : Int32} {l0 : Slot} : W (pj lw) 1 132 (l0 :: .val (.int x) :: L) S k n H Q ↔ W (pj lw) 1 133 (l0 :: .val (.int x) :: L) (.int x :: S) k n H Q := W_s (rfl : (pj lw).1 1 132 = some (.iload_n 1, 1, 0)) rfl rfl rfl
theorem w1_133 : W (pj lw) 1 133 L S k n H Q ↔ W (pj lw) 1 134 L (.int 2 :: S) k n H Q := W_s (rfl : (pj lw).1 1 133 = some (.iconst 2, 1, 0)) rfl rfl rfl
theorem w1_134 : W (pj lw) 1 134 L S k n H Q ↔ W (pj lw) 1 137 L (.int 128 :: S) k n H Q := W_s (rfl : (pj lw).1 1 134 = some (.sipush 128, 3, 0)) rfl rfl rfl
theorem w1_137 {a : Nat} {x0 : Int32} {x1 : Int32} {x2 : Int32} : W (pj lw) 1 137 L (.int x2 :: .int x1 :: .int x0 :: .ref a :: S) k n H Q ↔ ((isO H a = true ∧ cs S + (4 + 11) + 0 ≤ 16) ∧ Cl (pj lw) 17 [.ref a, .int x0, .int x1, .int x2] H (fun v H => W (pj lw) 1 140 L (v.toList ++ S) k n H Q)) := W_inst (as := [.int x0, .int x1, .int x2]) (rfl : (pj lw).1 1 137 = some (.invokevirtual 53, 3, 17)) rfl rfl rfl (Nat.le_of_ble_eq_true rfl) (Nat.le_of_ble_eq_true rfl) ⟨rfl, rfl⟩
theorem w1_140 {a : Nat} {v : Value} : W (pj lw) 1 140 L (v :: .ref a :: S) k n H Q ↔ ((isOw H a = true ∧ okv (.int) v = true) ∧ W (pj lw) 1 143 L S k n (wr H a 0 v) Q) := W_putf (rfl : (pj lw).1 1 140 = some (.putfield 57, 3, 0))
theorem w1_143 {x : Nat} : W (pj lw) 1 143 (.val (.ref x) :: L) S k n H Q ↔ W (pj lw) 1 144 (.val (.ref x) :: L) (.ref x :: S) k n H Q := W_s (rfl : (pj lw).1 1 143 = some (.aload_n 0, 1, 0)) rfl rfl rfl
theorem w1_144 {x : Nat} : W (pj lw) 1 144 (.val (.ref x) :: L) S k n H Q ↔ W (pj lw) 1 145 (.val (.ref x) :: L) (.ref x :: S) k n H Q := W_s (rfl : (pj lw).1 1 144 = some (.aload_n 0, 1, 0)) rfl rfl rfl
theorem w1_145 {x : Int32} {l0 l1 : Slot} : W (pj lw) 1 145 (l0 :: l1 :: .val (.int x) :: L) S k n H Q ↔ W (pj lw) 1 146 (l0 :: l1 :: .val (.int x) :: L) (.int x :: S) k n H Q := W_s (rfl : (pj lw).1 1 145 = some (.iload_n 2, 1, 0)) rfl rfl rfl
theorem w1_146 : W (pj lw) 1 146 L S k n H Q ↔ W (pj lw) 1 147 L (.int 1 :: S) k n H Q := W_s (rfl : (pj lw).1 1 146 = some (.iconst 1, 1, 0)) rfl rfl rfl
theorem w1_147 : W (pj lw) 1 147 L S k n H Q ↔ W (pj lw) 1 149 L (.int 8 :: S) k n H Q := W_s (rfl : (pj lw).1 1 147 = some (.bipush 8, 2, 0)) rfl rfl rfl
theorem w1_149 {a : Nat} {x0 : Int32} {x1 : Int32} {x2 : Int32} : W (pj lw) 1 149 L (.int x2 :: .int x1 :: .int x0 :: .ref a :: S) k n H Q ↔ ((isO H a = true ∧ cs S + (4 + 11) + 0 ≤ 16) ∧ Cl (pj lw) 17 [.ref a, .int x0, .int x1, .int x2] H (fun v H => W (pj lw) 1 152 L (v.toList ++ S) k n H Q)) := W_inst (as := [.int x0, .int x1, .int x2]) (rfl : (pj lw).1 1 149 = some (.invokevirtual 53, 3, 17)) rfl rfl rfl (Nat.le_of_ble_eq_true rfl) (Nat.le_of_ble_eq_true rfl) ⟨rfl, rfl⟩
theorem w1_152 {a : Nat} {v : Value} : W (pj lw) 1 152 L (v :: .ref a :: S) k n H Q ↔ ((isOw H a = true ∧ okv (.int) v = true) ∧ W (pj lw) 1 155 L S k n (wr H a 1 v) Q) := W_putf (rfl : (pj lw).1 1 152 = some (.putfield 61, 3, 1))
theorem w1_155 {x : Nat} : W (pj lw) 1 155 (.val (.ref x) :: L) S k n H Q ↔ W (pj lw) 1 156 (.val (.ref x) :: L) (.ref x :: S) k n H Q := W_s (rfl : (pj lw).1 1 155 = some (.aload_n 0, 1, 0)) rfl rfl rfl
theorem w1_156 {x : Nat} : W (pj lw) 1 156 (.val (.ref x) :: L) S k n H Q ↔ W (pj lw) 1 157 (.val (.ref x) :: L) (.ref x :: S) k n H Q := W_s (rfl : (pj lw).1 1 156 = some (.aload_n 0, 1, 0)) rfl rfl rfl
theorem w1_157 {x : Int32} {l0 l1 l2 : Slot} : W (pj lw) 1 157 (l0 :: l1 :: l2 :: .val (.int x) :: L) S k n H Q ↔ W (pj lw) 1 158 (l0 :: l1 :: l2 :: .val (.int x) :: L) (.int x :: S) k n H Q := W_s (rfl : (pj lw).1 1 157 = some (.iload_n 3, 1, 0)) rfl rfl rfl
theorem w1_158 : W (pj lw) 1 158 L S k n H Q ↔ W (pj lw) 1 159 L (.int 1 :: S) k n H Q := W_s (rfl : (pj lw).1 1 158 = some (.iconst 1, 1, 0)) rfl rfl rfl
theorem w1_159 : W (pj lw) 1 159 L S k n H Q ↔ W (pj lw) 1 161 L (.int 8 :: S) k n H Q := W_s (rfl : (pj lw).1 1 159 = some (.bipush 8, 2, 0)) rfl rfl rfl
theorem w1_161 {a : Nat} {x0 : Int32} {x1 : Int32} {x2 : Int32} : W (pj lw) 1 161 L (.int x2 :: .int x1 :: .int x0 :: .ref a :: S) k n H Q ↔ ((isO H a = true ∧ cs S + (4 + 11) + 0 ≤ 16) ∧ Cl (pj lw) 17 [.ref a, .int x0, .int x1, .int x2] H (fun v H => W (pj lw) 1 164 L (v.toList ++ S) k n H Q)) := W_inst (as := [.int x0, .int x1, .int x2]) (rfl : (pj lw).1 1 161 = some (.invokevirtual 53, 3, 17)) rfl rfl rfl (Nat.le_of_ble_eq_true rfl) (Nat.le_of_ble_eq_true rfl) ⟨rfl, rfl⟩
theorem w1_164 {a : Nat} {v : Value} : W (pj lw) 1 164 L (v :: .ref a :: S) k n H Q ↔ ((isOw H a = true ∧ okv (.int) v = true) ∧ W (pj lw) 1 167 L S k n (wr H a 2 v) Q) := W_putf (rfl : (pj lw).1 1 164 = some (.putfield 64, 3, 2))
theorem w1_167 {x : Nat} : W (pj lw) 1 167 (.val (.ref x) :: L) S k n H Q ↔ W (pj lw) 1 168 (.val (.ref x) :: L) (.ref x :: S) k n H Q := W_s (rfl : (pj lw).1 1 167 = some (.aload_n 0, 1, 0)) rfl rfl rfl
theorem w1_168 {x : Nat} : W (pj lw) 1 168 (.val (.ref x) :: L) S k n H Q ↔ W (pj lw) 1 169 (.val (.ref x) :: L) (.ref x :: S) k n H Q := W_s (rfl : (pj lw).1 1 168 = some (.aload_n 0, 1, 0)) rfl rfl rfl
theorem w1_169 {x : Int32} {l0 l1 l2 l3 : Slot} : W (pj lw) 1 169 (l0 :: l1 :: l2 :: l3 :: .val (.int x) :: L) S k n H Q ↔ W (pj lw) 1 171 (l0 :: l1 :: l2 :: l3 :: .val (.int x) :: L) (.int x :: S) k n H Q := W_s (rfl : (pj lw).1 1 169 = some (.iload 4, 2, 0)) rfl rfl rfl
theorem w1_171 : W (pj lw) 1 171 L S k n H Q ↔ W (pj lw) 1 172 L (.int 1 :: S) k n H Q := W_s (rfl : (pj lw).1 1 171 = some (.iconst 1, 1, 0)) rfl rfl rfl
theorem w1_172 : W (pj lw) 1 172 L S k n H Q ↔ W (pj lw) 1 174 L (.int 16 :: S) k n H Q := W_s (rfl : (pj lw).1 1 172 = some (.bipush 16, 2, 0)) rfl rfl rfl
theorem w1_174 {a : Nat} {x0 : Int32} {x1 : Int32} {x2 : Int32} : W (pj lw) 1 174 L (.int x2 :: .int x1 :: .int x0 :: .ref a :: S) k n H Q ↔ ((isO H a = true ∧ cs S + (4 + 11) + 0 ≤ 16) ∧ Cl (pj lw) 17 [.ref a, .int x0, .int x1, .int x2] H (fun v H => W (pj lw) 1 177 L (v.toList ++ S) k n H Q)) := W_inst (as := [.int x0, .int x1, .int x2]) (rfl : (pj lw).1 1 174 = some (.invokevirtual 53, 3, 17)) rfl rfl rfl (Nat.le_of_ble_eq_true rfl) (Nat.le_of_ble_eq_true rfl) ⟨rfl, rfl⟩
theorem w1_177 {a : Nat} {v : Value} : W (pj lw) 1 177 L (v :: .ref a :: S) k n H Q ↔ ((isOw H a = true ∧ okv (.int) v = true) ∧ W (pj lw) 1 180 L S k n (wr H a 3 v) Q) := W_putf (rfl : (pj lw).1 1 177 = some (.putfield 67, 3, 3))
theorem w1_180 : W (pj lw) 1 180 L S k n H Q ↔ W (pj lw) 1 181 L (.int 0 :: S) k n H Q := W_s (rfl : (pj lw).1 1 180 = some (.iconst 0, 1, 0)) rfl rfl rfl
theorem w1_181 {x : Int32} {l0 l1 l2 l3 l4 : Slot} : W (pj lw) 1 181 (l0 :: l1 :: l2 :: l3 :: l4 :: .unset :: L) (.int x :: S) k n H Q ↔ W (pj lw) 1 183 (l0 :: l1 :: l2 :: l3 :: l4 :: .val (.int x) :: L) S k n H Q := W_ist (rfl : (pj lw).1 1 181 = some (.istore 5, 2, 0)) rfl rfl
theorem w1_183 {x : Int32} {l0 l1 l2 l3 l4 : Slot} : W (pj lw) 1 183 (l0 :: l1 :: l2 :: l3 :: l4 :: .val (.int x) :: L) S k n H Q ↔ W (pj lw) 1 185 (l0 :: l1 :: l2 :: l3 :: l4 :: .val (.int x) :: L) (.int x :: S) k n H Q := W_s (rfl : (pj lw).1 1 183 = some (.iload 5, 2, 0)) rfl rfl rfl
theorem w1_185 : W (pj lw) 1 185 L S k n H Q ↔ W (pj lw) 1 188 L (.int 128 :: S) k n H Q := W_s (rfl : (pj lw).1 1 185 = some (.sipush 128, 3, 0)) rfl rfl rfl
theorem w1_188 {x y : Int32} : W (pj lw) 1 188 L (.int y :: .int x :: S) k n H Q ↔ (if x < y then W (pj lw) 1 191 L S k n H Q else W (pj lw) 1 262 L S k n H Q) := W_icmp_ge (rfl : (pj lw).1 1 188 = some (.if_icmp .ge 74, 3, 0)) rfl
theorem w1_191 {x : Nat} : W (pj lw) 1 191 (.val (.ref x) :: L) S k n H Q ↔ W (pj lw) 1 192 (.val (.ref x) :: L) (.ref x :: S) k n H Q := W_s (rfl : (pj lw).1 1 191 = some (.aload_n 0, 1, 0)) rfl rfl rfl
theorem w1_192 {a : Nat} : W (pj lw) 1 192 L (.ref a :: S) k n H Q ↔ (isO H a = true ∧ W (pj lw) 1 195 L (fld H a 4 :: S) k n H Q) := W_getf (rfl : (pj lw).1 1 192 = some (.getfield 7, 3, 4))
theorem w1_195 {x : Int32} {l0 l1 l2 l3 l4 : Slot} : W (pj lw) 1 195 (l0 :: l1 :: l2 :: l3 :: l4 :: .val (.int x) :: L) S k n H Q ↔ W (pj lw) 1 197 (l0 :: l1 :: l2 :: l3 :: l4 :: .val (.int x) :: L) (.int x :: S) k n H Q := W_s (rfl : (pj lw).1 1 195 = some (.iload 5, 2, 0)) rfl rfl rfl
theorem w1_197 : W (pj lw) 1 197 L S k n H Q ↔ W (pj lw) 1 198 L (.int 0 :: S) k n H Q := W_s (rfl : (pj lw).1 1 197 = some (.iconst 0, 1, 0)) rfl rfl rfl
theorem w1_198 {x i : Int32} {a : Nat} : W (pj lw) 1 198 L (.int x :: .int i :: .ref a :: S) k n H Q ↔ (inAw H a .int i = true ∧ W (pj lw) 1 199 L S k n (wr H a i.toNatClampNeg (.int x)) Q) := W_iastore (rfl : (pj lw).1 1 198 = some (.iastore, 1, 0))
theorem w1_199 {x : Nat} : W (pj lw) 1 199 (.val (.ref x) :: L) S k n H Q ↔ W (pj lw) 1 200 (.val (.ref x) :: L) (.ref x :: S) k n H Q := W_s (rfl : (pj lw).1 1 199 = some (.aload_n 0, 1, 0)) rfl rfl rfl
theorem w1_200 {a : Nat} : W (pj lw) 1 200 L (.ref a :: S) k n H Q ↔ (isO H a = true ∧ W (pj lw) 1 203 L (fld H a 5 :: S) k n H Q) := W_getf (rfl : (pj lw).1 1 200 = some (.getfield 13, 3, 5))
theorem w1_203 {x : Int32} {l0 l1 l2 l3 l4 : Slot} : W (pj lw) 1 203 (l0 :: l1 :: l2 :: l3 :: l4 :: .val (.int x) :: L) S k n H Q ↔ W (pj lw) 1 205 (l0 :: l1 :: l2 :: l3 :: l4 :: .val (.int x) :: L) (.int x :: S) k n H Q := W_s (rfl : (pj lw).1 1 203 = some (.iload 5, 2, 0)) rfl rfl rfl
theorem w1_205 : W (pj lw) 1 205 L S k n H Q ↔ W (pj lw) 1 206 L (.int 0 :: S) k n H Q := W_s (rfl : (pj lw).1 1 205 = some (.iconst 0, 1, 0)) rfl rfl rfl
theorem w1_206 {x i : Int32} {a : Nat} : W (pj lw) 1 206 L (.int x :: .int i :: .ref a :: S) k n H Q ↔ (inAw H a .int i = true ∧ W (pj lw) 1 207 L S k n (wr H a i.toNatClampNeg (.int x)) Q) := W_iastore (rfl : (pj lw).1 1 206 = some (.iastore, 1, 0))
theorem w1_207 {x : Nat} : W (pj lw) 1 207 (.val (.ref x) :: L) S k n H Q ↔ W (pj lw) 1 208 (.val (.ref x) :: L) (.ref x :: S) k n H Q := W_s (rfl : (pj lw).1 1 207 = some (.aload_n 0, 1, 0)) rfl rfl rfl
theorem w1_208 {a : Nat} : W (pj lw) 1 208 L (.ref a :: S) k n H Q ↔ (isO H a = true ∧ W (pj lw) 1 211 L (fld H a 6 :: S) k n H Q) := W_getf (rfl : (pj lw).1 1 208 = some (.getfield 16, 3, 6))
theorem w1_211 {x : Int32} {l0 l1 l2 l3 l4 : Slot} : W (pj lw) 1 211 (l0 :: l1 :: l2 :: l3 :: l4 :: .val (.int x) :: L) S k n H Q ↔ W (pj lw) 1 213 (l0 :: l1 :: l2 :: l3 :: l4 :: .val (.int x) :: L) (.int x :: S) k n H Q := W_s (rfl : (pj lw).1 1 211 = some (.iload 5, 2, 0)) rfl rfl rfl
theorem w1_213 : W (pj lw) 1 213 L S k n H Q ↔ W (pj lw) 1 214 L (.int 0 :: S) k n H Q := W_s (rfl : (pj lw).1 1 213 = some (.iconst 0, 1, 0)) rfl rfl rfl
theorem w1_214 {x i : Int32} {a : Nat} : W (pj lw) 1 214 L (.int x :: .int i :: .ref a :: S) k n H Q ↔ (inAw H a .int i = true ∧ W (pj lw) 1 215 L S k n (wr H a i.toNatClampNeg (.int x)) Q) := W_iastore (rfl : (pj lw).1 1 214 = some (.iastore, 1, 0))
theorem w1_215 {x : Nat} : W (pj lw) 1 215 (.val (.ref x) :: L) S k n H Q ↔ W (pj lw) 1 216 (.val (.ref x) :: L) (.ref x :: S) k n H Q := W_s (rfl : (pj lw).1 1 215 = some (.aload_n 0, 1, 0)) rfl rfl rfl
theorem w1_216 {a : Nat} : W (pj lw) 1 216 L (.ref a :: S) k n H Q ↔ (isO H a = true ∧ W (pj lw) 1 219 L (fld H a 7 :: S) k n H Q) := W_getf (rfl : (pj lw).1 1 216 = some (.getfield 19, 3, 7))
theorem w1_219 {x : Int32} {l0 l1 l2 l3 l4 : Slot} : W (pj lw) 1 219 (l0 :: l1 :: l2 :: l3 :: l4 :: .val (.int x) :: L) S k n H Q ↔ W (pj lw) 1 221 (l0 :: l1 :: l2 :: l3 :: l4 :: .val (.int x) :: L) (.int x :: S) k n H Q := W_s (rfl : (pj lw).1 1 219 = some (.iload 5, 2, 0)) rfl rfl rfl
theorem w1_221 : W (pj lw) 1 221 L S k n H Q ↔ W (pj lw) 1 222 L (.int 0 :: S) k n H Q := W_s (rfl : (pj lw).1 1 221 = some (.iconst 0, 1, 0)) rfl rfl rfl
theorem w1_222 {x i : Int32} {a : Nat} : W (pj lw) 1 222 L (.int x :: .int i :: .ref a :: S) k n H Q ↔ (((inAw H a .byte i = true ∧ okv .byte (.int x) = true) ∨ (inAw H a .boolean i = true ∧ okv .boolean (.int x) = true)) ∧ W (pj lw) 1 223 L S k n (wr H a i.toNatClampNeg (.int x)) Q) := W_bastore (rfl : (pj lw).1 1 222 = some (.bastore, 1, 0))
theorem w1_223 {x : Nat} : W (pj lw) 1 223 (.val (.ref x) :: L) S k n H Q ↔ W (pj lw) 1 224 (.val (.ref x) :: L) (.ref x :: S) k n H Q := W_s (rfl : (pj lw).1 1 223 = some (.aload_n 0, 1, 0)) rfl rfl rfl
theorem w1_224 {a : Nat} : W (pj lw) 1 224 L (.ref a :: S) k n H Q ↔ (isO H a = true ∧ W (pj lw) 1 227 L (fld H a 8 :: S) k n H Q) := W_getf (rfl : (pj lw).1 1 224 = some (.getfield 23, 3, 8))
theorem w1_227 {x : Int32} {l0 l1 l2 l3 l4 : Slot} : W (pj lw) 1 227 (l0 :: l1 :: l2 :: l3 :: l4 :: .val (.int x) :: L) S k n H Q ↔ W (pj lw) 1 229 (l0 :: l1 :: l2 :: l3 :: l4 :: .val (.int x) :: L) (.int x :: S) k n H Q := W_s (rfl : (pj lw).1 1 227 = some (.iload 5, 2, 0)) rfl rfl rfl
theorem w1_229 : W (pj lw) 1 229 L S k n H Q ↔ W (pj lw) 1 230 L (.int 0 :: S) k n H Q := W_s (rfl : (pj lw).1 1 229 = some (.iconst 0, 1, 0)) rfl rfl rfl
theorem w1_230 {x i : Int32} {a : Nat} : W (pj lw) 1 230 L (.int x :: .int i :: .ref a :: S) k n H Q ↔ (((inAw H a .byte i = true ∧ okv .byte (.int x) = true) ∨ (inAw H a .boolean i = true ∧ okv .boolean (.int x) = true)) ∧ W (pj lw) 1 231 L S k n (wr H a i.toNatClampNeg (.int x)) Q) := W_bastore (rfl : (pj lw).1 1 230 = some (.bastore, 1, 0))
theorem w1_231 {x : Nat} : W (pj lw) 1 231 (.val (.ref x) :: L) S k n H Q ↔ W (pj lw) 1 232 (.val (.ref x) :: L) (.ref x :: S) k n H Q := W_s (rfl : (pj lw).1 1 231 = some (.aload_n 0, 1, 0)) rfl rfl rfl
theorem w1_232 {a : Nat} : W (pj lw) 1 232 L (.ref a :: S) k n H Q ↔ (isO H a = true ∧ W (pj lw) 1 235 L (fld H a 9 :: S) k n H Q) := W_getf (rfl : (pj lw).1 1 232 = some (.getfield 26, 3, 9))
theorem w1_235 {x : Int32} {l0 l1 l2 l3 l4 : Slot} : W (pj lw) 1 235 (l0 :: l1 :: l2 :: l3 :: l4 :: .val (.int x) :: L) S k n H Q ↔ W (pj lw) 1 237 (l0 :: l1 :: l2 :: l3 :: l4 :: .val (.int x) :: L) (.int x :: S) k n H Q := W_s (rfl : (pj lw).1 1 235 = some (.iload 5, 2, 0)) rfl rfl rfl
theorem w1_237 : W (pj lw) 1 237 L S k n H Q ↔ W (pj lw) 1 239 L (.int (-2) :: S) k n H Q := W_s (rfl : (pj lw).1 1 237 = some (.bipush (-2), 2, 0)) rfl rfl rfl
theorem w1_239 {x i : Int32} {a : Nat} : W (pj lw) 1 239 L (.int x :: .int i :: .ref a :: S) k n H Q ↔ (inAw H a .int i = true ∧ W (pj lw) 1 240 L S k n (wr H a i.toNatClampNeg (.int x)) Q) := W_iastore (rfl : (pj lw).1 1 239 = some (.iastore, 1, 0))
theorem w1_240 {x : Nat} : W (pj lw) 1 240 (.val (.ref x) :: L) S k n H Q ↔ W (pj lw) 1 241 (.val (.ref x) :: L) (.ref x :: S) k n H Q := W_s (rfl : (pj lw).1 1 240 = some (.aload_n 0, 1, 0)) rfl rfl rfl
theorem w1_241 {a : Nat} : W (pj lw) 1 241 L (.ref a :: S) k n H Q ↔ (isO H a = true ∧ W (pj lw) 1 244 L (fld H a 10 :: S) k n H Q) := W_getf (rfl : (pj lw).1 1 241 = some (.getfield 29, 3, 10))
theorem w1_244 {x : Int32} {l0 l1 l2 l3 l4 : Slot} : W (pj lw) 1 244 (l0 :: l1 :: l2 :: l3 :: l4 :: .val (.int x) :: L) S k n H Q ↔ W (pj lw) 1 246 (l0 :: l1 :: l2 :: l3 :: l4 :: .val (.int x) :: L) (.int x :: S) k n H Q := W_s (rfl : (pj lw).1 1 244 = some (.iload 5, 2, 0)) rfl rfl rfl
theorem w1_246 : W (pj lw) 1 246 L S k n H Q ↔ W (pj lw) 1 247 L (.int (-1) :: S) k n H Q := W_s (rfl : (pj lw).1 1 246 = some (.iconst (-1), 1, 0)) rfl rfl rfl
theorem w1_247 {x i : Int32} {a : Nat} : W (pj lw) 1 247 L (.int x :: .int i :: .ref a :: S) k n H Q ↔ (inAw H a .int i = true ∧ W (pj lw) 1 248 L S k n (wr H a i.toNatClampNeg (.int x)) Q) := W_iastore (rfl : (pj lw).1 1 247 = some (.iastore, 1, 0))
theorem w1_248 {x : Nat} : W (pj lw) 1 248 (.val (.ref x) :: L) S k n H Q ↔ W (pj lw) 1 249 (.val (.ref x) :: L) (.ref x :: S) k n H Q := W_s (rfl : (pj lw).1 1 248 = some (.aload_n 0, 1, 0)) rfl rfl rfl
theorem w1_249 {a : Nat} : W (pj lw) 1 249 L (.ref a :: S) k n H Q ↔ (isO H a = true ∧ W (pj lw) 1 252 L (fld H a 11 :: S) k n H Q) := W_getf (rfl : (pj lw).1 1 249 = some (.getfield 32, 3, 11))
theorem w1_252 {x : Int32} {l0 l1 l2 l3 l4 : Slot} : W (pj lw) 1 252 (l0 :: l1 :: l2 :: l3 :: l4 :: .val (.int x) :: L) S k n H Q ↔ W (pj lw) 1 254 (l0 :: l1 :: l2 :: l3 :: l4 :: .val (.int x) :: L) (.int x :: S) k n H Q := W_s (rfl : (pj lw).1 1 252 = some (.iload 5, 2, 0)) rfl rfl rfl
theorem w1_254 : W (pj lw) 1 254 L S k n H Q ↔ W (pj lw) 1 255 L (.int (-1) :: S) k n H Q := W_s (rfl : (pj lw).1 1 254 = some (.iconst (-1), 1, 0)) rfl rfl rfl
theorem w1_255 {x i : Int32} {a : Nat} : W (pj lw) 1 255 L (.int x :: .int i :: .ref a :: S) k n H Q ↔ (inAw H a .int i = true ∧ W (pj lw) 1 256 L S k n (wr H a i.toNatClampNeg (.int x)) Q) := W_iastore (rfl : (pj lw).1 1 255 = some (.iastore, 1, 0))
theorem w1_256 {x : Int32} {l0 l1 l2 l3 l4 : Slot} : W (pj lw) 1 256 (l0 :: l1 :: l2 :: l3 :: l4 :: .val (.int x) :: L) S k n H Q ↔ W (pj lw) 1 259 (l0 :: l1 :: l2 :: l3 :: l4 :: .val (.int (x + 1)) :: L) S k n H Q := W_s (rfl : (pj lw).1 1 256 = some (.iinc 5 1, 3, 0)) rfl rfl rfl
theorem w1_259 : W (pj lw) 1 259 L S k n H Q ↔ W (pj lw) 1 183 L S k n H Q := W_goto (rfl : (pj lw).1 1 259 = some (.goto (-76), 3, 0)) rfl
theorem w1_262 {x : Nat} : W (pj lw) 1 262 (.val (.ref x) :: L) S k n H Q ↔ W (pj lw) 1 263 (.val (.ref x) :: L) (.ref x :: S) k n H Q := W_s (rfl : (pj lw).1 1 262 = some (.aload_n 0, 1, 0)) rfl rfl rfl
theorem w1_263 : W (pj lw) 1 263 L S k n H Q ↔ W (pj lw) 1 264 L (.int 0 :: S) k n H Q := W_s (rfl : (pj lw).1 1 263 = some (.iconst 0, 1, 0)) rfl rfl rfl
theorem w1_264 {a : Nat} {v : Value} : W (pj lw) 1 264 L (v :: .ref a :: S) k n H Q ↔ ((isOw H a = true ∧ okv (.int) v = true) ∧ W (pj lw) 1 267 L S k n (wr H a 18 v) Q) := W_putf (rfl : (pj lw).1 1 264 = some (.putfield 70, 3, 18))
theorem w1_267 {x : Nat} : W (pj lw) 1 267 (.val (.ref x) :: L) S k n H Q ↔ W (pj lw) 1 268 (.val (.ref x) :: L) (.ref x :: S) k n H Q := W_s (rfl : (pj lw).1 1 267 = some (.aload_n 0, 1, 0)) rfl rfl rfl
theorem w1_268 : W (pj lw) 1 268 L S k n H Q ↔ W (pj lw) 1 269 L (.int 0 :: S) k n H Q := W_s (rfl : (pj lw).1 1 268 = some (.iconst 0, 1, 0)) rfl rfl rfl
theorem w1_269 {a : Nat} {v : Value} : W (pj lw) 1 269 L (v :: .ref a :: S) k n H Q ↔ ((isOw H a = true ∧ okv (.int) v = true) ∧ W (pj lw) 1 272 L S k n (wr H a 19 v) Q) := W_putf (rfl : (pj lw).1 1 269 = some (.putfield 73, 3, 19))
theorem w1_272 {x : Nat} : W (pj lw) 1 272 (.val (.ref x) :: L) S k n H Q ↔ W (pj lw) 1 273 (.val (.ref x) :: L) (.ref x :: S) k n H Q := W_s (rfl : (pj lw).1 1 272 = some (.aload_n 0, 1, 0)) rfl rfl rfl
theorem w1_273 : W (pj lw) 1 273 L S k n H Q ↔ W (pj lw) 1 274 L (.int 0 :: S) k n H Q := W_s (rfl : (pj lw).1 1 273 = some (.iconst 0, 1, 0)) rfl rfl rfl
theorem w1_274 {a : Nat} {v : Value} : W (pj lw) 1 274 L (v :: .ref a :: S) k n H Q ↔ ((isOw H a = true ∧ okv (.int) v = true) ∧ W (pj lw) 1 277 L S k n (wr H a 20 v) Q) := W_putf (rfl : (pj lw).1 1 274 = some (.putfield 76, 3, 20))
theorem w1_277 {x : Nat} : W (pj lw) 1 277 (.val (.ref x) :: L) S k n H Q ↔ W (pj lw) 1 278 (.val (.ref x) :: L) (.ref x :: S) k n H Q := W_s (rfl : (pj lw).1 1 277 = some (.aload_n 0, 1, 0)) rfl rfl rfl
theorem w1_278 : W (pj lw) 1 278 L S k n H Q ↔ W (pj lw) 1 279 L (.int 0 :: S) k n H Q := W_s (rfl : (pj lw).1 1 278 = some (.iconst 0, 1, 0)) rfl rfl rfl
theorem w1_279 {a : Nat} {v : Value} : W (pj lw) 1 279 L (v :: .ref a :: S) k n H Q ↔ ((isOw H a = true ∧ okv (.int) v = true) ∧ W (pj lw) 1 282 L S k n (wr H a 21 v) Q) := W_putf (rfl : (pj lw).1 1 279 = some (.putfield 79, 3, 21))
theorem w1_282 {x : Nat} : W (pj lw) 1 282 (.val (.ref x) :: L) S k n H Q ↔ W (pj lw) 1 283 (.val (.ref x) :: L) (.ref x :: S) k n H Q := W_s (rfl : (pj lw).1 1 282 = some (.aload_n 0, 1, 0)) rfl rfl rfl
theorem w1_283 : W (pj lw) 1 283 L S k n H Q ↔ W (pj lw) 1 284 L (.int 0 :: S) k n H Q := W_s (rfl : (pj lw).1 1 283 = some (.iconst 0, 1, 0)) rfl rfl rfl
theorem w1_284 {a : Nat} {v : Value} : W (pj lw) 1 284 L (v :: .ref a :: S) k n H Q ↔ ((isOw H a = true ∧ okv (.int) v = true) ∧ W (pj lw) 1 287 L S k n (wr H a 22 v) Q) := W_putf (rfl : (pj lw).1 1 284 = some (.putfield 82, 3, 22))
theorem w1_287 {x : Nat} : W (pj lw) 1 287 (.val (.ref x) :: L) S k n H Q ↔ W (pj lw) 1 288 (.val (.ref x) :: L) (.ref x :: S) k n H Q := W_s (rfl : (pj lw).1 1 287 = some (.aload_n 0, 1, 0)) rfl rfl rfl
theorem w1_288 : W (pj lw) 1 288 L S k n H Q ↔ W (pj lw) 1 289 L (.int 1 :: S) k n H Q := W_s (rfl : (pj lw).1 1 288 = some (.iconst 1, 1, 0)) rfl rfl rfl
theorem w1_289 {a : Nat} {v : Value} : W (pj lw) 1 289 L (v :: .ref a :: S) k n H Q ↔ ((isOw H a = true ∧ okv (.int) v = true) ∧ W (pj lw) 1 292 L S k n (wr H a 23 v) Q) := W_putf (rfl : (pj lw).1 1 289 = some (.putfield 85, 3, 23))
theorem w1_292 : W (pj lw) 1 292 L [] k n H Q ↔ Q none H := W_r (rfl : (pj lw).1 1 292 = some (.return_, 1, 0)) rfl
theorem c2 {x0 : Nat} {x1 : Int32} : Cl (pj lw) 2 [.ref x0, .int x1] H Q ↔ W (pj lw) 2 0 [.val (.ref x0), .val (.int x1)] [] 0 0 H Q := cl_unf rfl
theorem w2_0 {x : Nat} : W (pj lw) 2 0 (.val (.ref x) :: L) S k n H Q ↔ W (pj lw) 2 1 (.val (.ref x) :: L) (.ref x :: S) k n H Q := W_s (rfl : (pj lw).1 2 0 = some (.aload_n 0, 1, 0)) rfl rfl rfl
theorem w2_1 {x : Int32} {l0 : Slot} : W (pj lw) 2 1 (l0 :: .val (.int x) :: L) S k n H Q ↔ W (pj lw) 2 2 (l0 :: .val (.int x) :: L) (.int x :: S) k n H Q := W_s (rfl : (pj lw).1 2 1 = some (.iload_n 1, 1, 0)) rfl rfl rfl
theorem w2_2 {a : Nat} {v : Value} : W (pj lw) 2 2 L (v :: .ref a :: S) k n H Q ↔ ((isOw H a = true ∧ okv (.int) v = true) ∧ W (pj lw) 2 5 L S k n (wr H a 23 v) Q) := W_putf (rfl : (pj lw).1 2 2 = some (.putfield 85, 3, 23))
theorem w2_5 : W (pj lw) 2 5 L [] k n H Q ↔ Q none H := W_r (rfl : (pj lw).1 2 5 = some (.return_, 1, 0)) rfl
theorem c3 {x0 : Nat} {x1 : Int32} : Cl (pj lw) 3 [.ref x0, .int x1] H Q ↔ W (pj lw) 3 0 [.val (.ref x0), .val (.int x1)] [] 0 0 H Q := cl_unf rfl
theorem w3_0 {x : Nat} : W (pj lw) 3 0 (.val (.ref x) :: L) S k n H Q ↔ W (pj lw) 3 1 (.val (.ref x) :: L) (.ref x :: S) k n H Q := W_s (rfl : (pj lw).1 3 0 = some (.aload_n 0, 1, 0)) rfl rfl rfl
theorem w3_1 {x : Nat} : W (pj lw) 3 1 (.val (.ref x) :: L) S k n H Q ↔ W (pj lw) 3 2 (.val (.ref x) :: L) (.ref x :: S) k n H Q := W_s (rfl : (pj lw).1 3 1 = some (.aload_n 0, 1, 0)) rfl rfl rfl
theorem w3_2 {x : Int32} {l0 : Slot} : W (pj lw) 3 2 (l0 :: .val (.int x) :: L) S k n H Q ↔ W (pj lw) 3 3 (l0 :: .val (.int x) :: L) (.int x :: S) k n H Q := W_s (rfl : (pj lw).1 3 2 = some (.iload_n 1, 1, 0)) rfl rfl rfl
theorem w3_3 : W (pj lw) 3 3 L S k n H Q ↔ W (pj lw) 3 4 L (.int 0 :: S) k n H Q := W_s (rfl : (pj lw).1 3 3 = some (.iconst 0, 1, 0)) rfl rfl rfl
theorem w3_4 : W (pj lw) 3 4 L S k n H Q ↔ W (pj lw) 3 6 L (.int 16 :: S) k n H Q := W_s (rfl : (pj lw).1 3 4 = some (.bipush 16, 2, 0)) rfl rfl rfl
theorem w3_6 {a : Nat} {x0 : Int32} {x1 : Int32} {x2 : Int32} : W (pj lw) 3 6 L (.int x2 :: .int x1 :: .int x0 :: .ref a :: S) k n H Q ↔ ((isO H a = true ∧ cs S + (4 + 11) + 0 ≤ 16) ∧ Cl (pj lw) 17 [.ref a, .int x0, .int x1, .int x2] H (fun v H => W (pj lw) 3 9 L (v.toList ++ S) k n H Q)) := W_inst (as := [.int x0, .int x1, .int x2]) (rfl : (pj lw).1 3 6 = some (.invokevirtual 53, 3, 17)) rfl rfl rfl (Nat.le_of_ble_eq_true rfl) (Nat.le_of_ble_eq_true rfl) ⟨rfl, rfl⟩
theorem w3_9 {a : Nat} {v : Value} : W (pj lw) 3 9 L (v :: .ref a :: S) k n H Q ↔ ((isOw H a = true ∧ okv (.int) v = true) ∧ W (pj lw) 3 12 L S k n (wr H a 19 v) Q) := W_putf (rfl : (pj lw).1 3 9 = some (.putfield 73, 3, 19))
theorem w3_12 {x : Nat} : W (pj lw) 3 12 (.val (.ref x) :: L) S k n H Q ↔ W (pj lw) 3 13 (.val (.ref x) :: L) (.ref x :: S) k n H Q := W_s (rfl : (pj lw).1 3 12 = some (.aload_n 0, 1, 0)) rfl rfl rfl
theorem w3_13 {a : Nat} : W (pj lw) 3 13 L (.ref a :: S) k n H Q ↔ (isO H a = true ∧ W (pj lw) 3 16 L (fld H a 19 :: S) k n H Q) := W_getf (rfl : (pj lw).1 3 13 = some (.getfield 73, 3, 19))
theorem w3_16 {x : Int32} : W (pj lw) 3 16 L (.int x :: S) k n H Q ↔ Q (some (.int x)) H := W_r (rfl : (pj lw).1 3 16 = some (.ireturn, 1, 0)) rfl
theorem c4 {x0 : Nat} {x1 : Int32} {x2 : Int32} {x3 : Int32} : Cl (pj lw) 4 [.ref x0, .int x1, .int x2, .int x3] H Q ↔ W (pj lw) 4 0 [.val (.ref x0), .val (.int x1), .val (.int x2), .val (.int x3), .unset] [] 0 0 H Q := cl_unf rfl
theorem w4_0 {x : Nat} : W (pj lw) 4 0 (.val (.ref x) :: L) S k n H Q ↔ W (pj lw) 4 1 (.val (.ref x) :: L) (.ref x :: S) k n H Q := W_s (rfl : (pj lw).1 4 0 = some (.aload_n 0, 1, 0)) rfl rfl rfl
theorem w4_1 {x : Int32} {l0 : Slot} : W (pj lw) 4 1 (l0 :: .val (.int x) :: L) S k n H Q ↔ W (pj lw) 4 2 (l0 :: .val (.int x) :: L) (.int x :: S) k n H Q := W_s (rfl : (pj lw).1 4 1 = some (.iload_n 1, 1, 0)) rfl rfl rfl
theorem w4_2 {a : Nat} {x0 : Int32} : W (pj lw) 4 2 L (.int x0 :: .ref a :: S) k n H Q ↔ ((isO H a = true ∧ cs S + (2 + 11) + 0 ≤ 17) ∧ Cl (pj lw) 18 [.ref a, .int x0] H (fun v H => W (pj lw) 4 5 L (v.toList ++ S) k n H Q)) := W_inst (as := [.int x0]) (rfl : (pj lw).1 4 2 = some (.invokevirtual 88, 3, 18)) rfl rfl rfl (Nat.le_of_ble_eq_true rfl) (Nat.le_of_ble_eq_true rfl) ⟨rfl, rfl⟩
theorem w4_5 {x : Int32} : W (pj lw) 4 5 L (.int x :: S) k n H Q ↔ (if x = 0 then W (pj lw) 4 16 L S k n H Q else W (pj lw) 4 8 L S k n H Q) := W_if_eq (rfl : (pj lw).1 4 5 = some (.ifCond .eq 11, 3, 0)) rfl
theorem w4_8 {x : Nat} : W (pj lw) 4 8 (.val (.ref x) :: L) S k n H Q ↔ W (pj lw) 4 9 (.val (.ref x) :: L) (.ref x :: S) k n H Q := W_s (rfl : (pj lw).1 4 8 = some (.aload_n 0, 1, 0)) rfl rfl rfl
theorem w4_9 {x : Int32} {l0 l1 : Slot} : W (pj lw) 4 9 (l0 :: l1 :: .val (.int x) :: L) S k n H Q ↔ W (pj lw) 4 10 (l0 :: l1 :: .val (.int x) :: L) (.int x :: S) k n H Q := W_s (rfl : (pj lw).1 4 9 = some (.iload_n 2, 1, 0)) rfl rfl rfl
theorem w4_10 {a : Nat} {x0 : Int32} : W (pj lw) 4 10 L (.int x0 :: .ref a :: S) k n H Q ↔ ((isO H a = true ∧ cs S + (2 + 11) + 0 ≤ 17) ∧ Cl (pj lw) 18 [.ref a, .int x0] H (fun v H => W (pj lw) 4 13 L (v.toList ++ S) k n H Q)) := W_inst (as := [.int x0]) (rfl : (pj lw).1 4 10 = some (.invokevirtual 88, 3, 18)) rfl rfl rfl (Nat.le_of_ble_eq_true rfl) (Nat.le_of_ble_eq_true rfl) ⟨rfl, rfl⟩
theorem w4_13 {x : Int32} : W (pj lw) 4 13 L (.int x :: S) k n H Q ↔ (if x = 0 then W (pj lw) 4 16 L S k n H Q else W (pj lw) 4 18 L S k n H Q) := W_if_ne (rfl : (pj lw).1 4 13 = some (.ifCond .ne 5, 3, 0)) rfl
theorem w4_16 : W (pj lw) 4 16 L S k n H Q ↔ W (pj lw) 4 17 L (.int (-1) :: S) k n H Q := W_s (rfl : (pj lw).1 4 16 = some (.iconst (-1), 1, 0)) rfl rfl rfl
theorem w4_17 {x : Int32} : W (pj lw) 4 17 L (.int x :: S) k n H Q ↔ Q (some (.int x)) H := W_r (rfl : (pj lw).1 4 17 = some (.ireturn, 1, 0)) rfl
theorem w4_18 {x : Int32} {l0 : Slot} : W (pj lw) 4 18 (l0 :: .val (.int x) :: L) S k n H Q ↔ W (pj lw) 4 19 (l0 :: .val (.int x) :: L) (.int x :: S) k n H Q := W_s (rfl : (pj lw).1 4 18 = some (.iload_n 1, 1, 0)) rfl rfl rfl
theorem w4_19 {x : Int32} {l0 l1 : Slot} : W (pj lw) 4 19 (l0 :: l1 :: .val (.int x) :: L) S k n H Q ↔ W (pj lw) 4 20 (l0 :: l1 :: .val (.int x) :: L) (.int x :: S) k n H Q := W_s (rfl : (pj lw).1 4 19 = some (.iload_n 2, 1, 0)) rfl rfl rfl
theorem w4_20 {x y : Int32} : W (pj lw) 4 20 L (.int y :: .int x :: S) k n H Q ↔ (if x = y then W (pj lw) 4 23 L S k n H Q else W (pj lw) 4 25 L S k n H Q) := W_icmp_ne (rfl : (pj lw).1 4 20 = some (.if_icmp .ne 5, 3, 0)) rfl
theorem w4_23 : W (pj lw) 4 23 L S k n H Q ↔ W (pj lw) 4 24 L (.int (-1) :: S) k n H Q := W_s (rfl : (pj lw).1 4 23 = some (.iconst (-1), 1, 0)) rfl rfl rfl
theorem w4_24 {x : Int32} : W (pj lw) 4 24 L (.int x :: S) k n H Q ↔ Q (some (.int x)) H := W_r (rfl : (pj lw).1 4 24 = some (.ireturn, 1, 0)) rfl
theorem w4_25 {x : Int32} {l0 l1 l2 : Slot} : W (pj lw) 4 25 (l0 :: l1 :: l2 :: .val (.int x) :: L) S k n H Q ↔ W (pj lw) 4 26 (l0 :: l1 :: l2 :: .val (.int x) :: L) (.int x :: S) k n H Q := W_s (rfl : (pj lw).1 4 25 = some (.iload_n 3, 1, 0)) rfl rfl rfl
theorem w4_26 : W (pj lw) 4 26 L S k n H Q ↔ W (pj lw) 4 27 L (.int 1 :: S) k n H Q := W_s (rfl : (pj lw).1 4 26 = some (.iconst 1, 1, 0)) rfl rfl rfl
theorem w4_27 {x y : Int32} : W (pj lw) 4 27 L (.int y :: .int x :: S) k n H Q ↔ (if x < y then W (pj lw) 4 37 L S k n H Q else W (pj lw) 4 30 L S k n H Q) := W_icmp_lt (rfl : (pj lw).1 4 27 = some (.if_icmp .lt 10, 3, 0)) rfl
theorem w4_30 {x : Int32} {l0 l1 l2 : Slot} : W (pj lw) 4 30 (l0 :: l1 :: l2 :: .val (.int x) :: L) S k n H Q ↔ W (pj lw) 4 31 (l0 :: l1 :: l2 :: .val (.int x) :: L) (.int x :: S) k n H Q := W_s (rfl : (pj lw).1 4 30 = some (.iload_n 3, 1, 0)) rfl rfl rfl
theorem w4_31 : W (pj lw) 4 31 L S k n H Q ↔ W (pj lw) 4 34 L (.int 1000 :: S) k n H Q := W_s (rfl : (pj lw).1 4 31 = some (.sipush 1000, 3, 0)) rfl rfl rfl
theorem w4_34 {x y : Int32} : W (pj lw) 4 34 L (.int y :: .int x :: S) k n H Q ↔ (if y < x then W (pj lw) 4 37 L S k n H Q else W (pj lw) 4 39 L S k n H Q) := W_icmp_le (rfl : (pj lw).1 4 34 = some (.if_icmp .le 5, 3, 0)) rfl
theorem w4_37 : W (pj lw) 4 37 L S k n H Q ↔ W (pj lw) 4 38 L (.int (-1) :: S) k n H Q := W_s (rfl : (pj lw).1 4 37 = some (.iconst (-1), 1, 0)) rfl rfl rfl
theorem w4_38 {x : Int32} : W (pj lw) 4 38 L (.int x :: S) k n H Q ↔ Q (some (.int x)) H := W_r (rfl : (pj lw).1 4 38 = some (.ireturn, 1, 0)) rfl
theorem w4_39 {x : Nat} : W (pj lw) 4 39 (.val (.ref x) :: L) S k n H Q ↔ W (pj lw) 4 40 (.val (.ref x) :: L) (.ref x :: S) k n H Q := W_s (rfl : (pj lw).1 4 39 = some (.aload_n 0, 1, 0)) rfl rfl rfl
theorem w4_40 {x : Int32} {l0 : Slot} : W (pj lw) 4 40 (l0 :: .val (.int x) :: L) S k n H Q ↔ W (pj lw) 4 41 (l0 :: .val (.int x) :: L) (.int x :: S) k n H Q := W_s (rfl : (pj lw).1 4 40 = some (.iload_n 1, 1, 0)) rfl rfl rfl
theorem w4_41 {x : Int32} {l0 l1 : Slot} : W (pj lw) 4 41 (l0 :: l1 :: .val (.int x) :: L) S k n H Q ↔ W (pj lw) 4 42 (l0 :: l1 :: .val (.int x) :: L) (.int x :: S) k n H Q := W_s (rfl : (pj lw).1 4 41 = some (.iload_n 2, 1, 0)) rfl rfl rfl
theorem w4_42 {a : Nat} {x0 : Int32} {x1 : Int32} : W (pj lw) 4 42 L (.int x1 :: .int x0 :: .ref a :: S) k n H Q ↔ ((isO H a = true ∧ cs S + (6 + 11) + 0 ≤ 17) ∧ Cl (pj lw) 20 [.ref a, .int x0, .int x1] H (fun v H => W (pj lw) 4 45 L (v.toList ++ S) k n H Q)) := W_inst (as := [.int x0, .int x1]) (rfl : (pj lw).1 4 42 = some (.invokevirtual 92, 3, 20)) rfl rfl rfl (Nat.le_of_ble_eq_true rfl) (Nat.le_of_ble_eq_true rfl) ⟨rfl, rfl⟩
theorem w4_45 {x : Int32} : W (pj lw) 4 45 L (.int x :: S) k n H Q ↔ (if x = 0 then W (pj lw) 4 50 L S k n H Q else W (pj lw) 4 48 L S k n H Q) := W_if_eq (rfl : (pj lw).1 4 45 = some (.ifCond .eq 5, 3, 0)) rfl
theorem w4_48 : W (pj lw) 4 48 L S k n H Q ↔ W (pj lw) 4 49 L (.int (-1) :: S) k n H Q := W_s (rfl : (pj lw).1 4 48 = some (.iconst (-1), 1, 0)) rfl rfl rfl
theorem w4_49 {x : Int32} : W (pj lw) 4 49 L (.int x :: S) k n H Q ↔ Q (some (.int x)) H := W_r (rfl : (pj lw).1 4 49 = some (.ireturn, 1, 0)) rfl
theorem w4_50 {x : Nat} : W (pj lw) 4 50 (.val (.ref x) :: L) S k n H Q ↔ W (pj lw) 4 51 (.val (.ref x) :: L) (.ref x :: S) k n H Q := W_s (rfl : (pj lw).1 4 50 = some (.aload_n 0, 1, 0)) rfl rfl rfl
theorem w4_51 {a : Nat} : W (pj lw) 4 51 L (.ref a :: S) k n H Q ↔ (isO H a = true ∧ W (pj lw) 4 54 L (fld H a 18 :: S) k n H Q) := W_getf (rfl : (pj lw).1 4 51 = some (.getfield 70, 3, 18))
theorem w4_54 : W (pj lw) 4 54 L S k n H Q ↔ W (pj lw) 4 57 L (.int 256 :: S) k n H Q := W_s (rfl : (pj lw).1 4 54 = some (.sipush 256, 3, 0)) rfl rfl rfl
theorem w4_57 {x y : Int32} : W (pj lw) 4 57 L (.int y :: .int x :: S) k n H Q ↔ (if x < y then W (pj lw) 4 62 L S k n H Q else W (pj lw) 4 60 L S k n H Q) := W_icmp_lt (rfl : (pj lw).1 4 57 = some (.if_icmp .lt 5, 3, 0)) rfl
theorem w4_60 : W (pj lw) 4 60 L S k n H Q ↔ W (pj lw) 4 61 L (.int (-1) :: S) k n H Q := W_s (rfl : (pj lw).1 4 60 = some (.iconst (-1), 1, 0)) rfl rfl rfl
theorem w4_61 {x : Int32} : W (pj lw) 4 61 L (.int x :: S) k n H Q ↔ Q (some (.int x)) H := W_r (rfl : (pj lw).1 4 61 = some (.ireturn, 1, 0)) rfl
theorem w4_62 {x : Nat} : W (pj lw) 4 62 (.val (.ref x) :: L) S k n H Q ↔ W (pj lw) 4 63 (.val (.ref x) :: L) (.ref x :: S) k n H Q := W_s (rfl : (pj lw).1 4 62 = some (.aload_n 0, 1, 0)) rfl rfl rfl
theorem w4_63 {a : Nat} : W (pj lw) 4 63 L (.ref a :: S) k n H Q ↔ (isO H a = true ∧ W (pj lw) 4 66 L (fld H a 18 :: S) k n H Q) := W_getf (rfl : (pj lw).1 4 63 = some (.getfield 70, 3, 18))
theorem w4_66 {x : Int32} {l0 l1 l2 l3 : Slot} : W (pj lw) 4 66 (l0 :: l1 :: l2 :: l3 :: .unset :: L) (.int x :: S) k n H Q ↔ W (pj lw) 4 68 (l0 :: l1 :: l2 :: l3 :: .val (.int x) :: L) S k n H Q := W_ist (rfl : (pj lw).1 4 66 = some (.istore 4, 2, 0)) rfl rfl
theorem w4_68 {x : Nat} : W (pj lw) 4 68 (.val (.ref x) :: L) S k n H Q ↔ W (pj lw) 4 69 (.val (.ref x) :: L) (.ref x :: S) k n H Q := W_s (rfl : (pj lw).1 4 68 = some (.aload_n 0, 1, 0)) rfl rfl rfl
theorem w4_69 {a : Nat} : W (pj lw) 4 69 L (.ref a :: S) k n H Q ↔ (isO H a = true ∧ W (pj lw) 4 72 L (fld H a 15 :: S) k n H Q) := W_getf (rfl : (pj lw).1 4 69 = some (.getfield 44, 3, 15))
theorem w4_72 {x : Int32} {l0 l1 l2 l3 : Slot} : W (pj lw) 4 72 (l0 :: l1 :: l2 :: l3 :: .val (.int x) :: L) S k n H Q ↔ W (pj lw) 4 74 (l0 :: l1 :: l2 :: l3 :: .val (.int x) :: L) (.int x :: S) k n H Q := W_s (rfl : (pj lw).1 4 72 = some (.iload 4, 2, 0)) rfl rfl rfl
theorem w4_74 {x : Int32} {l0 : Slot} : W (pj lw) 4 74 (l0 :: .val (.int x) :: L) S k n H Q ↔ W (pj lw) 4 75 (l0 :: .val (.int x) :: L) (.int x :: S) k n H Q := W_s (rfl : (pj lw).1 4 74 = some (.iload_n 1, 1, 0)) rfl rfl rfl
theorem w4_75 {x i : Int32} {a : Nat} : W (pj lw) 4 75 L (.int x :: .int i :: .ref a :: S) k n H Q ↔ (inAw H a .int i = true ∧ W (pj lw) 4 76 L S k n (wr H a i.toNatClampNeg (.int x)) Q) := W_iastore (rfl : (pj lw).1 4 75 = some (.iastore, 1, 0))
theorem w4_76 {x : Nat} : W (pj lw) 4 76 (.val (.ref x) :: L) S k n H Q ↔ W (pj lw) 4 77 (.val (.ref x) :: L) (.ref x :: S) k n H Q := W_s (rfl : (pj lw).1 4 76 = some (.aload_n 0, 1, 0)) rfl rfl rfl
theorem w4_77 {a : Nat} : W (pj lw) 4 77 L (.ref a :: S) k n H Q ↔ (isO H a = true ∧ W (pj lw) 4 80 L (fld H a 16 :: S) k n H Q) := W_getf (rfl : (pj lw).1 4 77 = some (.getfield 47, 3, 16))
theorem w4_80 {x : Int32} {l0 l1 l2 l3 : Slot} : W (pj lw) 4 80 (l0 :: l1 :: l2 :: l3 :: .val (.int x) :: L) S k n H Q ↔ W (pj lw) 4 82 (l0 :: l1 :: l2 :: l3 :: .val (.int x) :: L) (.int x :: S) k n H Q := W_s (rfl : (pj lw).1 4 80 = some (.iload 4, 2, 0)) rfl rfl rfl
theorem w4_82 {x : Int32} {l0 l1 : Slot} : W (pj lw) 4 82 (l0 :: l1 :: .val (.int x) :: L) S k n H Q ↔ W (pj lw) 4 83 (l0 :: l1 :: .val (.int x) :: L) (.int x :: S) k n H Q := W_s (rfl : (pj lw).1 4 82 = some (.iload_n 2, 1, 0)) rfl rfl rfl
theorem w4_83 {x i : Int32} {a : Nat} : W (pj lw) 4 83 L (.int x :: .int i :: .ref a :: S) k n H Q ↔ (inAw H a .int i = true ∧ W (pj lw) 4 84 L S k n (wr H a i.toNatClampNeg (.int x)) Q) := W_iastore (rfl : (pj lw).1 4 83 = some (.iastore, 1, 0))
theorem w4_84 {x : Nat} : W (pj lw) 4 84 (.val (.ref x) :: L) S k n H Q ↔ W (pj lw) 4 85 (.val (.ref x) :: L) (.ref x :: S) k n H Q := W_s (rfl : (pj lw).1 4 84 = some (.aload_n 0, 1, 0)) rfl rfl rfl
theorem w4_85 {a : Nat} : W (pj lw) 4 85 L (.ref a :: S) k n H Q ↔ (isO H a = true ∧ W (pj lw) 4 88 L (fld H a 17 :: S) k n H Q) := W_getf (rfl : (pj lw).1 4 85 = some (.getfield 50, 3, 17))
theorem w4_88 {x : Int32} {l0 l1 l2 l3 : Slot} : W (pj lw) 4 88 (l0 :: l1 :: l2 :: l3 :: .val (.int x) :: L) S k n H Q ↔ W (pj lw) 4 90 (l0 :: l1 :: l2 :: l3 :: .val (.int x) :: L) (.int x :: S) k n H Q := W_s (rfl : (pj lw).1 4 88 = some (.iload 4, 2, 0)) rfl rfl rfl
theorem w4_90 {x : Int32} {l0 l1 l2 : Slot} : W (pj lw) 4 90 (l0 :: l1 :: l2 :: .val (.int x) :: L) S k n H Q ↔ W (pj lw) 4 91 (l0 :: l1 :: l2 :: .val (.int x) :: L) (.int x :: S) k n H Q := W_s (rfl : (pj lw).1 4 90 = some (.iload_n 3, 1, 0)) rfl rfl rfl
theorem w4_91 {x i : Int32} {a : Nat} : W (pj lw) 4 91 L (.int x :: .int i :: .ref a :: S) k n H Q ↔ (inAw H a .int i = true ∧ W (pj lw) 4 92 L S k n (wr H a i.toNatClampNeg (.int x)) Q) := W_iastore (rfl : (pj lw).1 4 91 = some (.iastore, 1, 0))
theorem w4_92 {x : Nat} : W (pj lw) 4 92 (.val (.ref x) :: L) S k n H Q ↔ W (pj lw) 4 93 (.val (.ref x) :: L) (.ref x :: S) k n H Q := W_s (rfl : (pj lw).1 4 92 = some (.aload_n 0, 1, 0)) rfl rfl rfl
theorem w4_93 {x : Int32} {l0 l1 l2 l3 : Slot} : W (pj lw) 4 93 (l0 :: l1 :: l2 :: l3 :: .val (.int x) :: L) S k n H Q ↔ W (pj lw) 4 95 (l0 :: l1 :: l2 :: l3 :: .val (.int x) :: L) (.int x :: S) k n H Q := W_s (rfl : (pj lw).1 4 93 = some (.iload 4, 2, 0)) rfl rfl rfl
theorem w4_95 : W (pj lw) 4 95 L S k n H Q ↔ W (pj lw) 4 96 L (.int 1 :: S) k n H Q := W_s (rfl : (pj lw).1 4 95 = some (.iconst 1, 1, 0)) rfl rfl rfl
theorem w4_96 {x y : Int32} : W (pj lw) 4 96 L (.int y :: .int x :: S) k n H Q ↔ W (pj lw) 4 97 L (.int (x + y) :: S) k n H Q := W_s (rfl : (pj lw).1 4 96 = some (.iadd, 1, 0)) rfl rfl rfl
theorem w4_97 {a : Nat} {v : Value} : W (pj lw) 4 97 L (v :: .ref a :: S) k n H Q ↔ ((isOw H a = true ∧ okv (.int) v = true) ∧ W (pj lw) 4 100 L S k n (wr H a 18 v) Q) := W_putf (rfl : (pj lw).1 4 97 = some (.putfield 70, 3, 18))
theorem w4_100 {x : Int32} {l0 l1 l2 l3 : Slot} : W (pj lw) 4 100 (l0 :: l1 :: l2 :: l3 :: .val (.int x) :: L) S k n H Q ↔ W (pj lw) 4 102 (l0 :: l1 :: l2 :: l3 :: .val (.int x) :: L) (.int x :: S) k n H Q := W_s (rfl : (pj lw).1 4 100 = some (.iload 4, 2, 0)) rfl rfl rfl
theorem w4_102 {x : Int32} : W (pj lw) 4 102 L (.int x :: S) k n H Q ↔ Q (some (.int x)) H := W_r (rfl : (pj lw).1 4 102 = some (.ireturn, 1, 0)) rfl
theorem c5 {x0 : Nat} {x1 : Int32} : Cl (pj lw) 5 [.ref x0, .int x1] H Q ↔ W (pj lw) 5 0 [.val (.ref x0), .val (.int x1)] [] 0 0 H Q := cl_unf rfl
theorem w5_0 {x : Nat} : W (pj lw) 5 0 (.val (.ref x) :: L) S k n H Q ↔ W (pj lw) 5 1 (.val (.ref x) :: L) (.ref x :: S) k n H Q := W_s (rfl : (pj lw).1 5 0 = some (.aload_n 0, 1, 0)) rfl rfl rfl
theorem w5_1 {x : Int32} {l0 : Slot} : W (pj lw) 5 1 (l0 :: .val (.int x) :: L) S k n H Q ↔ W (pj lw) 5 2 (l0 :: .val (.int x) :: L) (.int x :: S) k n H Q := W_s (rfl : (pj lw).1 5 1 = some (.iload_n 1, 1, 0)) rfl rfl rfl
theorem w5_2 {a : Nat} {x0 : Int32} : W (pj lw) 5 2 L (.int x0 :: .ref a :: S) k n H Q ↔ ((isO H a = true ∧ cs S + (2 + 11) + 0 ≤ 13) ∧ Cl (pj lw) 18 [.ref a, .int x0] H (fun v H => W (pj lw) 5 5 L (v.toList ++ S) k n H Q)) := W_inst (as := [.int x0]) (rfl : (pj lw).1 5 2 = some (.invokevirtual 88, 3, 18)) rfl rfl rfl (Nat.le_of_ble_eq_true rfl) (Nat.le_of_ble_eq_true rfl) ⟨rfl, rfl⟩
theorem w5_5 {x : Int32} : W (pj lw) 5 5 L (.int x :: S) k n H Q ↔ (if x = 0 then W (pj lw) 5 8 L S k n H Q else W (pj lw) 5 10 L S k n H Q) := W_if_ne (rfl : (pj lw).1 5 5 = some (.ifCond .ne 5, 3, 0)) rfl
theorem w5_8 : W (pj lw) 5 8 L S k n H Q ↔ W (pj lw) 5 9 L (.int 0 :: S) k n H Q := W_s (rfl : (pj lw).1 5 8 = some (.iconst 0, 1, 0)) rfl rfl rfl
theorem w5_9 {x : Int32} : W (pj lw) 5 9 L (.int x :: S) k n H Q ↔ ((x = 0 ∨ x = 1) ∧ Q (some (.int x)) H) := W_rz (rfl : (pj lw).1 5 9 = some (.ireturn, 1, 0)) rfl
theorem w5_10 {x : Nat} : W (pj lw) 5 10 (.val (.ref x) :: L) S k n H Q ↔ W (pj lw) 5 11 (.val (.ref x) :: L) (.ref x :: S) k n H Q := W_s (rfl : (pj lw).1 5 10 = some (.aload_n 0, 1, 0)) rfl rfl rfl
theorem w5_11 {a : Nat} : W (pj lw) 5 11 L (.ref a :: S) k n H Q ↔ (isO H a = true ∧ W (pj lw) 5 14 L (fld H a 4 :: S) k n H Q) := W_getf (rfl : (pj lw).1 5 11 = some (.getfield 7, 3, 4))
theorem w5_14 {x : Int32} {l0 : Slot} : W (pj lw) 5 14 (l0 :: .val (.int x) :: L) S k n H Q ↔ W (pj lw) 5 15 (l0 :: .val (.int x) :: L) (.int x :: S) k n H Q := W_s (rfl : (pj lw).1 5 14 = some (.iload_n 1, 1, 0)) rfl rfl rfl
theorem w5_15 {i : Int32} {a : Nat} : W (pj lw) 5 15 L (.int i :: .ref a :: S) k n H Q ↔ (inA H a .int i = true ∧ W (pj lw) 5 16 L (elt H a i :: S) k n H Q) := W_iaload (rfl : (pj lw).1 5 15 = some (.iaload, 1, 0))
theorem w5_16 {x : Int32} : W (pj lw) 5 16 L (.int x :: S) k n H Q ↔ (if x = 0 then W (pj lw) 5 21 L S k n H Q else W (pj lw) 5 19 L S k n H Q) := W_if_eq (rfl : (pj lw).1 5 16 = some (.ifCond .eq 5, 3, 0)) rfl
theorem w5_19 : W (pj lw) 5 19 L S k n H Q ↔ W (pj lw) 5 20 L (.int 0 :: S) k n H Q := W_s (rfl : (pj lw).1 5 19 = some (.iconst 0, 1, 0)) rfl rfl rfl
theorem w5_20 {x : Int32} : W (pj lw) 5 20 L (.int x :: S) k n H Q ↔ ((x = 0 ∨ x = 1) ∧ Q (some (.int x)) H) := W_rz (rfl : (pj lw).1 5 20 = some (.ireturn, 1, 0)) rfl
theorem w5_21 {x : Nat} : W (pj lw) 5 21 (.val (.ref x) :: L) S k n H Q ↔ W (pj lw) 5 22 (.val (.ref x) :: L) (.ref x :: S) k n H Q := W_s (rfl : (pj lw).1 5 21 = some (.aload_n 0, 1, 0)) rfl rfl rfl
theorem w5_22 {a : Nat} : W (pj lw) 5 22 L (.ref a :: S) k n H Q ↔ (isO H a = true ∧ W (pj lw) 5 25 L (fld H a 4 :: S) k n H Q) := W_getf (rfl : (pj lw).1 5 22 = some (.getfield 7, 3, 4))
theorem w5_25 {x : Int32} {l0 : Slot} : W (pj lw) 5 25 (l0 :: .val (.int x) :: L) S k n H Q ↔ W (pj lw) 5 26 (l0 :: .val (.int x) :: L) (.int x :: S) k n H Q := W_s (rfl : (pj lw).1 5 25 = some (.iload_n 1, 1, 0)) rfl rfl rfl
theorem w5_26 : W (pj lw) 5 26 L S k n H Q ↔ W (pj lw) 5 27 L (.int 2 :: S) k n H Q := W_s (rfl : (pj lw).1 5 26 = some (.iconst 2, 1, 0)) rfl rfl rfl
theorem w5_27 {x i : Int32} {a : Nat} : W (pj lw) 5 27 L (.int x :: .int i :: .ref a :: S) k n H Q ↔ (inAw H a .int i = true ∧ W (pj lw) 5 28 L S k n (wr H a i.toNatClampNeg (.int x)) Q) := W_iastore (rfl : (pj lw).1 5 27 = some (.iastore, 1, 0))
theorem w5_28 {x : Nat} : W (pj lw) 5 28 (.val (.ref x) :: L) S k n H Q ↔ W (pj lw) 5 29 (.val (.ref x) :: L) (.ref x :: S) k n H Q := W_s (rfl : (pj lw).1 5 28 = some (.aload_n 0, 1, 0)) rfl rfl rfl
theorem w5_29 {a : Nat} : W (pj lw) 5 29 L (.ref a :: S) k n H Q ↔ (isO H a = true ∧ W (pj lw) 5 32 L (fld H a 5 :: S) k n H Q) := W_getf (rfl : (pj lw).1 5 29 = some (.getfield 13, 3, 5))
theorem w5_32 {x : Int32} {l0 : Slot} : W (pj lw) 5 32 (l0 :: .val (.int x) :: L) S k n H Q ↔ W (pj lw) 5 33 (l0 :: .val (.int x) :: L) (.int x :: S) k n H Q := W_s (rfl : (pj lw).1 5 32 = some (.iload_n 1, 1, 0)) rfl rfl rfl
theorem w5_33 {x : Nat} : W (pj lw) 5 33 (.val (.ref x) :: L) S k n H Q ↔ W (pj lw) 5 34 (.val (.ref x) :: L) (.ref x :: S) k n H Q := W_s (rfl : (pj lw).1 5 33 = some (.aload_n 0, 1, 0)) rfl rfl rfl
theorem w5_34 {a : Nat} : W (pj lw) 5 34 L (.ref a :: S) k n H Q ↔ (isO H a = true ∧ W (pj lw) 5 37 L (fld H a 2 :: S) k n H Q) := W_getf (rfl : (pj lw).1 5 34 = some (.getfield 64, 3, 2))
theorem w5_37 {x i : Int32} {a : Nat} : W (pj lw) 5 37 L (.int x :: .int i :: .ref a :: S) k n H Q ↔ (inAw H a .int i = true ∧ W (pj lw) 5 38 L S k n (wr H a i.toNatClampNeg (.int x)) Q) := W_iastore (rfl : (pj lw).1 5 37 = some (.iastore, 1, 0))
theorem w5_38 {x : Nat} : W (pj lw) 5 38 (.val (.ref x) :: L) S k n H Q ↔ W (pj lw) 5 39 (.val (.ref x) :: L) (.ref x :: S) k n H Q := W_s (rfl : (pj lw).1 5 38 = some (.aload_n 0, 1, 0)) rfl rfl rfl
theorem w5_39 {a : Nat} : W (pj lw) 5 39 L (.ref a :: S) k n H Q ↔ (isO H a = true ∧ W (pj lw) 5 42 L (fld H a 9 :: S) k n H Q) := W_getf (rfl : (pj lw).1 5 39 = some (.getfield 26, 3, 9))
theorem w5_42 {x : Int32} {l0 : Slot} : W (pj lw) 5 42 (l0 :: .val (.int x) :: L) S k n H Q ↔ W (pj lw) 5 43 (l0 :: .val (.int x) :: L) (.int x :: S) k n H Q := W_s (rfl : (pj lw).1 5 42 = some (.iload_n 1, 1, 0)) rfl rfl rfl
theorem w5_43 : W (pj lw) 5 43 L S k n H Q ↔ W (pj lw) 5 44 L (.int (-1) :: S) k n H Q := W_s (rfl : (pj lw).1 5 43 = some (.iconst (-1), 1, 0)) rfl rfl rfl
theorem w5_44 {x i : Int32} {a : Nat} : W (pj lw) 5 44 L (.int x :: .int i :: .ref a :: S) k n H Q ↔ (inAw H a .int i = true ∧ W (pj lw) 5 45 L S k n (wr H a i.toNatClampNeg (.int x)) Q) := W_iastore (rfl : (pj lw).1 5 44 = some (.iastore, 1, 0))
theorem w5_45 {x : Nat} : W (pj lw) 5 45 (.val (.ref x) :: L) S k n H Q ↔ W (pj lw) 5 46 (.val (.ref x) :: L) (.ref x :: S) k n H Q := W_s (rfl : (pj lw).1 5 45 = some (.aload_n 0, 1, 0)) rfl rfl rfl
theorem w5_46 {a : Nat} : W (pj lw) 5 46 L (.ref a :: S) k n H Q ↔ (isO H a = true ∧ W (pj lw) 5 49 L (fld H a 10 :: S) k n H Q) := W_getf (rfl : (pj lw).1 5 46 = some (.getfield 29, 3, 10))
theorem w5_49 {x : Int32} {l0 : Slot} : W (pj lw) 5 49 (l0 :: .val (.int x) :: L) S k n H Q ↔ W (pj lw) 5 50 (l0 :: .val (.int x) :: L) (.int x :: S) k n H Q := W_s (rfl : (pj lw).1 5 49 = some (.iload_n 1, 1, 0)) rfl rfl rfl
theorem w5_50 {x : Nat} : W (pj lw) 5 50 (.val (.ref x) :: L) S k n H Q ↔ W (pj lw) 5 51 (.val (.ref x) :: L) (.ref x :: S) k n H Q := W_s (rfl : (pj lw).1 5 50 = some (.aload_n 0, 1, 0)) rfl rfl rfl
theorem w5_51 {a : Nat} : W (pj lw) 5 51 L (.ref a :: S) k n H Q ↔ (isO H a = true ∧ W (pj lw) 5 54 L (fld H a 22 :: S) k n H Q) := W_getf (rfl : (pj lw).1 5 51 = some (.getfield 82, 3, 22))
theorem w5_54 {x i : Int32} {a : Nat} : W (pj lw) 5 54 L (.int x :: .int i :: .ref a :: S) k n H Q ↔ (inAw H a .int i = true ∧ W (pj lw) 5 55 L S k n (wr H a i.toNatClampNeg (.int x)) Q) := W_iastore (rfl : (pj lw).1 5 54 = some (.iastore, 1, 0))
theorem w5_55 {x : Nat} : W (pj lw) 5 55 (.val (.ref x) :: L) S k n H Q ↔ W (pj lw) 5 56 (.val (.ref x) :: L) (.ref x :: S) k n H Q := W_s (rfl : (pj lw).1 5 55 = some (.aload_n 0, 1, 0)) rfl rfl rfl
theorem w5_56 {a : Nat} : W (pj lw) 5 56 L (.ref a :: S) k n H Q ↔ (isO H a = true ∧ W (pj lw) 5 59 L (fld H a 11 :: S) k n H Q) := W_getf (rfl : (pj lw).1 5 56 = some (.getfield 32, 3, 11))
theorem w5_59 {x : Int32} {l0 : Slot} : W (pj lw) 5 59 (l0 :: .val (.int x) :: L) S k n H Q ↔ W (pj lw) 5 60 (l0 :: .val (.int x) :: L) (.int x :: S) k n H Q := W_s (rfl : (pj lw).1 5 59 = some (.iload_n 1, 1, 0)) rfl rfl rfl
theorem w5_60 : W (pj lw) 5 60 L S k n H Q ↔ W (pj lw) 5 61 L (.int 0 :: S) k n H Q := W_s (rfl : (pj lw).1 5 60 = some (.iconst 0, 1, 0)) rfl rfl rfl
theorem w5_61 {x i : Int32} {a : Nat} : W (pj lw) 5 61 L (.int x :: .int i :: .ref a :: S) k n H Q ↔ (inAw H a .int i = true ∧ W (pj lw) 5 62 L S k n (wr H a i.toNatClampNeg (.int x)) Q) := W_iastore (rfl : (pj lw).1 5 61 = some (.iastore, 1, 0))
theorem w5_62 : W (pj lw) 5 62 L S k n H Q ↔ W (pj lw) 5 63 L (.int 1 :: S) k n H Q := W_s (rfl : (pj lw).1 5 62 = some (.iconst 1, 1, 0)) rfl rfl rfl
theorem w5_63 {x : Int32} : W (pj lw) 5 63 L (.int x :: S) k n H Q ↔ ((x = 0 ∨ x = 1) ∧ Q (some (.int x)) H) := W_rz (rfl : (pj lw).1 5 63 = some (.ireturn, 1, 0)) rfl
theorem c6 {x0 : Nat} {x1 : Int32} : Cl (pj lw) 6 [.ref x0, .int x1] H Q ↔ W (pj lw) 6 0 [.val (.ref x0), .val (.int x1)] [] 0 0 H Q := cl_unf rfl
theorem w6_0 {x : Nat} : W (pj lw) 6 0 (.val (.ref x) :: L) S k n H Q ↔ W (pj lw) 6 1 (.val (.ref x) :: L) (.ref x :: S) k n H Q := W_s (rfl : (pj lw).1 6 0 = some (.aload_n 0, 1, 0)) rfl rfl rfl
theorem w6_1 {x : Int32} {l0 : Slot} : W (pj lw) 6 1 (l0 :: .val (.int x) :: L) S k n H Q ↔ W (pj lw) 6 2 (l0 :: .val (.int x) :: L) (.int x :: S) k n H Q := W_s (rfl : (pj lw).1 6 1 = some (.iload_n 1, 1, 0)) rfl rfl rfl
theorem w6_2 {a : Nat} {x0 : Int32} : W (pj lw) 6 2 L (.int x0 :: .ref a :: S) k n H Q ↔ ((isO H a = true ∧ cs S + (2 + 11) + 0 ≤ 13) ∧ Cl (pj lw) 18 [.ref a, .int x0] H (fun v H => W (pj lw) 6 5 L (v.toList ++ S) k n H Q)) := W_inst (as := [.int x0]) (rfl : (pj lw).1 6 2 = some (.invokevirtual 88, 3, 18)) rfl rfl rfl (Nat.le_of_ble_eq_true rfl) (Nat.le_of_ble_eq_true rfl) ⟨rfl, rfl⟩
theorem w6_5 {x : Int32} : W (pj lw) 6 5 L (.int x :: S) k n H Q ↔ (if x = 0 then W (pj lw) 6 8 L S k n H Q else W (pj lw) 6 10 L S k n H Q) := W_if_ne (rfl : (pj lw).1 6 5 = some (.ifCond .ne 5, 3, 0)) rfl
theorem w6_8 : W (pj lw) 6 8 L S k n H Q ↔ W (pj lw) 6 9 L (.int 0 :: S) k n H Q := W_s (rfl : (pj lw).1 6 8 = some (.iconst 0, 1, 0)) rfl rfl rfl
theorem w6_9 {x : Int32} : W (pj lw) 6 9 L (.int x :: S) k n H Q ↔ ((x = 0 ∨ x = 1) ∧ Q (some (.int x)) H) := W_rz (rfl : (pj lw).1 6 9 = some (.ireturn, 1, 0)) rfl
theorem w6_10 {x : Nat} : W (pj lw) 6 10 (.val (.ref x) :: L) S k n H Q ↔ W (pj lw) 6 11 (.val (.ref x) :: L) (.ref x :: S) k n H Q := W_s (rfl : (pj lw).1 6 10 = some (.aload_n 0, 1, 0)) rfl rfl rfl
theorem w6_11 {a : Nat} : W (pj lw) 6 11 L (.ref a :: S) k n H Q ↔ (isO H a = true ∧ W (pj lw) 6 14 L (fld H a 7 :: S) k n H Q) := W_getf (rfl : (pj lw).1 6 11 = some (.getfield 19, 3, 7))
theorem w6_14 {x : Int32} {l0 : Slot} : W (pj lw) 6 14 (l0 :: .val (.int x) :: L) S k n H Q ↔ W (pj lw) 6 15 (l0 :: .val (.int x) :: L) (.int x :: S) k n H Q := W_s (rfl : (pj lw).1 6 14 = some (.iload_n 1, 1, 0)) rfl rfl rfl
theorem w6_15 {i : Int32} {a : Nat} : W (pj lw) 6 15 L (.int i :: .ref a :: S) k n H Q ↔ ((inA H a .byte i = true ∨ inA H a .boolean i = true) ∧ W (pj lw) 6 16 L (elt H a i :: S) k n H Q) := W_baload (rfl : (pj lw).1 6 15 = some (.baload, 1, 0))
theorem w6_16 {x : Int32} : W (pj lw) 6 16 L (.int x :: S) k n H Q ↔ (if x = 0 then W (pj lw) 6 19 L S k n H Q else W (pj lw) 6 28 L S k n H Q) := W_if_ne (rfl : (pj lw).1 6 16 = some (.ifCond .ne 12, 3, 0)) rfl
theorem w6_19 {x : Nat} : W (pj lw) 6 19 (.val (.ref x) :: L) S k n H Q ↔ W (pj lw) 6 20 (.val (.ref x) :: L) (.ref x :: S) k n H Q := W_s (rfl : (pj lw).1 6 19 = some (.aload_n 0, 1, 0)) rfl rfl rfl
theorem w6_20 {a : Nat} : W (pj lw) 6 20 L (.ref a :: S) k n H Q ↔ (isO H a = true ∧ W (pj lw) 6 23 L (fld H a 8 :: S) k n H Q) := W_getf (rfl : (pj lw).1 6 20 = some (.getfield 23, 3, 8))
theorem w6_23 {x : Int32} {l0 : Slot} : W (pj lw) 6 23 (l0 :: .val (.int x) :: L) S k n H Q ↔ W (pj lw) 6 24 (l0 :: .val (.int x) :: L) (.int x :: S) k n H Q := W_s (rfl : (pj lw).1 6 23 = some (.iload_n 1, 1, 0)) rfl rfl rfl
theorem w6_24 {i : Int32} {a : Nat} : W (pj lw) 6 24 L (.int i :: .ref a :: S) k n H Q ↔ ((inA H a .byte i = true ∨ inA H a .boolean i = true) ∧ W (pj lw) 6 25 L (elt H a i :: S) k n H Q) := W_baload (rfl : (pj lw).1 6 24 = some (.baload, 1, 0))
theorem w6_25 {x : Int32} : W (pj lw) 6 25 L (.int x :: S) k n H Q ↔ (if x = 0 then W (pj lw) 6 30 L S k n H Q else W (pj lw) 6 28 L S k n H Q) := W_if_eq (rfl : (pj lw).1 6 25 = some (.ifCond .eq 5, 3, 0)) rfl
theorem w6_28 : W (pj lw) 6 28 L S k n H Q ↔ W (pj lw) 6 29 L (.int 0 :: S) k n H Q := W_s (rfl : (pj lw).1 6 28 = some (.iconst 0, 1, 0)) rfl rfl rfl
theorem w6_29 {x : Int32} : W (pj lw) 6 29 L (.int x :: S) k n H Q ↔ ((x = 0 ∨ x = 1) ∧ Q (some (.int x)) H) := W_rz (rfl : (pj lw).1 6 29 = some (.ireturn, 1, 0)) rfl
theorem w6_30 {x : Nat} : W (pj lw) 6 30 (.val (.ref x) :: L) S k n H Q ↔ W (pj lw) 6 31 (.val (.ref x) :: L) (.ref x :: S) k n H Q := W_s (rfl : (pj lw).1 6 30 = some (.aload_n 0, 1, 0)) rfl rfl rfl
theorem w6_31 {a : Nat} : W (pj lw) 6 31 L (.ref a :: S) k n H Q ↔ (isO H a = true ∧ W (pj lw) 6 34 L (fld H a 8 :: S) k n H Q) := W_getf (rfl : (pj lw).1 6 31 = some (.getfield 23, 3, 8))
theorem w6_34 {x : Int32} {l0 : Slot} : W (pj lw) 6 34 (l0 :: .val (.int x) :: L) S k n H Q ↔ W (pj lw) 6 35 (l0 :: .val (.int x) :: L) (.int x :: S) k n H Q := W_s (rfl : (pj lw).1 6 34 = some (.iload_n 1, 1, 0)) rfl rfl rfl
theorem w6_35 : W (pj lw) 6 35 L S k n H Q ↔ W (pj lw) 6 36 L (.int 1 :: S) k n H Q := W_s (rfl : (pj lw).1 6 35 = some (.iconst 1, 1, 0)) rfl rfl rfl
theorem w6_36 {x i : Int32} {a : Nat} : W (pj lw) 6 36 L (.int x :: .int i :: .ref a :: S) k n H Q ↔ (((inAw H a .byte i = true ∧ okv .byte (.int x) = true) ∨ (inAw H a .boolean i = true ∧ okv .boolean (.int x) = true)) ∧ W (pj lw) 6 37 L S k n (wr H a i.toNatClampNeg (.int x)) Q) := W_bastore (rfl : (pj lw).1 6 36 = some (.bastore, 1, 0))
theorem w6_37 : W (pj lw) 6 37 L S k n H Q ↔ W (pj lw) 6 38 L (.int 1 :: S) k n H Q := W_s (rfl : (pj lw).1 6 37 = some (.iconst 1, 1, 0)) rfl rfl rfl
theorem w6_38 {x : Int32} : W (pj lw) 6 38 L (.int x :: S) k n H Q ↔ ((x = 0 ∨ x = 1) ∧ Q (some (.int x)) H) := W_rz (rfl : (pj lw).1 6 38 = some (.ireturn, 1, 0)) rfl
theorem c7 {x0 : Nat} {x1 : Int32} : Cl (pj lw) 7 [.ref x0, .int x1] H Q ↔ W (pj lw) 7 0 [.val (.ref x0), .val (.int x1), .unset, .unset] [] 0 0 H Q := cl_unf rfl
theorem w7_0 {x : Nat} : W (pj lw) 7 0 (.val (.ref x) :: L) S k n H Q ↔ W (pj lw) 7 1 (.val (.ref x) :: L) (.ref x :: S) k n H Q := W_s (rfl : (pj lw).1 7 0 = some (.aload_n 0, 1, 0)) rfl rfl rfl
theorem w7_1 {x : Int32} {l0 : Slot} : W (pj lw) 7 1 (l0 :: .val (.int x) :: L) S k n H Q ↔ W (pj lw) 7 2 (l0 :: .val (.int x) :: L) (.int x :: S) k n H Q := W_s (rfl : (pj lw).1 7 1 = some (.iload_n 1, 1, 0)) rfl rfl rfl
theorem w7_2 : W (pj lw) 7 2 L S k n H Q ↔ W (pj lw) 7 3 L (.int 0 :: S) k n H Q := W_s (rfl : (pj lw).1 7 2 = some (.iconst 0, 1, 0)) rfl rfl rfl
theorem w7_3 : W (pj lw) 7 3 L S k n H Q ↔ W (pj lw) 7 5 L (.int 8 :: S) k n H Q := W_s (rfl : (pj lw).1 7 3 = some (.bipush 8, 2, 0)) rfl rfl rfl
theorem w7_5 {a : Nat} {x0 : Int32} {x1 : Int32} {x2 : Int32} : W (pj lw) 7 5 L (.int x2 :: .int x1 :: .int x0 :: .ref a :: S) k n H Q ↔ ((isO H a = true ∧ cs S + (4 + 11) + 0 ≤ 55) ∧ Cl (pj lw) 17 [.ref a, .int x0, .int x1, .int x2] H (fun v H => W (pj lw) 7 8 L (v.toList ++ S) k n H Q)) := W_inst (as := [.int x0, .int x1, .int x2]) (rfl : (pj lw).1 7 5 = some (.invokevirtual 53, 3, 17)) rfl rfl rfl (Nat.le_of_ble_eq_true rfl) (Nat.le_of_ble_eq_true rfl) ⟨rfl, rfl⟩
theorem w7_8 {x : Int32} {l0 l1 : Slot} : W (pj lw) 7 8 (l0 :: l1 :: .unset :: L) (.int x :: S) k n H Q ↔ W (pj lw) 7 9 (l0 :: l1 :: .val (.int x) :: L) S k n H Q := W_istn (rfl : (pj lw).1 7 8 = some (.istore_n 2, 1, 0)) rfl rfl
theorem w7_9 : W (pj lw) 7 9 L S k n H Q ↔ W (pj lw) 7 10 L (.int 0 :: S) k n H Q := W_s (rfl : (pj lw).1 7 9 = some (.iconst 0, 1, 0)) rfl rfl rfl
theorem w7_10 {x : Int32} {l0 l1 l2 : Slot} : W (pj lw) 7 10 (l0 :: l1 :: l2 :: .unset :: L) (.int x :: S) k n H Q ↔ W (pj lw) 7 11 (l0 :: l1 :: l2 :: .val (.int x) :: L) S k n H Q := W_istn (rfl : (pj lw).1 7 10 = some (.istore_n 3, 1, 0)) rfl rfl
theorem w7_11 {x : Int32} {l0 l1 l2 : Slot} : W (pj lw) 7 11 (l0 :: l1 :: l2 :: .val (.int x) :: L) S k n H Q ↔ W (pj lw) 7 12 (l0 :: l1 :: l2 :: .val (.int x) :: L) (.int x :: S) k n H Q := W_s (rfl : (pj lw).1 7 11 = some (.iload_n 3, 1, 0)) rfl rfl rfl
theorem w7_12 {x : Int32} {l0 l1 : Slot} : W (pj lw) 7 12 (l0 :: l1 :: .val (.int x) :: L) S k n H Q ↔ W (pj lw) 7 13 (l0 :: l1 :: .val (.int x) :: L) (.int x :: S) k n H Q := W_s (rfl : (pj lw).1 7 12 = some (.iload_n 2, 1, 0)) rfl rfl rfl
theorem w7_13 {x y : Int32} : W (pj lw) 7 13 L (.int y :: .int x :: S) k n H Q ↔ (if x < y then W (pj lw) 7 16 L S k n H Q else W (pj lw) 7 26 L S k n H Q) := W_icmp_ge (rfl : (pj lw).1 7 13 = some (.if_icmp .ge 13, 3, 0)) rfl
theorem w7_16 {x : Nat} : W (pj lw) 7 16 (.val (.ref x) :: L) S k n H Q ↔ W (pj lw) 7 17 (.val (.ref x) :: L) (.ref x :: S) k n H Q := W_s (rfl : (pj lw).1 7 16 = some (.aload_n 0, 1, 0)) rfl rfl rfl
theorem w7_17 {a : Nat} : W (pj lw) 7 17 L (.ref a :: S) k n H Q ↔ ((isO H a = true ∧ cs S + (1 + 11) + 43 ≤ 55) ∧ Cl (pj lw) 21 [.ref a] H (fun v H => W (pj lw) 7 20 L (v.toList ++ S) k n H Q)) := W_inst (as := []) (rfl : (pj lw).1 7 17 = some (.invokevirtual 96, 3, 21)) rfl rfl rfl (Nat.le_of_ble_eq_true rfl) (Nat.le_of_ble_eq_true rfl) ⟨rfl, rfl⟩
theorem w7_20 {x : Int32} {l0 l1 l2 : Slot} : W (pj lw) 7 20 (l0 :: l1 :: l2 :: .val (.int x) :: L) S k n H Q ↔ W (pj lw) 7 23 (l0 :: l1 :: l2 :: .val (.int (x + 1)) :: L) S k n H Q := W_s (rfl : (pj lw).1 7 20 = some (.iinc 3 1, 3, 0)) rfl rfl rfl
theorem w7_23 : W (pj lw) 7 23 L S k n H Q ↔ W (pj lw) 7 11 L S k n H Q := W_goto (rfl : (pj lw).1 7 23 = some (.goto (-12), 3, 0)) rfl
theorem w7_26 {x : Nat} : W (pj lw) 7 26 (.val (.ref x) :: L) S k n H Q ↔ W (pj lw) 7 27 (.val (.ref x) :: L) (.ref x :: S) k n H Q := W_s (rfl : (pj lw).1 7 26 = some (.aload_n 0, 1, 0)) rfl rfl rfl
theorem w7_27 {a : Nat} : W (pj lw) 7 27 L (.ref a :: S) k n H Q ↔ (isO H a = true ∧ W (pj lw) 7 30 L (fld H a 22 :: S) k n H Q) := W_getf (rfl : (pj lw).1 7 27 = some (.getfield 82, 3, 22))
theorem w7_30 {x : Int32} : W (pj lw) 7 30 L (.int x :: S) k n H Q ↔ Q (some (.int x)) H := W_r (rfl : (pj lw).1 7 30 = some (.ireturn, 1, 0)) rfl
theorem c8 {x0 : Nat} {x1 : Int32} : Cl (pj lw) 8 [.ref x0, .int x1] H Q ↔ W (pj lw) 8 0 [.val (.ref x0), .val (.int x1)] [] 0 0 H Q := cl_unf rfl
theorem w8_0 {x : Nat} : W (pj lw) 8 0 (.val (.ref x) :: L) S k n H Q ↔ W (pj lw) 8 1 (.val (.ref x) :: L) (.ref x :: S) k n H Q := W_s (rfl : (pj lw).1 8 0 = some (.aload_n 0, 1, 0)) rfl rfl rfl
theorem w8_1 {x : Int32} {l0 : Slot} : W (pj lw) 8 1 (l0 :: .val (.int x) :: L) S k n H Q ↔ W (pj lw) 8 2 (l0 :: .val (.int x) :: L) (.int x :: S) k n H Q := W_s (rfl : (pj lw).1 8 1 = some (.iload_n 1, 1, 0)) rfl rfl rfl
theorem w8_2 {a : Nat} {x0 : Int32} : W (pj lw) 8 2 L (.int x0 :: .ref a :: S) k n H Q ↔ ((isO H a = true ∧ cs S + (2 + 11) + 0 ≤ 13) ∧ Cl (pj lw) 18 [.ref a, .int x0] H (fun v H => W (pj lw) 8 5 L (v.toList ++ S) k n H Q)) := W_inst (as := [.int x0]) (rfl : (pj lw).1 8 2 = some (.invokevirtual 88, 3, 18)) rfl rfl rfl (Nat.le_of_ble_eq_true rfl) (Nat.le_of_ble_eq_true rfl) ⟨rfl, rfl⟩
theorem w8_5 {x : Int32} : W (pj lw) 8 5 L (.int x :: S) k n H Q ↔ (if x = 0 then W (pj lw) 8 17 L S k n H Q else W (pj lw) 8 8 L S k n H Q) := W_if_eq (rfl : (pj lw).1 8 5 = some (.ifCond .eq 12, 3, 0)) rfl
theorem w8_8 {x : Nat} : W (pj lw) 8 8 (.val (.ref x) :: L) S k n H Q ↔ W (pj lw) 8 9 (.val (.ref x) :: L) (.ref x :: S) k n H Q := W_s (rfl : (pj lw).1 8 8 = some (.aload_n 0, 1, 0)) rfl rfl rfl
theorem w8_9 {a : Nat} : W (pj lw) 8 9 L (.ref a :: S) k n H Q ↔ (isO H a = true ∧ W (pj lw) 8 12 L (fld H a 4 :: S) k n H Q) := W_getf (rfl : (pj lw).1 8 9 = some (.getfield 7, 3, 4))
theorem w8_12 {x : Int32} {l0 : Slot} : W (pj lw) 8 12 (l0 :: .val (.int x) :: L) S k n H Q ↔ W (pj lw) 8 13 (l0 :: .val (.int x) :: L) (.int x :: S) k n H Q := W_s (rfl : (pj lw).1 8 12 = some (.iload_n 1, 1, 0)) rfl rfl rfl
theorem w8_13 {i : Int32} {a : Nat} : W (pj lw) 8 13 L (.int i :: .ref a :: S) k n H Q ↔ (inA H a .int i = true ∧ W (pj lw) 8 14 L (elt H a i :: S) k n H Q) := W_iaload (rfl : (pj lw).1 8 13 = some (.iaload, 1, 0))
theorem w8_14 : W (pj lw) 8 14 L S k n H Q ↔ W (pj lw) 8 18 L S k n H Q := W_goto (rfl : (pj lw).1 8 14 = some (.goto 4, 3, 0)) rfl
theorem w8_17 : W (pj lw) 8 17 L S k n H Q ↔ W (pj lw) 8 18 L (.int (-1) :: S) k n H Q := W_s (rfl : (pj lw).1 8 17 = some (.iconst (-1), 1, 0)) rfl rfl rfl
theorem w8_18 {x : Int32} : W (pj lw) 8 18 L (.int x :: S) k n H Q ↔ Q (some (.int x)) H := W_r (rfl : (pj lw).1 8 18 = some (.ireturn, 1, 0)) rfl
theorem c9 {x0 : Nat} {x1 : Int32} : Cl (pj lw) 9 [.ref x0, .int x1] H Q ↔ W (pj lw) 9 0 [.val (.ref x0), .val (.int x1)] [] 0 0 H Q := cl_unf rfl
theorem w9_0 {x : Nat} : W (pj lw) 9 0 (.val (.ref x) :: L) S k n H Q ↔ W (pj lw) 9 1 (.val (.ref x) :: L) (.ref x :: S) k n H Q := W_s (rfl : (pj lw).1 9 0 = some (.aload_n 0, 1, 0)) rfl rfl rfl
theorem w9_1 {x : Int32} {l0 : Slot} : W (pj lw) 9 1 (l0 :: .val (.int x) :: L) S k n H Q ↔ W (pj lw) 9 2 (l0 :: .val (.int x) :: L) (.int x :: S) k n H Q := W_s (rfl : (pj lw).1 9 1 = some (.iload_n 1, 1, 0)) rfl rfl rfl
theorem w9_2 {a : Nat} {x0 : Int32} : W (pj lw) 9 2 L (.int x0 :: .ref a :: S) k n H Q ↔ ((isO H a = true ∧ cs S + (2 + 11) + 0 ≤ 13) ∧ Cl (pj lw) 18 [.ref a, .int x0] H (fun v H => W (pj lw) 9 5 L (v.toList ++ S) k n H Q)) := W_inst (as := [.int x0]) (rfl : (pj lw).1 9 2 = some (.invokevirtual 88, 3, 18)) rfl rfl rfl (Nat.le_of_ble_eq_true rfl) (Nat.le_of_ble_eq_true rfl) ⟨rfl, rfl⟩
theorem w9_5 {x : Int32} : W (pj lw) 9 5 L (.int x :: S) k n H Q ↔ (if x = 0 then W (pj lw) 9 17 L S k n H Q else W (pj lw) 9 8 L S k n H Q) := W_if_eq (rfl : (pj lw).1 9 5 = some (.ifCond .eq 12, 3, 0)) rfl
theorem w9_8 {x : Nat} : W (pj lw) 9 8 (.val (.ref x) :: L) S k n H Q ↔ W (pj lw) 9 9 (.val (.ref x) :: L) (.ref x :: S) k n H Q := W_s (rfl : (pj lw).1 9 8 = some (.aload_n 0, 1, 0)) rfl rfl rfl
theorem w9_9 {a : Nat} : W (pj lw) 9 9 L (.ref a :: S) k n H Q ↔ (isO H a = true ∧ W (pj lw) 9 12 L (fld H a 5 :: S) k n H Q) := W_getf (rfl : (pj lw).1 9 9 = some (.getfield 13, 3, 5))
theorem w9_12 {x : Int32} {l0 : Slot} : W (pj lw) 9 12 (l0 :: .val (.int x) :: L) S k n H Q ↔ W (pj lw) 9 13 (l0 :: .val (.int x) :: L) (.int x :: S) k n H Q := W_s (rfl : (pj lw).1 9 12 = some (.iload_n 1, 1, 0)) rfl rfl rfl
theorem w9_13 {i : Int32} {a : Nat} : W (pj lw) 9 13 L (.int i :: .ref a :: S) k n H Q ↔ (inA H a .int i = true ∧ W (pj lw) 9 14 L (elt H a i :: S) k n H Q) := W_iaload (rfl : (pj lw).1 9 13 = some (.iaload, 1, 0))
theorem w9_14 : W (pj lw) 9 14 L S k n H Q ↔ W (pj lw) 9 18 L S k n H Q := W_goto (rfl : (pj lw).1 9 14 = some (.goto 4, 3, 0)) rfl
theorem w9_17 : W (pj lw) 9 17 L S k n H Q ↔ W (pj lw) 9 18 L (.int (-1) :: S) k n H Q := W_s (rfl : (pj lw).1 9 17 = some (.iconst (-1), 1, 0)) rfl rfl rfl
theorem w9_18 {x : Int32} : W (pj lw) 9 18 L (.int x :: S) k n H Q ↔ Q (some (.int x)) H := W_r (rfl : (pj lw).1 9 18 = some (.ireturn, 1, 0)) rfl
theorem c10 {x0 : Nat} {x1 : Int32} : Cl (pj lw) 10 [.ref x0, .int x1] H Q ↔ W (pj lw) 10 0 [.val (.ref x0), .val (.int x1)] [] 0 0 H Q := cl_unf rfl
theorem w10_0 {x : Nat} : W (pj lw) 10 0 (.val (.ref x) :: L) S k n H Q ↔ W (pj lw) 10 1 (.val (.ref x) :: L) (.ref x :: S) k n H Q := W_s (rfl : (pj lw).1 10 0 = some (.aload_n 0, 1, 0)) rfl rfl rfl
theorem w10_1 {x : Int32} {l0 : Slot} : W (pj lw) 10 1 (l0 :: .val (.int x) :: L) S k n H Q ↔ W (pj lw) 10 2 (l0 :: .val (.int x) :: L) (.int x :: S) k n H Q := W_s (rfl : (pj lw).1 10 1 = some (.iload_n 1, 1, 0)) rfl rfl rfl
theorem w10_2 {a : Nat} {x0 : Int32} : W (pj lw) 10 2 L (.int x0 :: .ref a :: S) k n H Q ↔ ((isO H a = true ∧ cs S + (2 + 11) + 0 ≤ 13) ∧ Cl (pj lw) 18 [.ref a, .int x0] H (fun v H => W (pj lw) 10 5 L (v.toList ++ S) k n H Q)) := W_inst (as := [.int x0]) (rfl : (pj lw).1 10 2 = some (.invokevirtual 88, 3, 18)) rfl rfl rfl (Nat.le_of_ble_eq_true rfl) (Nat.le_of_ble_eq_true rfl) ⟨rfl, rfl⟩
theorem w10_5 {x : Int32} : W (pj lw) 10 5 L (.int x :: S) k n H Q ↔ (if x = 0 then W (pj lw) 10 17 L S k n H Q else W (pj lw) 10 8 L S k n H Q) := W_if_eq (rfl : (pj lw).1 10 5 = some (.ifCond .eq 12, 3, 0)) rfl
theorem w10_8 {x : Nat} : W (pj lw) 10 8 (.val (.ref x) :: L) S k n H Q ↔ W (pj lw) 10 9 (.val (.ref x) :: L) (.ref x :: S) k n H Q := W_s (rfl : (pj lw).1 10 8 = some (.aload_n 0, 1, 0)) rfl rfl rfl
theorem w10_9 {a : Nat} : W (pj lw) 10 9 L (.ref a :: S) k n H Q ↔ (isO H a = true ∧ W (pj lw) 10 12 L (fld H a 6 :: S) k n H Q) := W_getf (rfl : (pj lw).1 10 9 = some (.getfield 16, 3, 6))
theorem w10_12 {x : Int32} {l0 : Slot} : W (pj lw) 10 12 (l0 :: .val (.int x) :: L) S k n H Q ↔ W (pj lw) 10 13 (l0 :: .val (.int x) :: L) (.int x :: S) k n H Q := W_s (rfl : (pj lw).1 10 12 = some (.iload_n 1, 1, 0)) rfl rfl rfl
theorem w10_13 {i : Int32} {a : Nat} : W (pj lw) 10 13 L (.int i :: .ref a :: S) k n H Q ↔ (inA H a .int i = true ∧ W (pj lw) 10 14 L (elt H a i :: S) k n H Q) := W_iaload (rfl : (pj lw).1 10 13 = some (.iaload, 1, 0))
theorem w10_14 : W (pj lw) 10 14 L S k n H Q ↔ W (pj lw) 10 18 L S k n H Q := W_goto (rfl : (pj lw).1 10 14 = some (.goto 4, 3, 0)) rfl
theorem w10_17 : W (pj lw) 10 17 L S k n H Q ↔ W (pj lw) 10 18 L (.int (-1) :: S) k n H Q := W_s (rfl : (pj lw).1 10 17 = some (.iconst (-1), 1, 0)) rfl rfl rfl
theorem w10_18 {x : Int32} : W (pj lw) 10 18 L (.int x :: S) k n H Q ↔ Q (some (.int x)) H := W_r (rfl : (pj lw).1 10 18 = some (.ireturn, 1, 0)) rfl
theorem c11 {x0 : Nat} {x1 : Int32} : Cl (pj lw) 11 [.ref x0, .int x1] H Q ↔ W (pj lw) 11 0 [.val (.ref x0), .val (.int x1), .unset] [] 0 0 H Q := cl_unf rfl
theorem w11_0 {x : Nat} : W (pj lw) 11 0 (.val (.ref x) :: L) S k n H Q ↔ W (pj lw) 11 1 (.val (.ref x) :: L) (.ref x :: S) k n H Q := W_s (rfl : (pj lw).1 11 0 = some (.aload_n 0, 1, 0)) rfl rfl rfl
theorem w11_1 {x : Int32} {l0 : Slot} : W (pj lw) 11 1 (l0 :: .val (.int x) :: L) S k n H Q ↔ W (pj lw) 11 2 (l0 :: .val (.int x) :: L) (.int x :: S) k n H Q := W_s (rfl : (pj lw).1 11 1 = some (.iload_n 1, 1, 0)) rfl rfl rfl
theorem w11_2 {a : Nat} {x0 : Int32} : W (pj lw) 11 2 L (.int x0 :: .ref a :: S) k n H Q ↔ ((isO H a = true ∧ cs S + (2 + 11) + 0 ≤ 13) ∧ Cl (pj lw) 18 [.ref a, .int x0] H (fun v H => W (pj lw) 11 5 L (v.toList ++ S) k n H Q)) := W_inst (as := [.int x0]) (rfl : (pj lw).1 11 2 = some (.invokevirtual 88, 3, 18)) rfl rfl rfl (Nat.le_of_ble_eq_true rfl) (Nat.le_of_ble_eq_true rfl) ⟨rfl, rfl⟩
theorem w11_5 {x : Int32} : W (pj lw) 11 5 L (.int x :: S) k n H Q ↔ (if x = 0 then W (pj lw) 11 8 L S k n H Q else W (pj lw) 11 10 L S k n H Q) := W_if_ne (rfl : (pj lw).1 11 5 = some (.ifCond .ne 5, 3, 0)) rfl
theorem w11_8 : W (pj lw) 11 8 L S k n H Q ↔ W (pj lw) 11 9 L (.int (-1) :: S) k n H Q := W_s (rfl : (pj lw).1 11 8 = some (.iconst (-1), 1, 0)) rfl rfl rfl
theorem w11_9 {x : Int32} : W (pj lw) 11 9 L (.int x :: S) k n H Q ↔ Q (some (.int x)) H := W_r (rfl : (pj lw).1 11 9 = some (.ireturn, 1, 0)) rfl
theorem w11_10 : W (pj lw) 11 10 L S k n H Q ↔ W (pj lw) 11 11 L (.int 0 :: S) k n H Q := W_s (rfl : (pj lw).1 11 10 = some (.iconst 0, 1, 0)) rfl rfl rfl
theorem w11_11 {x : Int32} {l0 l1 : Slot} : W (pj lw) 11 11 (l0 :: l1 :: .unset :: L) (.int x :: S) k n H Q ↔ W (pj lw) 11 12 (l0 :: l1 :: .val (.int x) :: L) S k n H Q := W_istn (rfl : (pj lw).1 11 11 = some (.istore_n 2, 1, 0)) rfl rfl
theorem w11_12 {x : Nat} : W (pj lw) 11 12 (.val (.ref x) :: L) S k n H Q ↔ W (pj lw) 11 13 (.val (.ref x) :: L) (.ref x :: S) k n H Q := W_s (rfl : (pj lw).1 11 12 = some (.aload_n 0, 1, 0)) rfl rfl rfl
theorem w11_13 {a : Nat} : W (pj lw) 11 13 L (.ref a :: S) k n H Q ↔ (isO H a = true ∧ W (pj lw) 11 16 L (fld H a 7 :: S) k n H Q) := W_getf (rfl : (pj lw).1 11 13 = some (.getfield 19, 3, 7))
theorem w11_16 {x : Int32} {l0 : Slot} : W (pj lw) 11 16 (l0 :: .val (.int x) :: L) S k n H Q ↔ W (pj lw) 11 17 (l0 :: .val (.int x) :: L) (.int x :: S) k n H Q := W_s (rfl : (pj lw).1 11 16 = some (.iload_n 1, 1, 0)) rfl rfl rfl
theorem w11_17 {i : Int32} {a : Nat} : W (pj lw) 11 17 L (.int i :: .ref a :: S) k n H Q ↔ ((inA H a .byte i = true ∨ inA H a .boolean i = true) ∧ W (pj lw) 11 18 L (elt H a i :: S) k n H Q) := W_baload (rfl : (pj lw).1 11 17 = some (.baload, 1, 0))
theorem w11_18 {x : Int32} : W (pj lw) 11 18 L (.int x :: S) k n H Q ↔ (if x = 0 then W (pj lw) 11 24 L S k n H Q else W (pj lw) 11 21 L S k n H Q) := W_if_eq (rfl : (pj lw).1 11 18 = some (.ifCond .eq 6, 3, 0)) rfl
theorem w11_21 {x : Int32} {l0 l1 : Slot} : W (pj lw) 11 21 (l0 :: l1 :: .val (.int x) :: L) S k n H Q ↔ W (pj lw) 11 24 (l0 :: l1 :: .val (.int (x + 1)) :: L) S k n H Q := W_s (rfl : (pj lw).1 11 21 = some (.iinc 2 1, 3, 0)) rfl rfl rfl
theorem w11_24 {x : Nat} : W (pj lw) 11 24 (.val (.ref x) :: L) S k n H Q ↔ W (pj lw) 11 25 (.val (.ref x) :: L) (.ref x :: S) k n H Q := W_s (rfl : (pj lw).1 11 24 = some (.aload_n 0, 1, 0)) rfl rfl rfl
theorem w11_25 {a : Nat} : W (pj lw) 11 25 L (.ref a :: S) k n H Q ↔ (isO H a = true ∧ W (pj lw) 11 28 L (fld H a 8 :: S) k n H Q) := W_getf (rfl : (pj lw).1 11 25 = some (.getfield 23, 3, 8))
theorem w11_28 {x : Int32} {l0 : Slot} : W (pj lw) 11 28 (l0 :: .val (.int x) :: L) S k n H Q ↔ W (pj lw) 11 29 (l0 :: .val (.int x) :: L) (.int x :: S) k n H Q := W_s (rfl : (pj lw).1 11 28 = some (.iload_n 1, 1, 0)) rfl rfl rfl
theorem w11_29 {i : Int32} {a : Nat} : W (pj lw) 11 29 L (.int i :: .ref a :: S) k n H Q ↔ ((inA H a .byte i = true ∨ inA H a .boolean i = true) ∧ W (pj lw) 11 30 L (elt H a i :: S) k n H Q) := W_baload (rfl : (pj lw).1 11 29 = some (.baload, 1, 0))
theorem w11_30 {x : Int32} : W (pj lw) 11 30 L (.int x :: S) k n H Q ↔ (if x = 0 then W (pj lw) 11 36 L S k n H Q else W (pj lw) 11 33 L S k n H Q) := W_if_eq (rfl : (pj lw).1 11 30 = some (.ifCond .eq 6, 3, 0)) rfl
theorem w11_33 {x : Int32} {l0 l1 : Slot} : W (pj lw) 11 33 (l0 :: l1 :: .val (.int x) :: L) S k n H Q ↔ W (pj lw) 11 36 (l0 :: l1 :: .val (.int (x + 2)) :: L) S k n H Q := W_s (rfl : (pj lw).1 11 33 = some (.iinc 2 2, 3, 0)) rfl rfl rfl
theorem w11_36 {x : Int32} {l0 l1 : Slot} : W (pj lw) 11 36 (l0 :: l1 :: .val (.int x) :: L) S k n H Q ↔ W (pj lw) 11 37 (l0 :: l1 :: .val (.int x) :: L) (.int x :: S) k n H Q := W_s (rfl : (pj lw).1 11 36 = some (.iload_n 2, 1, 0)) rfl rfl rfl
theorem w11_37 {x : Int32} : W (pj lw) 11 37 L (.int x :: S) k n H Q ↔ Q (some (.int x)) H := W_r (rfl : (pj lw).1 11 37 = some (.ireturn, 1, 0)) rfl
theorem c12 {x0 : Nat} {x1 : Int32} : Cl (pj lw) 12 [.ref x0, .int x1] H Q ↔ W (pj lw) 12 0 [.val (.ref x0), .val (.int x1)] [] 0 0 H Q := cl_unf rfl
theorem w12_0 {x : Nat} : W (pj lw) 12 0 (.val (.ref x) :: L) S k n H Q ↔ W (pj lw) 12 1 (.val (.ref x) :: L) (.ref x :: S) k n H Q := W_s (rfl : (pj lw).1 12 0 = some (.aload_n 0, 1, 0)) rfl rfl rfl
theorem w12_1 {x : Int32} {l0 : Slot} : W (pj lw) 12 1 (l0 :: .val (.int x) :: L) S k n H Q ↔ W (pj lw) 12 2 (l0 :: .val (.int x) :: L) (.int x :: S) k n H Q := W_s (rfl : (pj lw).1 12 1 = some (.iload_n 1, 1, 0)) rfl rfl rfl
theorem w12_2 {a : Nat} {x0 : Int32} : W (pj lw) 12 2 L (.int x0 :: .ref a :: S) k n H Q ↔ ((isO H a = true ∧ cs S + (2 + 11) + 0 ≤ 13) ∧ Cl (pj lw) 18 [.ref a, .int x0] H (fun v H => W (pj lw) 12 5 L (v.toList ++ S) k n H Q)) := W_inst (as := [.int x0]) (rfl : (pj lw).1 12 2 = some (.invokevirtual 88, 3, 18)) rfl rfl rfl (Nat.le_of_ble_eq_true rfl) (Nat.le_of_ble_eq_true rfl) ⟨rfl, rfl⟩
theorem w12_5 {x : Int32} : W (pj lw) 12 5 L (.int x :: S) k n H Q ↔ (if x = 0 then W (pj lw) 12 17 L S k n H Q else W (pj lw) 12 8 L S k n H Q) := W_if_eq (rfl : (pj lw).1 12 5 = some (.ifCond .eq 12, 3, 0)) rfl
theorem w12_8 {x : Nat} : W (pj lw) 12 8 (.val (.ref x) :: L) S k n H Q ↔ W (pj lw) 12 9 (.val (.ref x) :: L) (.ref x :: S) k n H Q := W_s (rfl : (pj lw).1 12 8 = some (.aload_n 0, 1, 0)) rfl rfl rfl
theorem w12_9 {a : Nat} : W (pj lw) 12 9 L (.ref a :: S) k n H Q ↔ (isO H a = true ∧ W (pj lw) 12 12 L (fld H a 9 :: S) k n H Q) := W_getf (rfl : (pj lw).1 12 9 = some (.getfield 26, 3, 9))
theorem w12_12 {x : Int32} {l0 : Slot} : W (pj lw) 12 12 (l0 :: .val (.int x) :: L) S k n H Q ↔ W (pj lw) 12 13 (l0 :: .val (.int x) :: L) (.int x :: S) k n H Q := W_s (rfl : (pj lw).1 12 12 = some (.iload_n 1, 1, 0)) rfl rfl rfl
theorem w12_13 {i : Int32} {a : Nat} : W (pj lw) 12 13 L (.int i :: .ref a :: S) k n H Q ↔ (inA H a .int i = true ∧ W (pj lw) 12 14 L (elt H a i :: S) k n H Q) := W_iaload (rfl : (pj lw).1 12 13 = some (.iaload, 1, 0))
theorem w12_14 : W (pj lw) 12 14 L S k n H Q ↔ W (pj lw) 12 19 L S k n H Q := W_goto (rfl : (pj lw).1 12 14 = some (.goto 5, 3, 0)) rfl
theorem w12_17 : W (pj lw) 12 17 L S k n H Q ↔ W (pj lw) 12 19 L (.int (-2) :: S) k n H Q := W_s (rfl : (pj lw).1 12 17 = some (.bipush (-2), 2, 0)) rfl rfl rfl
theorem w12_19 {x : Int32} : W (pj lw) 12 19 L (.int x :: S) k n H Q ↔ Q (some (.int x)) H := W_r (rfl : (pj lw).1 12 19 = some (.ireturn, 1, 0)) rfl
theorem c13 {x0 : Nat} {x1 : Int32} : Cl (pj lw) 13 [.ref x0, .int x1] H Q ↔ W (pj lw) 13 0 [.val (.ref x0), .val (.int x1)] [] 0 0 H Q := cl_unf rfl
theorem w13_0 {x : Nat} : W (pj lw) 13 0 (.val (.ref x) :: L) S k n H Q ↔ W (pj lw) 13 1 (.val (.ref x) :: L) (.ref x :: S) k n H Q := W_s (rfl : (pj lw).1 13 0 = some (.aload_n 0, 1, 0)) rfl rfl rfl
theorem w13_1 {x : Int32} {l0 : Slot} : W (pj lw) 13 1 (l0 :: .val (.int x) :: L) S k n H Q ↔ W (pj lw) 13 2 (l0 :: .val (.int x) :: L) (.int x :: S) k n H Q := W_s (rfl : (pj lw).1 13 1 = some (.iload_n 1, 1, 0)) rfl rfl rfl
theorem w13_2 {a : Nat} {x0 : Int32} : W (pj lw) 13 2 L (.int x0 :: .ref a :: S) k n H Q ↔ ((isO H a = true ∧ cs S + (2 + 11) + 0 ≤ 13) ∧ Cl (pj lw) 18 [.ref a, .int x0] H (fun v H => W (pj lw) 13 5 L (v.toList ++ S) k n H Q)) := W_inst (as := [.int x0]) (rfl : (pj lw).1 13 2 = some (.invokevirtual 88, 3, 18)) rfl rfl rfl (Nat.le_of_ble_eq_true rfl) (Nat.le_of_ble_eq_true rfl) ⟨rfl, rfl⟩
theorem w13_5 {x : Int32} : W (pj lw) 13 5 L (.int x :: S) k n H Q ↔ (if x = 0 then W (pj lw) 13 17 L S k n H Q else W (pj lw) 13 8 L S k n H Q) := W_if_eq (rfl : (pj lw).1 13 5 = some (.ifCond .eq 12, 3, 0)) rfl
theorem w13_8 {x : Nat} : W (pj lw) 13 8 (.val (.ref x) :: L) S k n H Q ↔ W (pj lw) 13 9 (.val (.ref x) :: L) (.ref x :: S) k n H Q := W_s (rfl : (pj lw).1 13 8 = some (.aload_n 0, 1, 0)) rfl rfl rfl
theorem w13_9 {a : Nat} : W (pj lw) 13 9 L (.ref a :: S) k n H Q ↔ (isO H a = true ∧ W (pj lw) 13 12 L (fld H a 10 :: S) k n H Q) := W_getf (rfl : (pj lw).1 13 9 = some (.getfield 29, 3, 10))
theorem w13_12 {x : Int32} {l0 : Slot} : W (pj lw) 13 12 (l0 :: .val (.int x) :: L) S k n H Q ↔ W (pj lw) 13 13 (l0 :: .val (.int x) :: L) (.int x :: S) k n H Q := W_s (rfl : (pj lw).1 13 12 = some (.iload_n 1, 1, 0)) rfl rfl rfl
theorem w13_13 {i : Int32} {a : Nat} : W (pj lw) 13 13 L (.int i :: .ref a :: S) k n H Q ↔ (inA H a .int i = true ∧ W (pj lw) 13 14 L (elt H a i :: S) k n H Q) := W_iaload (rfl : (pj lw).1 13 13 = some (.iaload, 1, 0))
theorem w13_14 : W (pj lw) 13 14 L S k n H Q ↔ W (pj lw) 13 18 L S k n H Q := W_goto (rfl : (pj lw).1 13 14 = some (.goto 4, 3, 0)) rfl
theorem w13_17 : W (pj lw) 13 17 L S k n H Q ↔ W (pj lw) 13 18 L (.int (-1) :: S) k n H Q := W_s (rfl : (pj lw).1 13 17 = some (.iconst (-1), 1, 0)) rfl rfl rfl
theorem w13_18 {x : Int32} : W (pj lw) 13 18 L (.int x :: S) k n H Q ↔ Q (some (.int x)) H := W_r (rfl : (pj lw).1 13 18 = some (.ireturn, 1, 0)) rfl
theorem c14 {x0 : Nat} {x1 : Int32} : Cl (pj lw) 14 [.ref x0, .int x1] H Q ↔ W (pj lw) 14 0 [.val (.ref x0), .val (.int x1)] [] 0 0 H Q := cl_unf rfl
theorem w14_0 {x : Nat} : W (pj lw) 14 0 (.val (.ref x) :: L) S k n H Q ↔ W (pj lw) 14 1 (.val (.ref x) :: L) (.ref x :: S) k n H Q := W_s (rfl : (pj lw).1 14 0 = some (.aload_n 0, 1, 0)) rfl rfl rfl
theorem w14_1 {x : Int32} {l0 : Slot} : W (pj lw) 14 1 (l0 :: .val (.int x) :: L) S k n H Q ↔ W (pj lw) 14 2 (l0 :: .val (.int x) :: L) (.int x :: S) k n H Q := W_s (rfl : (pj lw).1 14 1 = some (.iload_n 1, 1, 0)) rfl rfl rfl
theorem w14_2 {a : Nat} {x0 : Int32} : W (pj lw) 14 2 L (.int x0 :: .ref a :: S) k n H Q ↔ ((isO H a = true ∧ cs S + (2 + 11) + 0 ≤ 13) ∧ Cl (pj lw) 18 [.ref a, .int x0] H (fun v H => W (pj lw) 14 5 L (v.toList ++ S) k n H Q)) := W_inst (as := [.int x0]) (rfl : (pj lw).1 14 2 = some (.invokevirtual 88, 3, 18)) rfl rfl rfl (Nat.le_of_ble_eq_true rfl) (Nat.le_of_ble_eq_true rfl) ⟨rfl, rfl⟩
theorem w14_5 {x : Int32} : W (pj lw) 14 5 L (.int x :: S) k n H Q ↔ (if x = 0 then W (pj lw) 14 17 L S k n H Q else W (pj lw) 14 8 L S k n H Q) := W_if_eq (rfl : (pj lw).1 14 5 = some (.ifCond .eq 12, 3, 0)) rfl
theorem w14_8 {x : Nat} : W (pj lw) 14 8 (.val (.ref x) :: L) S k n H Q ↔ W (pj lw) 14 9 (.val (.ref x) :: L) (.ref x :: S) k n H Q := W_s (rfl : (pj lw).1 14 8 = some (.aload_n 0, 1, 0)) rfl rfl rfl
theorem w14_9 {a : Nat} : W (pj lw) 14 9 L (.ref a :: S) k n H Q ↔ (isO H a = true ∧ W (pj lw) 14 12 L (fld H a 11 :: S) k n H Q) := W_getf (rfl : (pj lw).1 14 9 = some (.getfield 32, 3, 11))
theorem w14_12 {x : Int32} {l0 : Slot} : W (pj lw) 14 12 (l0 :: .val (.int x) :: L) S k n H Q ↔ W (pj lw) 14 13 (l0 :: .val (.int x) :: L) (.int x :: S) k n H Q := W_s (rfl : (pj lw).1 14 12 = some (.iload_n 1, 1, 0)) rfl rfl rfl
theorem w14_13 {i : Int32} {a : Nat} : W (pj lw) 14 13 L (.int i :: .ref a :: S) k n H Q ↔ (inA H a .int i = true ∧ W (pj lw) 14 14 L (elt H a i :: S) k n H Q) := W_iaload (rfl : (pj lw).1 14 13 = some (.iaload, 1, 0))
theorem w14_14 : W (pj lw) 14 14 L S k n H Q ↔ W (pj lw) 14 18 L S k n H Q := W_goto (rfl : (pj lw).1 14 14 = some (.goto 4, 3, 0)) rfl
theorem w14_17 : W (pj lw) 14 17 L S k n H Q ↔ W (pj lw) 14 18 L (.int (-1) :: S) k n H Q := W_s (rfl : (pj lw).1 14 17 = some (.iconst (-1), 1, 0)) rfl rfl rfl
theorem w14_18 {x : Int32} : W (pj lw) 14 18 L (.int x :: S) k n H Q ↔ Q (some (.int x)) H := W_r (rfl : (pj lw).1 14 18 = some (.ireturn, 1, 0)) rfl
theorem c15 {x0 : Nat} {x1 : Int32} : Cl (pj lw) 15 [.ref x0, .int x1] H Q ↔ W (pj lw) 15 0 [.val (.ref x0), .val (.int x1), .unset, .unset] [] 0 0 H Q := cl_unf rfl
theorem w15_0 {x : Nat} : W (pj lw) 15 0 (.val (.ref x) :: L) S k n H Q ↔ W (pj lw) 15 1 (.val (.ref x) :: L) (.ref x :: S) k n H Q := W_s (rfl : (pj lw).1 15 0 = some (.aload_n 0, 1, 0)) rfl rfl rfl
theorem w15_1 {x : Int32} {l0 : Slot} : W (pj lw) 15 1 (l0 :: .val (.int x) :: L) S k n H Q ↔ W (pj lw) 15 2 (l0 :: .val (.int x) :: L) (.int x :: S) k n H Q := W_s (rfl : (pj lw).1 15 1 = some (.iload_n 1, 1, 0)) rfl rfl rfl
theorem w15_2 {a : Nat} {x0 : Int32} : W (pj lw) 15 2 L (.int x0 :: .ref a :: S) k n H Q ↔ ((isO H a = true ∧ cs S + (2 + 11) + 0 ≤ 13) ∧ Cl (pj lw) 18 [.ref a, .int x0] H (fun v H => W (pj lw) 15 5 L (v.toList ++ S) k n H Q)) := W_inst (as := [.int x0]) (rfl : (pj lw).1 15 2 = some (.invokevirtual 88, 3, 18)) rfl rfl rfl (Nat.le_of_ble_eq_true rfl) (Nat.le_of_ble_eq_true rfl) ⟨rfl, rfl⟩
theorem w15_5 {x : Int32} : W (pj lw) 15 5 L (.int x :: S) k n H Q ↔ (if x = 0 then W (pj lw) 15 8 L S k n H Q else W (pj lw) 15 10 L S k n H Q) := W_if_ne (rfl : (pj lw).1 15 5 = some (.ifCond .ne 5, 3, 0)) rfl
theorem w15_8 : W (pj lw) 15 8 L S k n H Q ↔ W (pj lw) 15 9 L (.int (-1) :: S) k n H Q := W_s (rfl : (pj lw).1 15 8 = some (.iconst (-1), 1, 0)) rfl rfl rfl
theorem w15_9 {x : Int32} : W (pj lw) 15 9 L (.int x :: S) k n H Q ↔ Q (some (.int x)) H := W_r (rfl : (pj lw).1 15 9 = some (.ireturn, 1, 0)) rfl
theorem w15_10 : W (pj lw) 15 10 L S k n H Q ↔ W (pj lw) 15 11 L (.int 0 :: S) k n H Q := W_s (rfl : (pj lw).1 15 10 = some (.iconst 0, 1, 0)) rfl rfl rfl
theorem w15_11 {x : Int32} {l0 l1 : Slot} : W (pj lw) 15 11 (l0 :: l1 :: .unset :: L) (.int x :: S) k n H Q ↔ W (pj lw) 15 12 (l0 :: l1 :: .val (.int x) :: L) S k n H Q := W_istn (rfl : (pj lw).1 15 11 = some (.istore_n 2, 1, 0)) rfl rfl
theorem w15_12 : W (pj lw) 15 12 L S k n H Q ↔ W (pj lw) 15 13 L (.int 0 :: S) k n H Q := W_s (rfl : (pj lw).1 15 12 = some (.iconst 0, 1, 0)) rfl rfl rfl
theorem w15_13 {x : Int32} {l0 l1 l2 : Slot} : W (pj lw) 15 13 (l0 :: l1 :: l2 :: .unset :: L) (.int x :: S) k n H Q ↔ W (pj lw) 15 14 (l0 :: l1 :: l2 :: .val (.int x) :: L) S k n H Q := W_istn (rfl : (pj lw).1 15 13 = some (.istore_n 3, 1, 0)) rfl rfl
theorem w15_14 {x : Int32} {l0 l1 l2 : Slot} : W (pj lw) 15 14 (l0 :: l1 :: l2 :: .val (.int x) :: L) S k n H Q ↔ W (pj lw) 15 15 (l0 :: l1 :: l2 :: .val (.int x) :: L) (.int x :: S) k n H Q := W_s (rfl : (pj lw).1 15 14 = some (.iload_n 3, 1, 0)) rfl rfl rfl
theorem w15_15 {x : Nat} : W (pj lw) 15 15 (.val (.ref x) :: L) S k n H Q ↔ W (pj lw) 15 16 (.val (.ref x) :: L) (.ref x :: S) k n H Q := W_s (rfl : (pj lw).1 15 15 = some (.aload_n 0, 1, 0)) rfl rfl rfl
theorem w15_16 {a : Nat} : W (pj lw) 15 16 L (.ref a :: S) k n H Q ↔ (isO H a = true ∧ W (pj lw) 15 19 L (fld H a 0 :: S) k n H Q) := W_getf (rfl : (pj lw).1 15 16 = some (.getfield 57, 3, 0))
theorem w15_19 {x y : Int32} : W (pj lw) 15 19 L (.int y :: .int x :: S) k n H Q ↔ (if x < y then W (pj lw) 15 22 L S k n H Q else W (pj lw) 15 41 L S k n H Q) := W_icmp_ge (rfl : (pj lw).1 15 19 = some (.if_icmp .ge 22, 3, 0)) rfl
theorem w15_22 {x : Nat} : W (pj lw) 15 22 (.val (.ref x) :: L) S k n H Q ↔ W (pj lw) 15 23 (.val (.ref x) :: L) (.ref x :: S) k n H Q := W_s (rfl : (pj lw).1 15 22 = some (.aload_n 0, 1, 0)) rfl rfl rfl
theorem w15_23 {a : Nat} : W (pj lw) 15 23 L (.ref a :: S) k n H Q ↔ (isO H a = true ∧ W (pj lw) 15 26 L (fld H a 9 :: S) k n H Q) := W_getf (rfl : (pj lw).1 15 23 = some (.getfield 26, 3, 9))
theorem w15_26 {x : Int32} {l0 l1 l2 : Slot} : W (pj lw) 15 26 (l0 :: l1 :: l2 :: .val (.int x) :: L) S k n H Q ↔ W (pj lw) 15 27 (l0 :: l1 :: l2 :: .val (.int x) :: L) (.int x :: S) k n H Q := W_s (rfl : (pj lw).1 15 26 = some (.iload_n 3, 1, 0)) rfl rfl rfl
theorem w15_27 {i : Int32} {a : Nat} : W (pj lw) 15 27 L (.int i :: .ref a :: S) k n H Q ↔ (inA H a .int i = true ∧ W (pj lw) 15 28 L (elt H a i :: S) k n H Q) := W_iaload (rfl : (pj lw).1 15 27 = some (.iaload, 1, 0))
theorem w15_28 {x : Int32} {l0 : Slot} : W (pj lw) 15 28 (l0 :: .val (.int x) :: L) S k n H Q ↔ W (pj lw) 15 29 (l0 :: .val (.int x) :: L) (.int x :: S) k n H Q := W_s (rfl : (pj lw).1 15 28 = some (.iload_n 1, 1, 0)) rfl rfl rfl
theorem w15_29 {x y : Int32} : W (pj lw) 15 29 L (.int y :: .int x :: S) k n H Q ↔ (if x = y then W (pj lw) 15 32 L S k n H Q else W (pj lw) 15 35 L S k n H Q) := W_icmp_ne (rfl : (pj lw).1 15 29 = some (.if_icmp .ne 6, 3, 0)) rfl
theorem w15_32 {x : Int32} {l0 l1 : Slot} : W (pj lw) 15 32 (l0 :: l1 :: .val (.int x) :: L) S k n H Q ↔ W (pj lw) 15 35 (l0 :: l1 :: .val (.int (x + 1)) :: L) S k n H Q := W_s (rfl : (pj lw).1 15 32 = some (.iinc 2 1, 3, 0)) rfl rfl rfl
theorem w15_35 {x : Int32} {l0 l1 l2 : Slot} : W (pj lw) 15 35 (l0 :: l1 :: l2 :: .val (.int x) :: L) S k n H Q ↔ W (pj lw) 15 38 (l0 :: l1 :: l2 :: .val (.int (x + 1)) :: L) S k n H Q := W_s (rfl : (pj lw).1 15 35 = some (.iinc 3 1, 3, 0)) rfl rfl rfl
theorem w15_38 : W (pj lw) 15 38 L S k n H Q ↔ W (pj lw) 15 14 L S k n H Q := W_goto (rfl : (pj lw).1 15 38 = some (.goto (-24), 3, 0)) rfl
theorem w15_41 {x : Int32} {l0 l1 : Slot} : W (pj lw) 15 41 (l0 :: l1 :: .val (.int x) :: L) S k n H Q ↔ W (pj lw) 15 42 (l0 :: l1 :: .val (.int x) :: L) (.int x :: S) k n H Q := W_s (rfl : (pj lw).1 15 41 = some (.iload_n 2, 1, 0)) rfl rfl rfl
theorem w15_42 {x : Int32} : W (pj lw) 15 42 L (.int x :: S) k n H Q ↔ Q (some (.int x)) H := W_r (rfl : (pj lw).1 15 42 = some (.ireturn, 1, 0)) rfl
theorem c16 {x0 : Nat} {x1 : Int32} : Cl (pj lw) 16 [.ref x0, .int x1] H Q ↔ W (pj lw) 16 0 [.val (.ref x0), .val (.int x1)] [] 0 0 H Q := cl_unf rfl
theorem w16_0 {x : Int32} {l0 : Slot} : W (pj lw) 16 0 (l0 :: .val (.int x) :: L) S k n H Q ↔ W (pj lw) 16 1 (l0 :: .val (.int x) :: L) (.int x :: S) k n H Q := W_s (rfl : (pj lw).1 16 0 = some (.iload_n 1, 1, 0)) rfl rfl rfl
theorem w16_1 {x : Int32} : W (pj lw) 16 1 L (.int x :: S) k n H Q ↔ (if x < 0 then W (pj lw) 16 15 L S k n H Q else W (pj lw) 16 4 L S k n H Q) := W_if_lt (rfl : (pj lw).1 16 1 = some (.ifCond .lt 14, 3, 0)) rfl
theorem w16_4 {x : Int32} {l0 : Slot} : W (pj lw) 16 4 (l0 :: .val (.int x) :: L) S k n H Q ↔ W (pj lw) 16 5 (l0 :: .val (.int x) :: L) (.int x :: S) k n H Q := W_s (rfl : (pj lw).1 16 4 = some (.iload_n 1, 1, 0)) rfl rfl rfl
theorem w16_5 : W (pj lw) 16 5 L S k n H Q ↔ W (pj lw) 16 6 L (.int 3 :: S) k n H Q := W_s (rfl : (pj lw).1 16 5 = some (.iconst 3, 1, 0)) rfl rfl rfl
theorem w16_6 {x y : Int32} : W (pj lw) 16 6 L (.int y :: .int x :: S) k n H Q ↔ (if y < x then W (pj lw) 16 15 L S k n H Q else W (pj lw) 16 9 L S k n H Q) := W_icmp_gt (rfl : (pj lw).1 16 6 = some (.if_icmp .gt 9, 3, 0)) rfl
theorem w16_9 {x : Nat} : W (pj lw) 16 9 (.val (.ref x) :: L) S k n H Q ↔ W (pj lw) 16 10 (.val (.ref x) :: L) (.ref x :: S) k n H Q := W_s (rfl : (pj lw).1 16 9 = some (.aload_n 0, 1, 0)) rfl rfl rfl
theorem w16_10 {x : Int32} {l0 : Slot} : W (pj lw) 16 10 (l0 :: .val (.int x) :: L) S k n H Q ↔ W (pj lw) 16 11 (l0 :: .val (.int x) :: L) (.int x :: S) k n H Q := W_s (rfl : (pj lw).1 16 10 = some (.iload_n 1, 1, 0)) rfl rfl rfl
theorem w16_11 {a : Nat} {x0 : Int32} : W (pj lw) 16 11 L (.int x0 :: .ref a :: S) k n H Q ↔ ((isO H a = true ∧ cs S + (4 + 11) + 0 ≤ 16) ∧ Cl (pj lw) 31 [.ref a, .int x0] H (fun v H => W (pj lw) 16 14 L (v.toList ++ S) k n H Q)) := W_inst (as := [.int x0]) (rfl : (pj lw).1 16 11 = some (.invokevirtual 99, 3, 31)) rfl rfl rfl (Nat.le_of_ble_eq_true rfl) (Nat.le_of_ble_eq_true rfl) ⟨rfl, rfl⟩
theorem w16_14 {x : Int32} : W (pj lw) 16 14 L (.int x :: S) k n H Q ↔ Q (some (.int x)) H := W_r (rfl : (pj lw).1 16 14 = some (.ireturn, 1, 0)) rfl
theorem w16_15 {x : Int32} {l0 : Slot} : W (pj lw) 16 15 (l0 :: .val (.int x) :: L) S k n H Q ↔ W (pj lw) 16 16 (l0 :: .val (.int x) :: L) (.int x :: S) k n H Q := W_s (rfl : (pj lw).1 16 15 = some (.iload_n 1, 1, 0)) rfl rfl rfl
theorem w16_16 {x : Int32} : W (pj lw) 16 16 L (.int x :: S) k n H Q ↔ (if x = 4 then W (pj lw) 16 64 L S k n H Q else (if x = 5 then W (pj lw) 16 69 L S k n H Q else (if x = 6 then W (pj lw) 16 75 L S k n H Q else (if x = 7 then W (pj lw) 16 81 L S k n H Q else (if x = 8 then W (pj lw) 16 86 L S k n H Q else (if x = 9 then W (pj lw) 16 91 L S k n H Q else (if x = 10 then W (pj lw) 16 96 L S k n H Q else (if x = 11 then W (pj lw) 16 101 L S k n H Q else W (pj lw) 16 106 L S k n H Q)))))))) := W_tsw (qs := [64, 69, 75, 81, 86, 91, 96, 101]) (rfl : (pj lw).1 16 16 = some (.tableswitch 90 4 11 #[48, 53, 59, 65, 70, 75, 80, 85], 48, 0)) rfl (by decide) (by decide)
theorem w16_64 {x : Nat} : W (pj lw) 16 64 (.val (.ref x) :: L) S k n H Q ↔ W (pj lw) 16 65 (.val (.ref x) :: L) (.ref x :: S) k n H Q := W_s (rfl : (pj lw).1 16 64 = some (.aload_n 0, 1, 0)) rfl rfl rfl
theorem w16_65 {a : Nat} : W (pj lw) 16 65 L (.ref a :: S) k n H Q ↔ ((isO H a = true ∧ cs S + (3 + 11) + 0 ≤ 16) ∧ Cl (pj lw) 32 [.ref a] H (fun v H => W (pj lw) 16 68 L (v.toList ++ S) k n H Q)) := W_inst (as := []) (rfl : (pj lw).1 16 65 = some (.invokevirtual 103, 3, 32)) rfl rfl rfl (Nat.le_of_ble_eq_true rfl) (Nat.le_of_ble_eq_true rfl) ⟨rfl, rfl⟩
theorem w16_68 {x : Int32} : W (pj lw) 16 68 L (.int x :: S) k n H Q ↔ Q (some (.int x)) H := W_r (rfl : (pj lw).1 16 68 = some (.ireturn, 1, 0)) rfl
theorem w16_69 {x : Nat} : W (pj lw) 16 69 (.val (.ref x) :: L) S k n H Q ↔ W (pj lw) 16 70 (.val (.ref x) :: L) (.ref x :: S) k n H Q := W_s (rfl : (pj lw).1 16 69 = some (.aload_n 0, 1, 0)) rfl rfl rfl
theorem w16_70 : W (pj lw) 16 70 L S k n H Q ↔ W (pj lw) 16 71 L (.int 1 :: S) k n H Q := W_s (rfl : (pj lw).1 16 70 = some (.iconst 1, 1, 0)) rfl rfl rfl
theorem w16_71 {a : Nat} {x0 : Int32} : W (pj lw) 16 71 L (.int x0 :: .ref a :: S) k n H Q ↔ ((isO H a = true ∧ cs S + (5 + 11) + 0 ≤ 16) ∧ Cl (pj lw) 33 [.ref a, .int x0] H (fun v H => W (pj lw) 16 74 L (v.toList ++ S) k n H Q)) := W_inst (as := [.int x0]) (rfl : (pj lw).1 16 71 = some (.invokevirtual 107, 3, 33)) rfl rfl rfl (Nat.le_of_ble_eq_true rfl) (Nat.le_of_ble_eq_true rfl) ⟨rfl, rfl⟩
theorem w16_74 {x : Int32} : W (pj lw) 16 74 L (.int x :: S) k n H Q ↔ Q (some (.int x)) H := W_r (rfl : (pj lw).1 16 74 = some (.ireturn, 1, 0)) rfl
theorem w16_75 {x : Nat} : W (pj lw) 16 75 (.val (.ref x) :: L) S k n H Q ↔ W (pj lw) 16 76 (.val (.ref x) :: L) (.ref x :: S) k n H Q := W_s (rfl : (pj lw).1 16 75 = some (.aload_n 0, 1, 0)) rfl rfl rfl
theorem w16_76 : W (pj lw) 16 76 L S k n H Q ↔ W (pj lw) 16 77 L (.int 0 :: S) k n H Q := W_s (rfl : (pj lw).1 16 76 = some (.iconst 0, 1, 0)) rfl rfl rfl
theorem w16_77 {a : Nat} {x0 : Int32} : W (pj lw) 16 77 L (.int x0 :: .ref a :: S) k n H Q ↔ ((isO H a = true ∧ cs S + (5 + 11) + 0 ≤ 16) ∧ Cl (pj lw) 33 [.ref a, .int x0] H (fun v H => W (pj lw) 16 80 L (v.toList ++ S) k n H Q)) := W_inst (as := [.int x0]) (rfl : (pj lw).1 16 77 = some (.invokevirtual 107, 3, 33)) rfl rfl rfl (Nat.le_of_ble_eq_true rfl) (Nat.le_of_ble_eq_true rfl) ⟨rfl, rfl⟩
theorem w16_80 {x : Int32} : W (pj lw) 16 80 L (.int x :: S) k n H Q ↔ Q (some (.int x)) H := W_r (rfl : (pj lw).1 16 80 = some (.ireturn, 1, 0)) rfl
theorem w16_81 {x : Nat} : W (pj lw) 16 81 (.val (.ref x) :: L) S k n H Q ↔ W (pj lw) 16 82 (.val (.ref x) :: L) (.ref x :: S) k n H Q := W_s (rfl : (pj lw).1 16 81 = some (.aload_n 0, 1, 0)) rfl rfl rfl
theorem w16_82 {a : Nat} : W (pj lw) 16 82 L (.ref a :: S) k n H Q ↔ (isO H a = true ∧ W (pj lw) 16 85 L (fld H a 20 :: S) k n H Q) := W_getf (rfl : (pj lw).1 16 82 = some (.getfield 76, 3, 20))
theorem w16_85 {x : Int32} : W (pj lw) 16 85 L (.int x :: S) k n H Q ↔ Q (some (.int x)) H := W_r (rfl : (pj lw).1 16 85 = some (.ireturn, 1, 0)) rfl
theorem w16_86 {x : Nat} : W (pj lw) 16 86 (.val (.ref x) :: L) S k n H Q ↔ W (pj lw) 16 87 (.val (.ref x) :: L) (.ref x :: S) k n H Q := W_s (rfl : (pj lw).1 16 86 = some (.aload_n 0, 1, 0)) rfl rfl rfl
theorem w16_87 {a : Nat} : W (pj lw) 16 87 L (.ref a :: S) k n H Q ↔ (isO H a = true ∧ W (pj lw) 16 90 L (fld H a 21 :: S) k n H Q) := W_getf (rfl : (pj lw).1 16 87 = some (.getfield 79, 3, 21))
theorem w16_90 {x : Int32} : W (pj lw) 16 90 L (.int x :: S) k n H Q ↔ Q (some (.int x)) H := W_r (rfl : (pj lw).1 16 90 = some (.ireturn, 1, 0)) rfl
theorem w16_91 {x : Nat} : W (pj lw) 16 91 (.val (.ref x) :: L) S k n H Q ↔ W (pj lw) 16 92 (.val (.ref x) :: L) (.ref x :: S) k n H Q := W_s (rfl : (pj lw).1 16 91 = some (.aload_n 0, 1, 0)) rfl rfl rfl
theorem w16_92 {a : Nat} : W (pj lw) 16 92 L (.ref a :: S) k n H Q ↔ (isO H a = true ∧ W (pj lw) 16 95 L (fld H a 18 :: S) k n H Q) := W_getf (rfl : (pj lw).1 16 92 = some (.getfield 70, 3, 18))
theorem w16_95 {x : Int32} : W (pj lw) 16 95 L (.int x :: S) k n H Q ↔ Q (some (.int x)) H := W_r (rfl : (pj lw).1 16 95 = some (.ireturn, 1, 0)) rfl
theorem w16_96 {x : Nat} : W (pj lw) 16 96 (.val (.ref x) :: L) S k n H Q ↔ W (pj lw) 16 97 (.val (.ref x) :: L) (.ref x :: S) k n H Q := W_s (rfl : (pj lw).1 16 96 = some (.aload_n 0, 1, 0)) rfl rfl rfl
theorem w16_97 {a : Nat} : W (pj lw) 16 97 L (.ref a :: S) k n H Q ↔ (isO H a = true ∧ W (pj lw) 16 100 L (fld H a 22 :: S) k n H Q) := W_getf (rfl : (pj lw).1 16 97 = some (.getfield 82, 3, 22))
theorem w16_100 {x : Int32} : W (pj lw) 16 100 L (.int x :: S) k n H Q ↔ Q (some (.int x)) H := W_r (rfl : (pj lw).1 16 100 = some (.ireturn, 1, 0)) rfl
theorem w16_101 {x : Nat} : W (pj lw) 16 101 (.val (.ref x) :: L) S k n H Q ↔ W (pj lw) 16 102 (.val (.ref x) :: L) (.ref x :: S) k n H Q := W_s (rfl : (pj lw).1 16 101 = some (.aload_n 0, 1, 0)) rfl rfl rfl
theorem w16_102 {a : Nat} : W (pj lw) 16 102 L (.ref a :: S) k n H Q ↔ ((isO H a = true ∧ cs S + (3 + 11) + 0 ≤ 16) ∧ Cl (pj lw) 34 [.ref a] H (fun v H => W (pj lw) 16 105 L (v.toList ++ S) k n H Q)) := W_inst (as := []) (rfl : (pj lw).1 16 102 = some (.invokevirtual 111, 3, 34)) rfl rfl rfl (Nat.le_of_ble_eq_true rfl) (Nat.le_of_ble_eq_true rfl) ⟨rfl, rfl⟩
theorem w16_105 {x : Int32} : W (pj lw) 16 105 L (.int x :: S) k n H Q ↔ Q (some (.int x)) H := W_r (rfl : (pj lw).1 16 105 = some (.ireturn, 1, 0)) rfl
theorem w16_106 : W (pj lw) 16 106 L S k n H Q ↔ W (pj lw) 16 107 L (.int (-1) :: S) k n H Q := W_s (rfl : (pj lw).1 16 106 = some (.iconst (-1), 1, 0)) rfl rfl rfl
theorem w16_107 {x : Int32} : W (pj lw) 16 107 L (.int x :: S) k n H Q ↔ Q (some (.int x)) H := W_r (rfl : (pj lw).1 16 107 = some (.ireturn, 1, 0)) rfl
theorem c17 {x0 : Nat} {x1 : Int32} {x2 : Int32} {x3 : Int32} : Cl (pj lw) 17 [.ref x0, .int x1, .int x2, .int x3] H Q ↔ W (pj lw) 17 0 [.val (.ref x0), .val (.int x1), .val (.int x2), .val (.int x3)] [] 0 0 H Q := cl_unf rfl
theorem w17_0 {x : Int32} {l0 : Slot} : W (pj lw) 17 0 (l0 :: .val (.int x) :: L) S k n H Q ↔ W (pj lw) 17 1 (l0 :: .val (.int x) :: L) (.int x :: S) k n H Q := W_s (rfl : (pj lw).1 17 0 = some (.iload_n 1, 1, 0)) rfl rfl rfl
theorem w17_1 {x : Int32} {l0 l1 : Slot} : W (pj lw) 17 1 (l0 :: l1 :: .val (.int x) :: L) S k n H Q ↔ W (pj lw) 17 2 (l0 :: l1 :: .val (.int x) :: L) (.int x :: S) k n H Q := W_s (rfl : (pj lw).1 17 1 = some (.iload_n 2, 1, 0)) rfl rfl rfl
theorem w17_2 {x y : Int32} : W (pj lw) 17 2 L (.int y :: .int x :: S) k n H Q ↔ (if x < y then W (pj lw) 17 5 L S k n H Q else W (pj lw) 17 7 L S k n H Q) := W_icmp_ge (rfl : (pj lw).1 17 2 = some (.if_icmp .ge 5, 3, 0)) rfl
theorem w17_5 {x : Int32} {l0 l1 : Slot} : W (pj lw) 17 5 (l0 :: l1 :: .val (.int x) :: L) S k n H Q ↔ W (pj lw) 17 6 (l0 :: l1 :: .val (.int x) :: L) (.int x :: S) k n H Q := W_s (rfl : (pj lw).1 17 5 = some (.iload_n 2, 1, 0)) rfl rfl rfl
theorem w17_6 {x : Int32} : W (pj lw) 17 6 L (.int x :: S) k n H Q ↔ Q (some (.int x)) H := W_r (rfl : (pj lw).1 17 6 = some (.ireturn, 1, 0)) rfl
theorem w17_7 {x : Int32} {l0 : Slot} : W (pj lw) 17 7 (l0 :: .val (.int x) :: L) S k n H Q ↔ W (pj lw) 17 8 (l0 :: .val (.int x) :: L) (.int x :: S) k n H Q := W_s (rfl : (pj lw).1 17 7 = some (.iload_n 1, 1, 0)) rfl rfl rfl
theorem w17_8 {x : Int32} {l0 l1 l2 : Slot} : W (pj lw) 17 8 (l0 :: l1 :: l2 :: .val (.int x) :: L) S k n H Q ↔ W (pj lw) 17 9 (l0 :: l1 :: l2 :: .val (.int x) :: L) (.int x :: S) k n H Q := W_s (rfl : (pj lw).1 17 8 = some (.iload_n 3, 1, 0)) rfl rfl rfl
theorem w17_9 {x y : Int32} : W (pj lw) 17 9 L (.int y :: .int x :: S) k n H Q ↔ (if y < x then W (pj lw) 17 12 L S k n H Q else W (pj lw) 17 14 L S k n H Q) := W_icmp_le (rfl : (pj lw).1 17 9 = some (.if_icmp .le 5, 3, 0)) rfl
theorem w17_12 {x : Int32} {l0 l1 l2 : Slot} : W (pj lw) 17 12 (l0 :: l1 :: l2 :: .val (.int x) :: L) S k n H Q ↔ W (pj lw) 17 13 (l0 :: l1 :: l2 :: .val (.int x) :: L) (.int x :: S) k n H Q := W_s (rfl : (pj lw).1 17 12 = some (.iload_n 3, 1, 0)) rfl rfl rfl
theorem w17_13 {x : Int32} : W (pj lw) 17 13 L (.int x :: S) k n H Q ↔ Q (some (.int x)) H := W_r (rfl : (pj lw).1 17 13 = some (.ireturn, 1, 0)) rfl
theorem w17_14 {x : Int32} {l0 : Slot} : W (pj lw) 17 14 (l0 :: .val (.int x) :: L) S k n H Q ↔ W (pj lw) 17 15 (l0 :: .val (.int x) :: L) (.int x :: S) k n H Q := W_s (rfl : (pj lw).1 17 14 = some (.iload_n 1, 1, 0)) rfl rfl rfl
theorem w17_15 {x : Int32} : W (pj lw) 17 15 L (.int x :: S) k n H Q ↔ Q (some (.int x)) H := W_r (rfl : (pj lw).1 17 15 = some (.ireturn, 1, 0)) rfl
theorem c18 {x0 : Nat} {x1 : Int32} : Cl (pj lw) 18 [.ref x0, .int x1] H Q ↔ W (pj lw) 18 0 [.val (.ref x0), .val (.int x1)] [] 0 0 H Q := cl_unf rfl
theorem w18_0 {x : Int32} {l0 : Slot} : W (pj lw) 18 0 (l0 :: .val (.int x) :: L) S k n H Q ↔ W (pj lw) 18 1 (l0 :: .val (.int x) :: L) (.int x :: S) k n H Q := W_s (rfl : (pj lw).1 18 0 = some (.iload_n 1, 1, 0)) rfl rfl rfl
theorem w18_1 {x : Int32} : W (pj lw) 18 1 L (.int x :: S) k n H Q ↔ (if x < 0 then W (pj lw) 18 16 L S k n H Q else W (pj lw) 18 4 L S k n H Q) := W_if_lt (rfl : (pj lw).1 18 1 = some (.ifCond .lt 15, 3, 0)) rfl
theorem w18_4 {x : Int32} {l0 : Slot} : W (pj lw) 18 4 (l0 :: .val (.int x) :: L) S k n H Q ↔ W (pj lw) 18 5 (l0 :: .val (.int x) :: L) (.int x :: S) k n H Q := W_s (rfl : (pj lw).1 18 4 = some (.iload_n 1, 1, 0)) rfl rfl rfl
theorem w18_5 {x : Nat} : W (pj lw) 18 5 (.val (.ref x) :: L) S k n H Q ↔ W (pj lw) 18 6 (.val (.ref x) :: L) (.ref x :: S) k n H Q := W_s (rfl : (pj lw).1 18 5 = some (.aload_n 0, 1, 0)) rfl rfl rfl
theorem w18_6 {a : Nat} : W (pj lw) 18 6 L (.ref a :: S) k n H Q ↔ (isO H a = true ∧ W (pj lw) 18 9 L (fld H a 0 :: S) k n H Q) := W_getf (rfl : (pj lw).1 18 6 = some (.getfield 57, 3, 0))
theorem w18_9 {x y : Int32} : W (pj lw) 18 9 L (.int y :: .int x :: S) k n H Q ↔ (if x < y then W (pj lw) 18 12 L S k n H Q else W (pj lw) 18 16 L S k n H Q) := W_icmp_ge (rfl : (pj lw).1 18 9 = some (.if_icmp .ge 7, 3, 0)) rfl
theorem w18_12 : W (pj lw) 18 12 L S k n H Q ↔ W (pj lw) 18 13 L (.int 1 :: S) k n H Q := W_s (rfl : (pj lw).1 18 12 = some (.iconst 1, 1, 0)) rfl rfl rfl
theorem w18_13 : W (pj lw) 18 13 L S k n H Q ↔ W (pj lw) 18 17 L S k n H Q := W_goto (rfl : (pj lw).1 18 13 = some (.goto 4, 3, 0)) rfl
theorem w18_16 : W (pj lw) 18 16 L S k n H Q ↔ W (pj lw) 18 17 L (.int 0 :: S) k n H Q := W_s (rfl : (pj lw).1 18 16 = some (.iconst 0, 1, 0)) rfl rfl rfl
theorem w18_17 {x : Int32} : W (pj lw) 18 17 L (.int x :: S) k n H Q ↔ ((x = 0 ∨ x = 1) ∧ Q (some (.int x)) H) := W_rz (rfl : (pj lw).1 18 17 = some (.ireturn, 1, 0)) rfl
theorem c19 {x0 : Nat} : Cl (pj lw) 19 [.ref x0] H Q ↔ W (pj lw) 19 0 [.val (.ref x0)] [] 0 0 H Q := cl_unf rfl
theorem w19_0 {x : Nat} : W (pj lw) 19 0 (.val (.ref x) :: L) S k n H Q ↔ W (pj lw) 19 1 (.val (.ref x) :: L) (.ref x :: S) k n H Q := W_s (rfl : (pj lw).1 19 0 = some (.aload_n 0, 1, 0)) rfl rfl rfl
theorem w19_1 {x : Nat} : W (pj lw) 19 1 (.val (.ref x) :: L) S k n H Q ↔ W (pj lw) 19 2 (.val (.ref x) :: L) (.ref x :: S) k n H Q := W_s (rfl : (pj lw).1 19 1 = some (.aload_n 0, 1, 0)) rfl rfl rfl
theorem w19_2 {a : Nat} : W (pj lw) 19 2 L (.ref a :: S) k n H Q ↔ (isO H a = true ∧ W (pj lw) 19 5 L (fld H a 23 :: S) k n H Q) := W_getf (rfl : (pj lw).1 19 2 = some (.getfield 85, 3, 23))
theorem w19_5 : W (pj lw) 19 5 L S k n H Q ↔ W (pj lw) 19 7 L (.int 1103515245 :: S) k n H Q := W_s (rfl : (pj lw).1 19 5 = some (.ldc 114, 2, 1103515245)) rfl rfl rfl
theorem w19_7 {x y : Int32} : W (pj lw) 19 7 L (.int y :: .int x :: S) k n H Q ↔ W (pj lw) 19 8 L (.int (x * y) :: S) k n H Q := W_s (rfl : (pj lw).1 19 7 = some (.imul, 1, 0)) rfl rfl rfl
theorem w19_8 : W (pj lw) 19 8 L S k n H Q ↔ W (pj lw) 19 11 L (.int 12345 :: S) k n H Q := W_s (rfl : (pj lw).1 19 8 = some (.sipush 12345, 3, 0)) rfl rfl rfl
theorem w19_11 {x y : Int32} : W (pj lw) 19 11 L (.int y :: .int x :: S) k n H Q ↔ W (pj lw) 19 12 L (.int (x + y) :: S) k n H Q := W_s (rfl : (pj lw).1 19 11 = some (.iadd, 1, 0)) rfl rfl rfl
theorem w19_12 {a : Nat} {v : Value} : W (pj lw) 19 12 L (v :: .ref a :: S) k n H Q ↔ ((isOw H a = true ∧ okv (.int) v = true) ∧ W (pj lw) 19 15 L S k n (wr H a 23 v) Q) := W_putf (rfl : (pj lw).1 19 12 = some (.putfield 85, 3, 23))
theorem w19_15 {x : Nat} : W (pj lw) 19 15 (.val (.ref x) :: L) S k n H Q ↔ W (pj lw) 19 16 (.val (.ref x) :: L) (.ref x :: S) k n H Q := W_s (rfl : (pj lw).1 19 15 = some (.aload_n 0, 1, 0)) rfl rfl rfl
theorem w19_16 {a : Nat} : W (pj lw) 19 16 L (.ref a :: S) k n H Q ↔ (isO H a = true ∧ W (pj lw) 19 19 L (fld H a 23 :: S) k n H Q) := W_getf (rfl : (pj lw).1 19 16 = some (.getfield 85, 3, 23))
theorem w19_19 : W (pj lw) 19 19 L S k n H Q ↔ W (pj lw) 19 21 L (.int 8 :: S) k n H Q := W_s (rfl : (pj lw).1 19 19 = some (.bipush 8, 2, 0)) rfl rfl rfl
theorem w19_21 {x y : Int32} : W (pj lw) 19 21 L (.int y :: .int x :: S) k n H Q ↔ W (pj lw) 19 22 L (.int (Jvm.Free.XT.ushr x y) :: S) k n H Q := W_s (rfl : (pj lw).1 19 21 = some (.iushr, 1, 0)) rfl rfl rfl
theorem w19_22 : W (pj lw) 19 22 L S k n H Q ↔ W (pj lw) 19 24 L (.int 16777215 :: S) k n H Q := W_s (rfl : (pj lw).1 19 22 = some (.ldc 115, 2, 16777215)) rfl rfl rfl
theorem w19_24 {x y : Int32} : W (pj lw) 19 24 L (.int y :: .int x :: S) k n H Q ↔ W (pj lw) 19 25 L (.int (x &&& y) :: S) k n H Q := W_s (rfl : (pj lw).1 19 24 = some (.iand, 1, 0)) rfl rfl rfl
theorem w19_25 : W (pj lw) 19 25 L S k n H Q ↔ W (pj lw) 19 28 L (.int 1000 :: S) k n H Q := W_s (rfl : (pj lw).1 19 25 = some (.sipush 1000, 3, 0)) rfl rfl rfl
theorem w19_28 {x y : Int32} : W (pj lw) 19 28 L (.int y :: .int x :: S) k n H Q ↔ (¬ y = 0 ∧ W (pj lw) 19 29 L (.int (x % y) :: S) k n H Q) := W_irem (rfl : (pj lw).1 19 28 = some (.irem, 1, 0))
theorem w19_29 {x : Int32} : W (pj lw) 19 29 L (.int x :: S) k n H Q ↔ Q (some (.int x)) H := W_r (rfl : (pj lw).1 19 29 = some (.ireturn, 1, 0)) rfl
theorem c20 {x0 : Nat} {x1 : Int32} {x2 : Int32} : Cl (pj lw) 20 [.ref x0, .int x1, .int x2] H Q ↔ W (pj lw) 20 0 [.val (.ref x0), .val (.int x1), .val (.int x2), .unset, .unset, .unset] [] 0 0 H Q := cl_unf rfl
theorem w20_0 : W (pj lw) 20 0 L S k n H Q ↔ W (pj lw) 20 1 L (.int 0 :: S) k n H Q := W_s (rfl : (pj lw).1 20 0 = some (.iconst 0, 1, 0)) rfl rfl rfl
theorem w20_1 {x : Int32} {l0 l1 l2 : Slot} : W (pj lw) 20 1 (l0 :: l1 :: l2 :: .unset :: L) (.int x :: S) k n H Q ↔ W (pj lw) 20 2 (l0 :: l1 :: l2 :: .val (.int x) :: L) S k n H Q := W_istn (rfl : (pj lw).1 20 1 = some (.istore_n 3, 1, 0)) rfl rfl
theorem w20_2 {x : Int32} {l0 l1 l2 : Slot} : W (pj lw) 20 2 (l0 :: l1 :: l2 :: .val (.int x) :: L) S k n H Q ↔ W (pj lw) 20 3 (l0 :: l1 :: l2 :: .val (.int x) :: L) (.int x :: S) k n H Q := W_s (rfl : (pj lw).1 20 2 = some (.iload_n 3, 1, 0)) rfl rfl rfl
theorem w20_3 {x : Nat} : W (pj lw) 20 3 (.val (.ref x) :: L) S k n H Q ↔ W (pj lw) 20 4 (.val (.ref x) :: L) (.ref x :: S) k n H Q := W_s (rfl : (pj lw).1 20 3 = some (.aload_n 0, 1, 0)) rfl rfl rfl
theorem w20_4 {a : Nat} : W (pj lw) 20 4 L (.ref a :: S) k n H Q ↔ (isO H a = true ∧ W (pj lw) 20 7 L (fld H a 18 :: S) k n H Q) := W_getf (rfl : (pj lw).1 20 4 = some (.getfield 70, 3, 18))
theorem w20_7 {x y : Int32} : W (pj lw) 20 7 L (.int y :: .int x :: S) k n H Q ↔ (if x < y then W (pj lw) 20 10 L S k n H Q else W (pj lw) 20 58 L S k n H Q) := W_icmp_ge (rfl : (pj lw).1 20 7 = some (.if_icmp .ge 51, 3, 0)) rfl
theorem w20_10 {x : Nat} : W (pj lw) 20 10 (.val (.ref x) :: L) S k n H Q ↔ W (pj lw) 20 11 (.val (.ref x) :: L) (.ref x :: S) k n H Q := W_s (rfl : (pj lw).1 20 10 = some (.aload_n 0, 1, 0)) rfl rfl rfl
theorem w20_11 {a : Nat} : W (pj lw) 20 11 L (.ref a :: S) k n H Q ↔ (isO H a = true ∧ W (pj lw) 20 14 L (fld H a 15 :: S) k n H Q) := W_getf (rfl : (pj lw).1 20 11 = some (.getfield 44, 3, 15))
theorem w20_14 {x : Int32} {l0 l1 l2 : Slot} : W (pj lw) 20 14 (l0 :: l1 :: l2 :: .val (.int x) :: L) S k n H Q ↔ W (pj lw) 20 15 (l0 :: l1 :: l2 :: .val (.int x) :: L) (.int x :: S) k n H Q := W_s (rfl : (pj lw).1 20 14 = some (.iload_n 3, 1, 0)) rfl rfl rfl
theorem w20_15 {i : Int32} {a : Nat} : W (pj lw) 20 15 L (.int i :: .ref a :: S) k n H Q ↔ (inA H a .int i = true ∧ W (pj lw) 20 16 L (elt H a i :: S) k n H Q) := W_iaload (rfl : (pj lw).1 20 15 = some (.iaload, 1, 0))
theorem w20_16i {y : Int32} {x : Int32} {l0 l1 l2 l3 : Slot} : W (pj lw) 20 16 (l0 :: l1 :: l2 :: l3 :: .val (.int y) :: L) (.int x :: S) k n H Q ↔ W (pj lw) 20 18 (l0 :: l1 :: l2 :: l3 :: .val (.int x) :: L) S k n H Q := W_ist (rfl : (pj lw).1 20 16 = some (.istore 4, 2, 0)) rfl rfl
theorem w20_16 {x : Int32} {l0 l1 l2 l3 : Slot} : W (pj lw) 20 16 (l0 :: l1 :: l2 :: l3 :: .unset :: L) (.int x :: S) k n H Q ↔ W (pj lw) 20 18 (l0 :: l1 :: l2 :: l3 :: .val (.int x) :: L) S k n H Q := W_ist (rfl : (pj lw).1 20 16 = some (.istore 4, 2, 0)) rfl rfl
theorem w20_18 {x : Nat} : W (pj lw) 20 18 (.val (.ref x) :: L) S k n H Q ↔ W (pj lw) 20 19 (.val (.ref x) :: L) (.ref x :: S) k n H Q := W_s (rfl : (pj lw).1 20 18 = some (.aload_n 0, 1, 0)) rfl rfl rfl
theorem w20_19 {a : Nat} : W (pj lw) 20 19 L (.ref a :: S) k n H Q ↔ (isO H a = true ∧ W (pj lw) 20 22 L (fld H a 16 :: S) k n H Q) := W_getf (rfl : (pj lw).1 20 19 = some (.getfield 47, 3, 16))
theorem w20_22 {x : Int32} {l0 l1 l2 : Slot} : W (pj lw) 20 22 (l0 :: l1 :: l2 :: .val (.int x) :: L) S k n H Q ↔ W (pj lw) 20 23 (l0 :: l1 :: l2 :: .val (.int x) :: L) (.int x :: S) k n H Q := W_s (rfl : (pj lw).1 20 22 = some (.iload_n 3, 1, 0)) rfl rfl rfl
theorem w20_23 {i : Int32} {a : Nat} : W (pj lw) 20 23 L (.int i :: .ref a :: S) k n H Q ↔ (inA H a .int i = true ∧ W (pj lw) 20 24 L (elt H a i :: S) k n H Q) := W_iaload (rfl : (pj lw).1 20 23 = some (.iaload, 1, 0))
theorem w20_24i {y : Int32} {x : Int32} {l0 l1 l2 l3 l4 : Slot} : W (pj lw) 20 24 (l0 :: l1 :: l2 :: l3 :: l4 :: .val (.int y) :: L) (.int x :: S) k n H Q ↔ W (pj lw) 20 26 (l0 :: l1 :: l2 :: l3 :: l4 :: .val (.int x) :: L) S k n H Q := W_ist (rfl : (pj lw).1 20 24 = some (.istore 5, 2, 0)) rfl rfl
theorem w20_24 {x : Int32} {l0 l1 l2 l3 l4 : Slot} : W (pj lw) 20 24 (l0 :: l1 :: l2 :: l3 :: l4 :: .unset :: L) (.int x :: S) k n H Q ↔ W (pj lw) 20 26 (l0 :: l1 :: l2 :: l3 :: l4 :: .val (.int x) :: L) S k n H Q := W_ist (rfl : (pj lw).1 20 24 = some (.istore 5, 2, 0)) rfl rfl
theorem w20_26 {x : Int32} {l0 l1 l2 l3 : Slot} : W (pj lw) 20 26 (l0 :: l1 :: l2 :: l3 :: .val (.int x) :: L) S k n H Q ↔ W (pj lw) 20 28 (l0 :: l1 :: l2 :: l3 :: .val (.int x) :: L) (.int x :: S) k n H Q := W_s (rfl : (pj lw).1 20 26 = some (.iload 4, 2, 0)) rfl rfl rfl
theorem w20_28 {x : Int32} {l0 : Slot} : W (pj lw) 20 28 (l0 :: .val (.int x) :: L) S k n H Q ↔ W (pj lw) 20 29 (l0 :: .val (.int x) :: L) (.int x :: S) k n H Q := W_s (rfl : (pj lw).1 20 28 = some (.iload_n 1, 1, 0)) rfl rfl rfl
theorem w20_29 {x y : Int32} : W (pj lw) 20 29 L (.int y :: .int x :: S) k n H Q ↔ (if x = y then W (pj lw) 20 32 L S k n H Q else W (pj lw) 20 38 L S k n H Q) := W_icmp_ne (rfl : (pj lw).1 20 29 = some (.if_icmp .ne 9, 3, 0)) rfl
theorem w20_32 {x : Int32} {l0 l1 l2 l3 l4 : Slot} : W (pj lw) 20 32 (l0 :: l1 :: l2 :: l3 :: l4 :: .val (.int x) :: L) S k n H Q ↔ W (pj lw) 20 34 (l0 :: l1 :: l2 :: l3 :: l4 :: .val (.int x) :: L) (.int x :: S) k n H Q := W_s (rfl : (pj lw).1 20 32 = some (.iload 5, 2, 0)) rfl rfl rfl
theorem w20_34 {x : Int32} {l0 l1 : Slot} : W (pj lw) 20 34 (l0 :: l1 :: .val (.int x) :: L) S k n H Q ↔ W (pj lw) 20 35 (l0 :: l1 :: .val (.int x) :: L) (.int x :: S) k n H Q := W_s (rfl : (pj lw).1 20 34 = some (.iload_n 2, 1, 0)) rfl rfl rfl
theorem w20_35 {x y : Int32} : W (pj lw) 20 35 L (.int y :: .int x :: S) k n H Q ↔ (if x = y then W (pj lw) 20 50 L S k n H Q else W (pj lw) 20 38 L S k n H Q) := W_icmp_eq (rfl : (pj lw).1 20 35 = some (.if_icmp .eq 15, 3, 0)) rfl
theorem w20_38 {x : Int32} {l0 l1 l2 l3 : Slot} : W (pj lw) 20 38 (l0 :: l1 :: l2 :: l3 :: .val (.int x) :: L) S k n H Q ↔ W (pj lw) 20 40 (l0 :: l1 :: l2 :: l3 :: .val (.int x) :: L) (.int x :: S) k n H Q := W_s (rfl : (pj lw).1 20 38 = some (.iload 4, 2, 0)) rfl rfl rfl
theorem w20_40 {x : Int32} {l0 l1 : Slot} : W (pj lw) 20 40 (l0 :: l1 :: .val (.int x) :: L) S k n H Q ↔ W (pj lw) 20 41 (l0 :: l1 :: .val (.int x) :: L) (.int x :: S) k n H Q := W_s (rfl : (pj lw).1 20 40 = some (.iload_n 2, 1, 0)) rfl rfl rfl
theorem w20_41 {x y : Int32} : W (pj lw) 20 41 L (.int y :: .int x :: S) k n H Q ↔ (if x = y then W (pj lw) 20 44 L S k n H Q else W (pj lw) 20 52 L S k n H Q) := W_icmp_ne (rfl : (pj lw).1 20 41 = some (.if_icmp .ne 11, 3, 0)) rfl
theorem w20_44 {x : Int32} {l0 l1 l2 l3 l4 : Slot} : W (pj lw) 20 44 (l0 :: l1 :: l2 :: l3 :: l4 :: .val (.int x) :: L) S k n H Q ↔ W (pj lw) 20 46 (l0 :: l1 :: l2 :: l3 :: l4 :: .val (.int x) :: L) (.int x :: S) k n H Q := W_s (rfl : (pj lw).1 20 44 = some (.iload 5, 2, 0)) rfl rfl rfl
theorem w20_46 {x : Int32} {l0 : Slot} : W (pj lw) 20 46 (l0 :: .val (.int x) :: L) S k n H Q ↔ W (pj lw) 20 47 (l0 :: .val (.int x) :: L) (.int x :: S) k n H Q := W_s (rfl : (pj lw).1 20 46 = some (.iload_n 1, 1, 0)) rfl rfl rfl
theorem w20_47 {x y : Int32} : W (pj lw) 20 47 L (.int y :: .int x :: S) k n H Q ↔ (if x = y then W (pj lw) 20 50 L S k n H Q else W (pj lw) 20 52 L S k n H Q) := W_icmp_ne (rfl : (pj lw).1 20 47 = some (.if_icmp .ne 5, 3, 0)) rfl
theorem w20_50 : W (pj lw) 20 50 L S k n H Q ↔ W (pj lw) 20 51 L (.int 1 :: S) k n H Q := W_s (rfl : (pj lw).1 20 50 = some (.iconst 1, 1, 0)) rfl rfl rfl
theorem w20_51 {x : Int32} : W (pj lw) 20 51 L (.int x :: S) k n H Q ↔ ((x = 0 ∨ x = 1) ∧ Q (some (.int x)) H) := W_rz (rfl : (pj lw).1 20 51 = some (.ireturn, 1, 0)) rfl
theorem w20_52 {x : Int32} {l0 l1 l2 : Slot} : W (pj lw) 20 52 (l0 :: l1 :: l2 :: .val (.int x) :: L) S k n H Q ↔ W (pj lw) 20 55 (l0 :: l1 :: l2 :: .val (.int (x + 1)) :: L) S k n H Q := W_s (rfl : (pj lw).1 20 52 = some (.iinc 3 1, 3, 0)) rfl rfl rfl
theorem w20_55 : W (pj lw) 20 55 L S k n H Q ↔ W (pj lw) 20 2 L S k n H Q := W_goto (rfl : (pj lw).1 20 55 = some (.goto (-53), 3, 0)) rfl
theorem w20_58 : W (pj lw) 20 58 L S k n H Q ↔ W (pj lw) 20 59 L (.int 0 :: S) k n H Q := W_s (rfl : (pj lw).1 20 58 = some (.iconst 0, 1, 0)) rfl rfl rfl
theorem w20_59 {x : Int32} : W (pj lw) 20 59 L (.int x :: S) k n H Q ↔ ((x = 0 ∨ x = 1) ∧ Q (some (.int x)) H) := W_rz (rfl : (pj lw).1 20 59 = some (.ireturn, 1, 0)) rfl
theorem c21 {x0 : Nat} : Cl (pj lw) 21 [.ref x0] H Q ↔ W (pj lw) 21 0 [.val (.ref x0)] [] 0 0 H Q := cl_unf rfl
theorem w21_0 {x : Nat} : W (pj lw) 21 0 (.val (.ref x) :: L) S k n H Q ↔ W (pj lw) 21 1 (.val (.ref x) :: L) (.ref x :: S) k n H Q := W_s (rfl : (pj lw).1 21 0 = some (.aload_n 0, 1, 0)) rfl rfl rfl
theorem w21_1 {a : Nat} : W (pj lw) 21 1 L (.ref a :: S) k n H Q ↔ ((isO H a = true ∧ cs S + (2 + 11) + 0 ≤ 43) ∧ Cl (pj lw) 22 [.ref a] H (fun v H => W (pj lw) 21 4 L (v.toList ++ S) k n H Q)) := W_inst (as := []) (rfl : (pj lw).1 21 1 = some (.invokevirtual 116, 3, 22)) rfl rfl rfl (Nat.le_of_ble_eq_true rfl) (Nat.le_of_ble_eq_true rfl) ⟨rfl, rfl⟩
theorem w21_4 {x : Nat} : W (pj lw) 21 4 (.val (.ref x) :: L) S k n H Q ↔ W (pj lw) 21 5 (.val (.ref x) :: L) (.ref x :: S) k n H Q := W_s (rfl : (pj lw).1 21 4 = some (.aload_n 0, 1, 0)) rfl rfl rfl
theorem w21_5 {a : Nat} : W (pj lw) 21 5 L (.ref a :: S) k n H Q ↔ ((isO H a = true ∧ cs S + (4 + 11) + 28 ≤ 43) ∧ Cl (pj lw) 24 [.ref a] H (fun v H => W (pj lw) 21 8 L (v.toList ++ S) k n H Q)) := W_inst (as := []) (rfl : (pj lw).1 21 5 = some (.invokevirtual 119, 3, 24)) rfl rfl rfl (Nat.le_of_ble_eq_true rfl) (Nat.le_of_ble_eq_true rfl) ⟨rfl, rfl⟩
theorem w21_8 {x : Nat} : W (pj lw) 21 8 (.val (.ref x) :: L) S k n H Q ↔ W (pj lw) 21 9 (.val (.ref x) :: L) (.ref x :: S) k n H Q := W_s (rfl : (pj lw).1 21 8 = some (.aload_n 0, 1, 0)) rfl rfl rfl
theorem w21_9 {a : Nat} : W (pj lw) 21 9 L (.ref a :: S) k n H Q ↔ ((isO H a = true ∧ cs S + (2 + 11) + 0 ≤ 43) ∧ Cl (pj lw) 26 [.ref a] H (fun v H => W (pj lw) 21 12 L (v.toList ++ S) k n H Q)) := W_inst (as := []) (rfl : (pj lw).1 21 9 = some (.invokevirtual 122, 3, 26)) rfl rfl rfl (Nat.le_of_ble_eq_true rfl) (Nat.le_of_ble_eq_true rfl) ⟨rfl, rfl⟩
theorem w21_12 {x : Nat} : W (pj lw) 21 12 (.val (.ref x) :: L) S k n H Q ↔ W (pj lw) 21 13 (.val (.ref x) :: L) (.ref x :: S) k n H Q := W_s (rfl : (pj lw).1 21 12 = some (.aload_n 0, 1, 0)) rfl rfl rfl
theorem w21_13 {a : Nat} : W (pj lw) 21 13 L (.ref a :: S) k n H Q ↔ ((isO H a = true ∧ cs S + (2 + 11) + 0 ≤ 43) ∧ Cl (pj lw) 27 [.ref a] H (fun v H => W (pj lw) 21 16 L (v.toList ++ S) k n H Q)) := W_inst (as := []) (rfl : (pj lw).1 21 13 = some (.invokevirtual 125, 3, 27)) rfl rfl rfl (Nat.le_of_ble_eq_true rfl) (Nat.le_of_ble_eq_true rfl) ⟨rfl, rfl⟩
theorem w21_16 {x : Nat} : W (pj lw) 21 16 (.val (.ref x) :: L) S k n H Q ↔ W (pj lw) 21 17 (.val (.ref x) :: L) (.ref x :: S) k n H Q := W_s (rfl : (pj lw).1 21 16 = some (.aload_n 0, 1, 0)) rfl rfl rfl
theorem w21_17 {a : Nat} : W (pj lw) 21 17 L (.ref a :: S) k n H Q ↔ ((isO H a = true ∧ cs S + (3 + 11) + 28 ≤ 43) ∧ Cl (pj lw) 28 [.ref a] H (fun v H => W (pj lw) 21 20 L (v.toList ++ S) k n H Q)) := W_inst (as := []) (rfl : (pj lw).1 21 17 = some (.invokevirtual 128, 3, 28)) rfl rfl rfl (Nat.le_of_ble_eq_true rfl) (Nat.le_of_ble_eq_true rfl) ⟨rfl, rfl⟩
theorem w21_20 {x : Nat} : W (pj lw) 21 20 (.val (.ref x) :: L) S k n H Q ↔ W (pj lw) 21 21 (.val (.ref x) :: L) (.ref x :: S) k n H Q := W_s (rfl : (pj lw).1 21 20 = some (.aload_n 0, 1, 0)) rfl rfl rfl
theorem w21_21 {x : Nat} : W (pj lw) 21 21 (.val (.ref x) :: L) S k n H Q ↔ W (pj lw) 21 22 (.val (.ref x) :: L) (.ref x :: S) k n H Q := W_s (rfl : (pj lw).1 21 21 = some (.aload_n 0, 1, 0)) rfl rfl rfl
theorem w21_22 {a : Nat} : W (pj lw) 21 22 L (.ref a :: S) k n H Q ↔ (isO H a = true ∧ W (pj lw) 21 25 L (fld H a 22 :: S) k n H Q) := W_getf (rfl : (pj lw).1 21 22 = some (.getfield 82, 3, 22))
theorem w21_25 : W (pj lw) 21 25 L S k n H Q ↔ W (pj lw) 21 26 L (.int 1 :: S) k n H Q := W_s (rfl : (pj lw).1 21 25 = some (.iconst 1, 1, 0)) rfl rfl rfl
theorem w21_26 {x y : Int32} : W (pj lw) 21 26 L (.int y :: .int x :: S) k n H Q ↔ W (pj lw) 21 27 L (.int (x + y) :: S) k n H Q := W_s (rfl : (pj lw).1 21 26 = some (.iadd, 1, 0)) rfl rfl rfl
theorem w21_27 {a : Nat} {v : Value} : W (pj lw) 21 27 L (v :: .ref a :: S) k n H Q ↔ ((isOw H a = true ∧ okv (.int) v = true) ∧ W (pj lw) 21 30 L S k n (wr H a 22 v) Q) := W_putf (rfl : (pj lw).1 21 27 = some (.putfield 82, 3, 22))
theorem w21_30 : W (pj lw) 21 30 L [] k n H Q ↔ Q none H := W_r (rfl : (pj lw).1 21 30 = some (.return_, 1, 0)) rfl
theorem c22 {x0 : Nat} : Cl (pj lw) 22 [.ref x0] H Q ↔ W (pj lw) 22 0 [.val (.ref x0), .unset] [] 0 0 H Q := cl_unf rfl
theorem w22_0 : W (pj lw) 22 0 L S k n H Q ↔ W (pj lw) 22 1 L (.int 0 :: S) k n H Q := W_s (rfl : (pj lw).1 22 0 = some (.iconst 0, 1, 0)) rfl rfl rfl
theorem w22_1 {x : Int32} {l0 : Slot} : W (pj lw) 22 1 (l0 :: .unset :: L) (.int x :: S) k n H Q ↔ W (pj lw) 22 2 (l0 :: .val (.int x) :: L) S k n H Q := W_istn (rfl : (pj lw).1 22 1 = some (.istore_n 1, 1, 0)) rfl rfl
theorem w22_2 {x : Int32} {l0 : Slot} : W (pj lw) 22 2 (l0 :: .val (.int x) :: L) S k n H Q ↔ W (pj lw) 22 3 (l0 :: .val (.int x) :: L) (.int x :: S) k n H Q := W_s (rfl : (pj lw).1 22 2 = some (.iload_n 1, 1, 0)) rfl rfl rfl
theorem w22_3 {x : Nat} : W (pj lw) 22 3 (.val (.ref x) :: L) S k n H Q ↔ W (pj lw) 22 4 (.val (.ref x) :: L) (.ref x :: S) k n H Q := W_s (rfl : (pj lw).1 22 3 = some (.aload_n 0, 1, 0)) rfl rfl rfl
theorem w22_4 {a : Nat} : W (pj lw) 22 4 L (.ref a :: S) k n H Q ↔ (isO H a = true ∧ W (pj lw) 22 7 L (fld H a 0 :: S) k n H Q) := W_getf (rfl : (pj lw).1 22 4 = some (.getfield 57, 3, 0))
theorem w22_7 {x y : Int32} : W (pj lw) 22 7 L (.int y :: .int x :: S) k n H Q ↔ (if x < y then W (pj lw) 22 10 L S k n H Q else W (pj lw) 22 48 L S k n H Q) := W_icmp_ge (rfl : (pj lw).1 22 7 = some (.if_icmp .ge 41, 3, 0)) rfl
theorem w22_10 {x : Nat} : W (pj lw) 22 10 (.val (.ref x) :: L) S k n H Q ↔ W (pj lw) 22 11 (.val (.ref x) :: L) (.ref x :: S) k n H Q := W_s (rfl : (pj lw).1 22 10 = some (.aload_n 0, 1, 0)) rfl rfl rfl
theorem w22_11 {a : Nat} : W (pj lw) 22 11 L (.ref a :: S) k n H Q ↔ (isO H a = true ∧ W (pj lw) 22 14 L (fld H a 12 :: S) k n H Q) := W_getf (rfl : (pj lw).1 22 11 = some (.getfield 35, 3, 12))
theorem w22_14 {x : Int32} {l0 : Slot} : W (pj lw) 22 14 (l0 :: .val (.int x) :: L) S k n H Q ↔ W (pj lw) 22 15 (l0 :: .val (.int x) :: L) (.int x :: S) k n H Q := W_s (rfl : (pj lw).1 22 14 = some (.iload_n 1, 1, 0)) rfl rfl rfl
theorem w22_15 {x : Nat} : W (pj lw) 22 15 (.val (.ref x) :: L) S k n H Q ↔ W (pj lw) 22 16 (.val (.ref x) :: L) (.ref x :: S) k n H Q := W_s (rfl : (pj lw).1 22 15 = some (.aload_n 0, 1, 0)) rfl rfl rfl
theorem w22_16 {a : Nat} : W (pj lw) 22 16 L (.ref a :: S) k n H Q ↔ (isO H a = true ∧ W (pj lw) 22 19 L (fld H a 4 :: S) k n H Q) := W_getf (rfl : (pj lw).1 22 16 = some (.getfield 7, 3, 4))
theorem w22_19 {x : Int32} {l0 : Slot} : W (pj lw) 22 19 (l0 :: .val (.int x) :: L) S k n H Q ↔ W (pj lw) 22 20 (l0 :: .val (.int x) :: L) (.int x :: S) k n H Q := W_s (rfl : (pj lw).1 22 19 = some (.iload_n 1, 1, 0)) rfl rfl rfl
theorem w22_20 {i : Int32} {a : Nat} : W (pj lw) 22 20 L (.int i :: .ref a :: S) k n H Q ↔ (inA H a .int i = true ∧ W (pj lw) 22 21 L (elt H a i :: S) k n H Q) := W_iaload (rfl : (pj lw).1 22 20 = some (.iaload, 1, 0))
theorem w22_21 {x i : Int32} {a : Nat} : W (pj lw) 22 21 L (.int x :: .int i :: .ref a :: S) k n H Q ↔ (inAw H a .int i = true ∧ W (pj lw) 22 22 L S k n (wr H a i.toNatClampNeg (.int x)) Q) := W_iastore (rfl : (pj lw).1 22 21 = some (.iastore, 1, 0))
theorem w22_22 {x : Nat} : W (pj lw) 22 22 (.val (.ref x) :: L) S k n H Q ↔ W (pj lw) 22 23 (.val (.ref x) :: L) (.ref x :: S) k n H Q := W_s (rfl : (pj lw).1 22 22 = some (.aload_n 0, 1, 0)) rfl rfl rfl
theorem w22_23 {a : Nat} : W (pj lw) 22 23 L (.ref a :: S) k n H Q ↔ (isO H a = true ∧ W (pj lw) 22 26 L (fld H a 13 :: S) k n H Q) := W_getf (rfl : (pj lw).1 22 23 = some (.getfield 38, 3, 13))
theorem w22_26 {x : Int32} {l0 : Slot} : W (pj lw) 22 26 (l0 :: .val (.int x) :: L) S k n H Q ↔ W (pj lw) 22 27 (l0 :: .val (.int x) :: L) (.int x :: S) k n H Q := W_s (rfl : (pj lw).1 22 26 = some (.iload_n 1, 1, 0)) rfl rfl rfl
theorem w22_27 {x : Nat} : W (pj lw) 22 27 (.val (.ref x) :: L) S k n H Q ↔ W (pj lw) 22 28 (.val (.ref x) :: L) (.ref x :: S) k n H Q := W_s (rfl : (pj lw).1 22 27 = some (.aload_n 0, 1, 0)) rfl rfl rfl
theorem w22_28 {a : Nat} : W (pj lw) 22 28 L (.ref a :: S) k n H Q ↔ (isO H a = true ∧ W (pj lw) 22 31 L (fld H a 6 :: S) k n H Q) := W_getf (rfl : (pj lw).1 22 28 = some (.getfield 16, 3, 6))
theorem w22_31 {x : Int32} {l0 : Slot} : W (pj lw) 22 31 (l0 :: .val (.int x) :: L) S k n H Q ↔ W (pj lw) 22 32 (l0 :: .val (.int x) :: L) (.int x :: S) k n H Q := W_s (rfl : (pj lw).1 22 31 = some (.iload_n 1, 1, 0)) rfl rfl rfl
theorem w22_32 {i : Int32} {a : Nat} : W (pj lw) 22 32 L (.int i :: .ref a :: S) k n H Q ↔ (inA H a .int i = true ∧ W (pj lw) 22 33 L (elt H a i :: S) k n H Q) := W_iaload (rfl : (pj lw).1 22 32 = some (.iaload, 1, 0))
theorem w22_33 {x : Int32} : W (pj lw) 22 33 L (.int x :: S) k n H Q ↔ (if 0 < x then W (pj lw) 22 36 L S k n H Q else W (pj lw) 22 40 L S k n H Q) := W_if_le (rfl : (pj lw).1 22 33 = some (.ifCond .le 7, 3, 0)) rfl
theorem w22_36 : W (pj lw) 22 36 L S k n H Q ↔ W (pj lw) 22 37 L (.int 1 :: S) k n H Q := W_s (rfl : (pj lw).1 22 36 = some (.iconst 1, 1, 0)) rfl rfl rfl
theorem w22_37 : W (pj lw) 22 37 L S k n H Q ↔ W (pj lw) 22 41 L S k n H Q := W_goto (rfl : (pj lw).1 22 37 = some (.goto 4, 3, 0)) rfl
theorem w22_40 : W (pj lw) 22 40 L S k n H Q ↔ W (pj lw) 22 41 L (.int 0 :: S) k n H Q := W_s (rfl : (pj lw).1 22 40 = some (.iconst 0, 1, 0)) rfl rfl rfl
theorem w22_41 {x i : Int32} {a : Nat} : W (pj lw) 22 41 L (.int x :: .int i :: .ref a :: S) k n H Q ↔ (((inAw H a .byte i = true ∧ okv .byte (.int x) = true) ∨ (inAw H a .boolean i = true ∧ okv .boolean (.int x) = true)) ∧ W (pj lw) 22 42 L S k n (wr H a i.toNatClampNeg (.int x)) Q) := W_bastore (rfl : (pj lw).1 22 41 = some (.bastore, 1, 0))
theorem w22_42 {x : Int32} {l0 : Slot} : W (pj lw) 22 42 (l0 :: .val (.int x) :: L) S k n H Q ↔ W (pj lw) 22 45 (l0 :: .val (.int (x + 1)) :: L) S k n H Q := W_s (rfl : (pj lw).1 22 42 = some (.iinc 1 1, 3, 0)) rfl rfl rfl
theorem w22_45 : W (pj lw) 22 45 L S k n H Q ↔ W (pj lw) 22 2 L S k n H Q := W_goto (rfl : (pj lw).1 22 45 = some (.goto (-43), 3, 0)) rfl
theorem w22_48 : W (pj lw) 22 48 L [] k n H Q ↔ Q none H := W_r (rfl : (pj lw).1 22 48 = some (.return_, 1, 0)) rfl
theorem c23 {x0 : Nat} {x1 : Int32} {x2 : Int32} : Cl (pj lw) 23 [.ref x0, .int x1, .int x2] H Q ↔ W (pj lw) 23 0 [.val (.ref x0), .val (.int x1), .val (.int x2)] [] 0 0 H Q := cl_unf rfl
theorem w23_0 {x : Nat} : W (pj lw) 23 0 (.val (.ref x) :: L) S k n H Q ↔ W (pj lw) 23 1 (.val (.ref x) :: L) (.ref x :: S) k n H Q := W_s (rfl : (pj lw).1 23 0 = some (.aload_n 0, 1, 0)) rfl rfl rfl
theorem w23_1 {a : Nat} : W (pj lw) 23 1 L (.ref a :: S) k n H Q ↔ (isO H a = true ∧ W (pj lw) 23 4 L (fld H a 12 :: S) k n H Q) := W_getf (rfl : (pj lw).1 23 1 = some (.getfield 35, 3, 12))
theorem w23_4 {x : Int32} {l0 : Slot} : W (pj lw) 23 4 (l0 :: .val (.int x) :: L) S k n H Q ↔ W (pj lw) 23 5 (l0 :: .val (.int x) :: L) (.int x :: S) k n H Q := W_s (rfl : (pj lw).1 23 4 = some (.iload_n 1, 1, 0)) rfl rfl rfl
theorem w23_5 {i : Int32} {a : Nat} : W (pj lw) 23 5 L (.int i :: .ref a :: S) k n H Q ↔ (inA H a .int i = true ∧ W (pj lw) 23 6 L (elt H a i :: S) k n H Q) := W_iaload (rfl : (pj lw).1 23 5 = some (.iaload, 1, 0))
theorem w23_6 : W (pj lw) 23 6 L S k n H Q ↔ W (pj lw) 23 7 L (.int 2 :: S) k n H Q := W_s (rfl : (pj lw).1 23 6 = some (.iconst 2, 1, 0)) rfl rfl rfl
theorem w23_7 {x y : Int32} : W (pj lw) 23 7 L (.int y :: .int x :: S) k n H Q ↔ (if x = y then W (pj lw) 23 10 L S k n H Q else W (pj lw) 23 41 L S k n H Q) := W_icmp_ne (rfl : (pj lw).1 23 7 = some (.if_icmp .ne 34, 3, 0)) rfl
theorem w23_10 {x : Nat} : W (pj lw) 23 10 (.val (.ref x) :: L) S k n H Q ↔ W (pj lw) 23 11 (.val (.ref x) :: L) (.ref x :: S) k n H Q := W_s (rfl : (pj lw).1 23 10 = some (.aload_n 0, 1, 0)) rfl rfl rfl
theorem w23_11 {a : Nat} : W (pj lw) 23 11 L (.ref a :: S) k n H Q ↔ (isO H a = true ∧ W (pj lw) 23 14 L (fld H a 13 :: S) k n H Q) := W_getf (rfl : (pj lw).1 23 11 = some (.getfield 38, 3, 13))
theorem w23_14 {x : Int32} {l0 : Slot} : W (pj lw) 23 14 (l0 :: .val (.int x) :: L) S k n H Q ↔ W (pj lw) 23 15 (l0 :: .val (.int x) :: L) (.int x :: S) k n H Q := W_s (rfl : (pj lw).1 23 14 = some (.iload_n 1, 1, 0)) rfl rfl rfl
theorem w23_15 {i : Int32} {a : Nat} : W (pj lw) 23 15 L (.int i :: .ref a :: S) k n H Q ↔ ((inA H a .byte i = true ∨ inA H a .boolean i = true) ∧ W (pj lw) 23 16 L (elt H a i :: S) k n H Q) := W_baload (rfl : (pj lw).1 23 15 = some (.baload, 1, 0))
theorem w23_16 {x : Int32} : W (pj lw) 23 16 L (.int x :: S) k n H Q ↔ (if x = 0 then W (pj lw) 23 19 L S k n H Q else W (pj lw) 23 41 L S k n H Q) := W_if_ne (rfl : (pj lw).1 23 16 = some (.ifCond .ne 25, 3, 0)) rfl
theorem w23_19 {x : Nat} : W (pj lw) 23 19 (.val (.ref x) :: L) S k n H Q ↔ W (pj lw) 23 20 (.val (.ref x) :: L) (.ref x :: S) k n H Q := W_s (rfl : (pj lw).1 23 19 = some (.aload_n 0, 1, 0)) rfl rfl rfl
theorem w23_20 {a : Nat} : W (pj lw) 23 20 L (.ref a :: S) k n H Q ↔ (isO H a = true ∧ W (pj lw) 23 23 L (fld H a 12 :: S) k n H Q) := W_getf (rfl : (pj lw).1 23 20 = some (.getfield 35, 3, 12))
theorem w23_23 {x : Int32} {l0 l1 : Slot} : W (pj lw) 23 23 (l0 :: l1 :: .val (.int x) :: L) S k n H Q ↔ W (pj lw) 23 24 (l0 :: l1 :: .val (.int x) :: L) (.int x :: S) k n H Q := W_s (rfl : (pj lw).1 23 23 = some (.iload_n 2, 1, 0)) rfl rfl rfl
theorem w23_24 {i : Int32} {a : Nat} : W (pj lw) 23 24 L (.int i :: .ref a :: S) k n H Q ↔ (inA H a .int i = true ∧ W (pj lw) 23 25 L (elt H a i :: S) k n H Q) := W_iaload (rfl : (pj lw).1 23 24 = some (.iaload, 1, 0))
theorem w23_25 {x : Int32} : W (pj lw) 23 25 L (.int x :: S) k n H Q ↔ (if x = 0 then W (pj lw) 23 28 L S k n H Q else W (pj lw) 23 41 L S k n H Q) := W_if_ne (rfl : (pj lw).1 23 25 = some (.ifCond .ne 16, 3, 0)) rfl
theorem w23_28 {x : Nat} : W (pj lw) 23 28 (.val (.ref x) :: L) S k n H Q ↔ W (pj lw) 23 29 (.val (.ref x) :: L) (.ref x :: S) k n H Q := W_s (rfl : (pj lw).1 23 28 = some (.aload_n 0, 1, 0)) rfl rfl rfl
theorem w23_29 {a : Nat} : W (pj lw) 23 29 L (.ref a :: S) k n H Q ↔ (isO H a = true ∧ W (pj lw) 23 32 L (fld H a 13 :: S) k n H Q) := W_getf (rfl : (pj lw).1 23 29 = some (.getfield 38, 3, 13))
theorem w23_32 {x : Int32} {l0 l1 : Slot} : W (pj lw) 23 32 (l0 :: l1 :: .val (.int x) :: L) S k n H Q ↔ W (pj lw) 23 33 (l0 :: l1 :: .val (.int x) :: L) (.int x :: S) k n H Q := W_s (rfl : (pj lw).1 23 32 = some (.iload_n 2, 1, 0)) rfl rfl rfl
theorem w23_33 {i : Int32} {a : Nat} : W (pj lw) 23 33 L (.int i :: .ref a :: S) k n H Q ↔ ((inA H a .byte i = true ∨ inA H a .boolean i = true) ∧ W (pj lw) 23 34 L (elt H a i :: S) k n H Q) := W_baload (rfl : (pj lw).1 23 33 = some (.baload, 1, 0))
theorem w23_34 {x : Int32} : W (pj lw) 23 34 L (.int x :: S) k n H Q ↔ (if x = 0 then W (pj lw) 23 37 L S k n H Q else W (pj lw) 23 41 L S k n H Q) := W_if_ne (rfl : (pj lw).1 23 34 = some (.ifCond .ne 7, 3, 0)) rfl
theorem w23_37 : W (pj lw) 23 37 L S k n H Q ↔ W (pj lw) 23 38 L (.int 1 :: S) k n H Q := W_s (rfl : (pj lw).1 23 37 = some (.iconst 1, 1, 0)) rfl rfl rfl
theorem w23_38 : W (pj lw) 23 38 L S k n H Q ↔ W (pj lw) 23 42 L S k n H Q := W_goto (rfl : (pj lw).1 23 38 = some (.goto 4, 3, 0)) rfl
theorem w23_41 : W (pj lw) 23 41 L S k n H Q ↔ W (pj lw) 23 42 L (.int 0 :: S) k n H Q := W_s (rfl : (pj lw).1 23 41 = some (.iconst 0, 1, 0)) rfl rfl rfl
theorem w23_42 {x : Int32} : W (pj lw) 23 42 L (.int x :: S) k n H Q ↔ ((x = 0 ∨ x = 1) ∧ Q (some (.int x)) H) := W_rz (rfl : (pj lw).1 23 42 = some (.ireturn, 1, 0)) rfl
theorem c24 {x0 : Nat} : Cl (pj lw) 24 [.ref x0] H Q ↔ W (pj lw) 24 0 [.val (.ref x0), .unset, .unset, .unset] [] 0 0 H Q := cl_unf rfl
theorem w24_0 : W (pj lw) 24 0 L S k n H Q ↔ W (pj lw) 24 1 L (.int 0 :: S) k n H Q := W_s (rfl : (pj lw).1 24 0 = some (.iconst 0, 1, 0)) rfl rfl rfl
theorem w24_1 {x : Int32} {l0 : Slot} : W (pj lw) 24 1 (l0 :: .unset :: L) (.int x :: S) k n H Q ↔ W (pj lw) 24 2 (l0 :: .val (.int x) :: L) S k n H Q := W_istn (rfl : (pj lw).1 24 1 = some (.istore_n 1, 1, 0)) rfl rfl
theorem w24_2 {x : Int32} {l0 : Slot} : W (pj lw) 24 2 (l0 :: .val (.int x) :: L) S k n H Q ↔ W (pj lw) 24 3 (l0 :: .val (.int x) :: L) (.int x :: S) k n H Q := W_s (rfl : (pj lw).1 24 2 = some (.iload_n 1, 1, 0)) rfl rfl rfl
theorem w24_3 {x : Nat} : W (pj lw) 24 3 (.val (.ref x) :: L) S k n H Q ↔ W (pj lw) 24 4 (.val (.ref x) :: L) (.ref x :: S) k n H Q := W_s (rfl : (pj lw).1 24 3 = some (.aload_n 0, 1, 0)) rfl rfl rfl
theorem w24_4 {a : Nat} : W (pj lw) 24 4 L (.ref a :: S) k n H Q ↔ (isO H a = true ∧ W (pj lw) 24 7 L (fld H a 18 :: S) k n H Q) := W_getf (rfl : (pj lw).1 24 4 = some (.getfield 70, 3, 18))
theorem w24_7 {x y : Int32} : W (pj lw) 24 7 L (.int y :: .int x :: S) k n H Q ↔ (if x < y then W (pj lw) 24 10 L S k n H Q else W (pj lw) 24 75 L S k n H Q) := W_icmp_ge (rfl : (pj lw).1 24 7 = some (.if_icmp .ge 68, 3, 0)) rfl
theorem w24_10 {x : Nat} : W (pj lw) 24 10 (.val (.ref x) :: L) S k n H Q ↔ W (pj lw) 24 11 (.val (.ref x) :: L) (.ref x :: S) k n H Q := W_s (rfl : (pj lw).1 24 10 = some (.aload_n 0, 1, 0)) rfl rfl rfl
theorem w24_11 {a : Nat} : W (pj lw) 24 11 L (.ref a :: S) k n H Q ↔ (isO H a = true ∧ W (pj lw) 24 14 L (fld H a 15 :: S) k n H Q) := W_getf (rfl : (pj lw).1 24 11 = some (.getfield 44, 3, 15))
theorem w24_14 {x : Int32} {l0 : Slot} : W (pj lw) 24 14 (l0 :: .val (.int x) :: L) S k n H Q ↔ W (pj lw) 24 15 (l0 :: .val (.int x) :: L) (.int x :: S) k n H Q := W_s (rfl : (pj lw).1 24 14 = some (.iload_n 1, 1, 0)) rfl rfl rfl
theorem w24_15 {i : Int32} {a : Nat} : W (pj lw) 24 15 L (.int i :: .ref a :: S) k n H Q ↔ (inA H a .int i = true ∧ W (pj lw) 24 16 L (elt H a i :: S) k n H Q) := W_iaload (rfl : (pj lw).1 24 15 = some (.iaload, 1, 0))
theorem w24_16i {y : Int32} {x : Int32} {l0 l1 : Slot} : W (pj lw) 24 16 (l0 :: l1 :: .val (.int y) :: L) (.int x :: S) k n H Q ↔ W (pj lw) 24 17 (l0 :: l1 :: .val (.int x) :: L) S k n H Q := W_istn (rfl : (pj lw).1 24 16 = some (.istore_n 2, 1, 0)) rfl rfl
theorem w24_16 {x : Int32} {l0 l1 : Slot} : W (pj lw) 24 16 (l0 :: l1 :: .unset :: L) (.int x :: S) k n H Q ↔ W (pj lw) 24 17 (l0 :: l1 :: .val (.int x) :: L) S k n H Q := W_istn (rfl : (pj lw).1 24 16 = some (.istore_n 2, 1, 0)) rfl rfl
theorem w24_17 {x : Nat} : W (pj lw) 24 17 (.val (.ref x) :: L) S k n H Q ↔ W (pj lw) 24 18 (.val (.ref x) :: L) (.ref x :: S) k n H Q := W_s (rfl : (pj lw).1 24 17 = some (.aload_n 0, 1, 0)) rfl rfl rfl
theorem w24_18 {a : Nat} : W (pj lw) 24 18 L (.ref a :: S) k n H Q ↔ (isO H a = true ∧ W (pj lw) 24 21 L (fld H a 16 :: S) k n H Q) := W_getf (rfl : (pj lw).1 24 18 = some (.getfield 47, 3, 16))
theorem w24_21 {x : Int32} {l0 : Slot} : W (pj lw) 24 21 (l0 :: .val (.int x) :: L) S k n H Q ↔ W (pj lw) 24 22 (l0 :: .val (.int x) :: L) (.int x :: S) k n H Q := W_s (rfl : (pj lw).1 24 21 = some (.iload_n 1, 1, 0)) rfl rfl rfl
theorem w24_22 {i : Int32} {a : Nat} : W (pj lw) 24 22 L (.int i :: .ref a :: S) k n H Q ↔ (inA H a .int i = true ∧ W (pj lw) 24 23 L (elt H a i :: S) k n H Q) := W_iaload (rfl : (pj lw).1 24 22 = some (.iaload, 1, 0))
theorem w24_23i {y : Int32} {x : Int32} {l0 l1 l2 : Slot} : W (pj lw) 24 23 (l0 :: l1 :: l2 :: .val (.int y) :: L) (.int x :: S) k n H Q ↔ W (pj lw) 24 24 (l0 :: l1 :: l2 :: .val (.int x) :: L) S k n H Q := W_istn (rfl : (pj lw).1 24 23 = some (.istore_n 3, 1, 0)) rfl rfl
theorem w24_23 {x : Int32} {l0 l1 l2 : Slot} : W (pj lw) 24 23 (l0 :: l1 :: l2 :: .unset :: L) (.int x :: S) k n H Q ↔ W (pj lw) 24 24 (l0 :: l1 :: l2 :: .val (.int x) :: L) S k n H Q := W_istn (rfl : (pj lw).1 24 23 = some (.istore_n 3, 1, 0)) rfl rfl
theorem w24_24 {x : Nat} : W (pj lw) 24 24 (.val (.ref x) :: L) S k n H Q ↔ W (pj lw) 24 25 (.val (.ref x) :: L) (.ref x :: S) k n H Q := W_s (rfl : (pj lw).1 24 24 = some (.aload_n 0, 1, 0)) rfl rfl rfl
theorem w24_25 {x : Int32} {l0 l1 : Slot} : W (pj lw) 24 25 (l0 :: l1 :: .val (.int x) :: L) S k n H Q ↔ W (pj lw) 24 26 (l0 :: l1 :: .val (.int x) :: L) (.int x :: S) k n H Q := W_s (rfl : (pj lw).1 24 25 = some (.iload_n 2, 1, 0)) rfl rfl rfl
theorem w24_26 {x : Int32} {l0 l1 l2 : Slot} : W (pj lw) 24 26 (l0 :: l1 :: l2 :: .val (.int x) :: L) S k n H Q ↔ W (pj lw) 24 27 (l0 :: l1 :: l2 :: .val (.int x) :: L) (.int x :: S) k n H Q := W_s (rfl : (pj lw).1 24 26 = some (.iload_n 3, 1, 0)) rfl rfl rfl
theorem w24_27 {a : Nat} {x0 : Int32} {x1 : Int32} : W (pj lw) 24 27 L (.int x1 :: .int x0 :: .ref a :: S) k n H Q ↔ ((isO H a = true ∧ cs S + (3 + 11) + 0 ≤ 28) ∧ Cl (pj lw) 23 [.ref a, .int x0, .int x1] H (fun v H => W (pj lw) 24 30 L (v.toList ++ S) k n H Q)) := W_inst (as := [.int x0, .int x1]) (rfl : (pj lw).1 24 27 = some (.invokevirtual 131, 3, 23)) rfl rfl rfl (Nat.le_of_ble_eq_true rfl) (Nat.le_of_ble_eq_true rfl) ⟨rfl, rfl⟩
theorem w24_30 {x : Int32} : W (pj lw) 24 30 L (.int x :: S) k n H Q ↔ (if x = 0 then W (pj lw) 24 48 L S k n H Q else W (pj lw) 24 33 L S k n H Q) := W_if_eq (rfl : (pj lw).1 24 30 = some (.ifCond .eq 18, 3, 0)) rfl
theorem w24_33 {x : Nat} : W (pj lw) 24 33 (.val (.ref x) :: L) S k n H Q ↔ W (pj lw) 24 34 (.val (.ref x) :: L) (.ref x :: S) k n H Q := W_s (rfl : (pj lw).1 24 33 = some (.aload_n 0, 1, 0)) rfl rfl rfl
theorem w24_34 {x : Int32} {l0 l1 : Slot} : W (pj lw) 24 34 (l0 :: l1 :: .val (.int x) :: L) S k n H Q ↔ W (pj lw) 24 35 (l0 :: l1 :: .val (.int x) :: L) (.int x :: S) k n H Q := W_s (rfl : (pj lw).1 24 34 = some (.iload_n 2, 1, 0)) rfl rfl rfl
theorem w24_35 {x : Int32} {l0 l1 l2 : Slot} : W (pj lw) 24 35 (l0 :: l1 :: l2 :: .val (.int x) :: L) S k n H Q ↔ W (pj lw) 24 36 (l0 :: l1 :: l2 :: .val (.int x) :: L) (.int x :: S) k n H Q := W_s (rfl : (pj lw).1 24 35 = some (.iload_n 3, 1, 0)) rfl rfl rfl
theorem w24_36 {x : Nat} : W (pj lw) 24 36 (.val (.ref x) :: L) S k n H Q ↔ W (pj lw) 24 37 (.val (.ref x) :: L) (.ref x :: S) k n H Q := W_s (rfl : (pj lw).1 24 36 = some (.aload_n 0, 1, 0)) rfl rfl rfl
theorem w24_37 {a : Nat} : W (pj lw) 24 37 L (.ref a :: S) k n H Q ↔ (isO H a = true ∧ W (pj lw) 24 40 L (fld H a 17 :: S) k n H Q) := W_getf (rfl : (pj lw).1 24 37 = some (.getfield 50, 3, 17))
theorem w24_40 {x : Int32} {l0 : Slot} : W (pj lw) 24 40 (l0 :: .val (.int x) :: L) S k n H Q ↔ W (pj lw) 24 41 (l0 :: .val (.int x) :: L) (.int x :: S) k n H Q := W_s (rfl : (pj lw).1 24 40 = some (.iload_n 1, 1, 0)) rfl rfl rfl
theorem w24_41 {i : Int32} {a : Nat} : W (pj lw) 24 41 L (.int i :: .ref a :: S) k n H Q ↔ (inA H a .int i = true ∧ W (pj lw) 24 42 L (elt H a i :: S) k n H Q) := W_iaload (rfl : (pj lw).1 24 41 = some (.iaload, 1, 0))
theorem w24_42 {a : Nat} {x0 : Int32} {x1 : Int32} {x2 : Int32} : W (pj lw) 24 42 L (.int x2 :: .int x1 :: .int x0 :: .ref a :: S) k n H Q ↔ ((isO H a = true ∧ cs S + (5 + 11) + 12 ≤ 28) ∧ Cl (pj lw) 25 [.ref a, .int x0, .int x1, .int x2] H (fun v H => W (pj lw) 24 45 L (v.toList ++ S) k n H Q)) := W_inst (as := [.int x0, .int x1, .int x2]) (rfl : (pj lw).1 24 42 = some (.invokevirtual 134, 3, 25)) rfl rfl rfl (Nat.le_of_ble_eq_true rfl) (Nat.le_of_ble_eq_true rfl) ⟨rfl, rfl⟩
theorem w24_45 : W (pj lw) 24 45 L S k n H Q ↔ W (pj lw) 24 69 L S k n H Q := W_goto (rfl : (pj lw).1 24 45 = some (.goto 24, 3, 0)) rfl
theorem w24_48 {x : Nat} : W (pj lw) 24 48 (.val (.ref x) :: L) S k n H Q ↔ W (pj lw) 24 49 (.val (.ref x) :: L) (.ref x :: S) k n H Q := W_s (rfl : (pj lw).1 24 48 = some (.aload_n 0, 1, 0)) rfl rfl rfl
theorem w24_49 {x : Int32} {l0 l1 l2 : Slot} : W (pj lw) 24 49 (l0 :: l1 :: l2 :: .val (.int x) :: L) S k n H Q ↔ W (pj lw) 24 50 (l0 :: l1 :: l2 :: .val (.int x) :: L) (.int x :: S) k n H Q := W_s (rfl : (pj lw).1 24 49 = some (.iload_n 3, 1, 0)) rfl rfl rfl
theorem w24_50 {x : Int32} {l0 l1 : Slot} : W (pj lw) 24 50 (l0 :: l1 :: .val (.int x) :: L) S k n H Q ↔ W (pj lw) 24 51 (l0 :: l1 :: .val (.int x) :: L) (.int x :: S) k n H Q := W_s (rfl : (pj lw).1 24 50 = some (.iload_n 2, 1, 0)) rfl rfl rfl
theorem w24_51 {a : Nat} {x0 : Int32} {x1 : Int32} : W (pj lw) 24 51 L (.int x1 :: .int x0 :: .ref a :: S) k n H Q ↔ ((isO H a = true ∧ cs S + (3 + 11) + 0 ≤ 28) ∧ Cl (pj lw) 23 [.ref a, .int x0, .int x1] H (fun v H => W (pj lw) 24 54 L (v.toList ++ S) k n H Q)) := W_inst (as := [.int x0, .int x1]) (rfl : (pj lw).1 24 51 = some (.invokevirtual 131, 3, 23)) rfl rfl rfl (Nat.le_of_ble_eq_true rfl) (Nat.le_of_ble_eq_true rfl) ⟨rfl, rfl⟩
theorem w24_54 {x : Int32} : W (pj lw) 24 54 L (.int x :: S) k n H Q ↔ (if x = 0 then W (pj lw) 24 69 L S k n H Q else W (pj lw) 24 57 L S k n H Q) := W_if_eq (rfl : (pj lw).1 24 54 = some (.ifCond .eq 15, 3, 0)) rfl
theorem w24_57 {x : Nat} : W (pj lw) 24 57 (.val (.ref x) :: L) S k n H Q ↔ W (pj lw) 24 58 (.val (.ref x) :: L) (.ref x :: S) k n H Q := W_s (rfl : (pj lw).1 24 57 = some (.aload_n 0, 1, 0)) rfl rfl rfl
theorem w24_58 {x : Int32} {l0 l1 l2 : Slot} : W (pj lw) 24 58 (l0 :: l1 :: l2 :: .val (.int x) :: L) S k n H Q ↔ W (pj lw) 24 59 (l0 :: l1 :: l2 :: .val (.int x) :: L) (.int x :: S) k n H Q := W_s (rfl : (pj lw).1 24 58 = some (.iload_n 3, 1, 0)) rfl rfl rfl
theorem w24_59 {x : Int32} {l0 l1 : Slot} : W (pj lw) 24 59 (l0 :: l1 :: .val (.int x) :: L) S k n H Q ↔ W (pj lw) 24 60 (l0 :: l1 :: .val (.int x) :: L) (.int x :: S) k n H Q := W_s (rfl : (pj lw).1 24 59 = some (.iload_n 2, 1, 0)) rfl rfl rfl
theorem w24_60 {x : Nat} : W (pj lw) 24 60 (.val (.ref x) :: L) S k n H Q ↔ W (pj lw) 24 61 (.val (.ref x) :: L) (.ref x :: S) k n H Q := W_s (rfl : (pj lw).1 24 60 = some (.aload_n 0, 1, 0)) rfl rfl rfl
theorem w24_61 {a : Nat} : W (pj lw) 24 61 L (.ref a :: S) k n H Q ↔ (isO H a = true ∧ W (pj lw) 24 64 L (fld H a 17 :: S) k n H Q) := W_getf (rfl : (pj lw).1 24 61 = some (.getfield 50, 3, 17))
theorem w24_64 {x : Int32} {l0 : Slot} : W (pj lw) 24 64 (l0 :: .val (.int x) :: L) S k n H Q ↔ W (pj lw) 24 65 (l0 :: .val (.int x) :: L) (.int x :: S) k n H Q := W_s (rfl : (pj lw).1 24 64 = some (.iload_n 1, 1, 0)) rfl rfl rfl
theorem w24_65 {i : Int32} {a : Nat} : W (pj lw) 24 65 L (.int i :: .ref a :: S) k n H Q ↔ (inA H a .int i = true ∧ W (pj lw) 24 66 L (elt H a i :: S) k n H Q) := W_iaload (rfl : (pj lw).1 24 65 = some (.iaload, 1, 0))
theorem w24_66 {a : Nat} {x0 : Int32} {x1 : Int32} {x2 : Int32} : W (pj lw) 24 66 L (.int x2 :: .int x1 :: .int x0 :: .ref a :: S) k n H Q ↔ ((isO H a = true ∧ cs S + (5 + 11) + 12 ≤ 28) ∧ Cl (pj lw) 25 [.ref a, .int x0, .int x1, .int x2] H (fun v H => W (pj lw) 24 69 L (v.toList ++ S) k n H Q)) := W_inst (as := [.int x0, .int x1, .int x2]) (rfl : (pj lw).1 24 66 = some (.invokevirtual 134, 3, 25)) rfl rfl rfl (Nat.le_of_ble_eq_true rfl) (Nat.le_of_ble_eq_true rfl) ⟨rfl, rfl⟩
theorem w24_69 {x : Int32} {l0 : Slot} : W (pj lw) 24 69 (l0 :: .val (.int x) :: L) S k n H Q ↔ W (pj lw) 24 72 (l0 :: .val (.int (x + 1)) :: L) S k n H Q := W_s (rfl : (pj lw).1 24 69 = some (.iinc 1 1, 3, 0)) rfl rfl rfl
theorem w24_72 : W (pj lw) 24 72 L S k n H Q ↔ W (pj lw) 24 2 L S k n H Q := W_goto (rfl : (pj lw).1 24 72 = some (.goto (-70), 3, 0)) rfl
theorem w24_75 : W (pj lw) 24 75 L [] k n H Q ↔ Q none H := W_r (rfl : (pj lw).1 24 75 = some (.return_, 1, 0)) rfl
theorem c25 {x0 : Nat} {x1 : Int32} {x2 : Int32} {x3 : Int32} : Cl (pj lw) 25 [.ref x0, .int x1, .int x2, .int x3] H Q ↔ W (pj lw) 25 0 [.val (.ref x0), .val (.int x1), .val (.int x2), .val (.int x3), .unset] [] 0 0 H Q := cl_unf rfl
theorem w25_0 {x : Nat} : W (pj lw) 25 0 (.val (.ref x) :: L) S k n H Q ↔ W (pj lw) 25 1 (.val (.ref x) :: L) (.ref x :: S) k n H Q := W_s (rfl : (pj lw).1 25 0 = some (.aload_n 0, 1, 0)) rfl rfl rfl
theorem w25_1 {a : Nat} : W (pj lw) 25 1 L (.ref a :: S) k n H Q ↔ ((isO H a = true ∧ cs S + (1 + 11) + 0 ≤ 12) ∧ Cl (pj lw) 19 [.ref a] H (fun v H => W (pj lw) 25 4 L (v.toList ++ S) k n H Q)) := W_inst (as := []) (rfl : (pj lw).1 25 1 = some (.invokevirtual 138, 3, 19)) rfl rfl rfl (Nat.le_of_ble_eq_true rfl) (Nat.le_of_ble_eq_true rfl) ⟨rfl, rfl⟩
theorem w25_4 {x : Int32} {l0 l1 l2 l3 : Slot} : W (pj lw) 25 4 (l0 :: l1 :: l2 :: l3 :: .unset :: L) (.int x :: S) k n H Q ↔ W (pj lw) 25 6 (l0 :: l1 :: l2 :: l3 :: .val (.int x) :: L) S k n H Q := W_ist (rfl : (pj lw).1 25 4 = some (.istore 4, 2, 0)) rfl rfl
theorem w25_6 {x : Int32} {l0 l1 l2 l3 : Slot} : W (pj lw) 25 6 (l0 :: l1 :: l2 :: l3 :: .val (.int x) :: L) S k n H Q ↔ W (pj lw) 25 8 (l0 :: l1 :: l2 :: l3 :: .val (.int x) :: L) (.int x :: S) k n H Q := W_s (rfl : (pj lw).1 25 6 = some (.iload 4, 2, 0)) rfl rfl rfl
theorem w25_8 {x : Int32} {l0 l1 l2 : Slot} : W (pj lw) 25 8 (l0 :: l1 :: l2 :: .val (.int x) :: L) S k n H Q ↔ W (pj lw) 25 9 (l0 :: l1 :: l2 :: .val (.int x) :: L) (.int x :: S) k n H Q := W_s (rfl : (pj lw).1 25 8 = some (.iload_n 3, 1, 0)) rfl rfl rfl
theorem w25_9 {x y : Int32} : W (pj lw) 25 9 L (.int y :: .int x :: S) k n H Q ↔ (if x < y then W (pj lw) 25 12 L S k n H Q else W (pj lw) 25 71 L S k n H Q) := W_icmp_ge (rfl : (pj lw).1 25 9 = some (.if_icmp .ge 62, 3, 0)) rfl
theorem w25_12 {x : Nat} : W (pj lw) 25 12 (.val (.ref x) :: L) S k n H Q ↔ W (pj lw) 25 13 (.val (.ref x) :: L) (.ref x :: S) k n H Q := W_s (rfl : (pj lw).1 25 12 = some (.aload_n 0, 1, 0)) rfl rfl rfl
theorem w25_13 {a : Nat} : W (pj lw) 25 13 L (.ref a :: S) k n H Q ↔ (isO H a = true ∧ W (pj lw) 25 16 L (fld H a 4 :: S) k n H Q) := W_getf (rfl : (pj lw).1 25 13 = some (.getfield 7, 3, 4))
theorem w25_16 {x : Int32} {l0 l1 : Slot} : W (pj lw) 25 16 (l0 :: l1 :: .val (.int x) :: L) S k n H Q ↔ W (pj lw) 25 17 (l0 :: l1 :: .val (.int x) :: L) (.int x :: S) k n H Q := W_s (rfl : (pj lw).1 25 16 = some (.iload_n 2, 1, 0)) rfl rfl rfl
theorem w25_17 {i : Int32} {a : Nat} : W (pj lw) 25 17 L (.int i :: .ref a :: S) k n H Q ↔ (inA H a .int i = true ∧ W (pj lw) 25 18 L (elt H a i :: S) k n H Q) := W_iaload (rfl : (pj lw).1 25 17 = some (.iaload, 1, 0))
theorem w25_18 {x : Int32} : W (pj lw) 25 18 L (.int x :: S) k n H Q ↔ (if x = 0 then W (pj lw) 25 21 L S k n H Q else W (pj lw) 25 71 L S k n H Q) := W_if_ne (rfl : (pj lw).1 25 18 = some (.ifCond .ne 53, 3, 0)) rfl
theorem w25_21 {x : Nat} : W (pj lw) 25 21 (.val (.ref x) :: L) S k n H Q ↔ W (pj lw) 25 22 (.val (.ref x) :: L) (.ref x :: S) k n H Q := W_s (rfl : (pj lw).1 25 21 = some (.aload_n 0, 1, 0)) rfl rfl rfl
theorem w25_22 {a : Nat} : W (pj lw) 25 22 L (.ref a :: S) k n H Q ↔ (isO H a = true ∧ W (pj lw) 25 25 L (fld H a 4 :: S) k n H Q) := W_getf (rfl : (pj lw).1 25 22 = some (.getfield 7, 3, 4))
theorem w25_25 {x : Int32} {l0 l1 : Slot} : W (pj lw) 25 25 (l0 :: l1 :: .val (.int x) :: L) S k n H Q ↔ W (pj lw) 25 26 (l0 :: l1 :: .val (.int x) :: L) (.int x :: S) k n H Q := W_s (rfl : (pj lw).1 25 25 = some (.iload_n 2, 1, 0)) rfl rfl rfl
theorem w25_26 : W (pj lw) 25 26 L S k n H Q ↔ W (pj lw) 25 27 L (.int 1 :: S) k n H Q := W_s (rfl : (pj lw).1 25 26 = some (.iconst 1, 1, 0)) rfl rfl rfl
theorem w25_27 {x i : Int32} {a : Nat} : W (pj lw) 25 27 L (.int x :: .int i :: .ref a :: S) k n H Q ↔ (inAw H a .int i = true ∧ W (pj lw) 25 28 L S k n (wr H a i.toNatClampNeg (.int x)) Q) := W_iastore (rfl : (pj lw).1 25 27 = some (.iastore, 1, 0))
theorem w25_28 {x : Nat} : W (pj lw) 25 28 (.val (.ref x) :: L) S k n H Q ↔ W (pj lw) 25 29 (.val (.ref x) :: L) (.ref x :: S) k n H Q := W_s (rfl : (pj lw).1 25 28 = some (.aload_n 0, 1, 0)) rfl rfl rfl
theorem w25_29 {a : Nat} : W (pj lw) 25 29 L (.ref a :: S) k n H Q ↔ (isO H a = true ∧ W (pj lw) 25 32 L (fld H a 5 :: S) k n H Q) := W_getf (rfl : (pj lw).1 25 29 = some (.getfield 13, 3, 5))
theorem w25_32 {x : Int32} {l0 l1 : Slot} : W (pj lw) 25 32 (l0 :: l1 :: .val (.int x) :: L) S k n H Q ↔ W (pj lw) 25 33 (l0 :: l1 :: .val (.int x) :: L) (.int x :: S) k n H Q := W_s (rfl : (pj lw).1 25 32 = some (.iload_n 2, 1, 0)) rfl rfl rfl
theorem w25_33 {x : Nat} : W (pj lw) 25 33 (.val (.ref x) :: L) S k n H Q ↔ W (pj lw) 25 34 (.val (.ref x) :: L) (.ref x :: S) k n H Q := W_s (rfl : (pj lw).1 25 33 = some (.aload_n 0, 1, 0)) rfl rfl rfl
theorem w25_34 {a : Nat} : W (pj lw) 25 34 L (.ref a :: S) k n H Q ↔ (isO H a = true ∧ W (pj lw) 25 37 L (fld H a 1 :: S) k n H Q) := W_getf (rfl : (pj lw).1 25 34 = some (.getfield 61, 3, 1))
theorem w25_37 {x i : Int32} {a : Nat} : W (pj lw) 25 37 L (.int x :: .int i :: .ref a :: S) k n H Q ↔ (inAw H a .int i = true ∧ W (pj lw) 25 38 L S k n (wr H a i.toNatClampNeg (.int x)) Q) := W_iastore (rfl : (pj lw).1 25 37 = some (.iastore, 1, 0))
theorem w25_38 {x : Nat} : W (pj lw) 25 38 (.val (.ref x) :: L) S k n H Q ↔ W (pj lw) 25 39 (.val (.ref x) :: L) (.ref x :: S) k n H Q := W_s (rfl : (pj lw).1 25 38 = some (.aload_n 0, 1, 0)) rfl rfl rfl
theorem w25_39 {a : Nat} : W (pj lw) 25 39 L (.ref a :: S) k n H Q ↔ (isO H a = true ∧ W (pj lw) 25 42 L (fld H a 9 :: S) k n H Q) := W_getf (rfl : (pj lw).1 25 39 = some (.getfield 26, 3, 9))
theorem w25_42 {x : Int32} {l0 l1 : Slot} : W (pj lw) 25 42 (l0 :: l1 :: .val (.int x) :: L) S k n H Q ↔ W (pj lw) 25 43 (l0 :: l1 :: .val (.int x) :: L) (.int x :: S) k n H Q := W_s (rfl : (pj lw).1 25 42 = some (.iload_n 2, 1, 0)) rfl rfl rfl
theorem w25_43 {x : Int32} {l0 : Slot} : W (pj lw) 25 43 (l0 :: .val (.int x) :: L) S k n H Q ↔ W (pj lw) 25 44 (l0 :: .val (.int x) :: L) (.int x :: S) k n H Q := W_s (rfl : (pj lw).1 25 43 = some (.iload_n 1, 1, 0)) rfl rfl rfl
theorem w25_44 {x i : Int32} {a : Nat} : W (pj lw) 25 44 L (.int x :: .int i :: .ref a :: S) k n H Q ↔ (inAw H a .int i = true ∧ W (pj lw) 25 45 L S k n (wr H a i.toNatClampNeg (.int x)) Q) := W_iastore (rfl : (pj lw).1 25 44 = some (.iastore, 1, 0))
theorem w25_45 {x : Nat} : W (pj lw) 25 45 (.val (.ref x) :: L) S k n H Q ↔ W (pj lw) 25 46 (.val (.ref x) :: L) (.ref x :: S) k n H Q := W_s (rfl : (pj lw).1 25 45 = some (.aload_n 0, 1, 0)) rfl rfl rfl
theorem w25_46 {a : Nat} : W (pj lw) 25 46 L (.ref a :: S) k n H Q ↔ (isO H a = true ∧ W (pj lw) 25 49 L (fld H a 10 :: S) k n H Q) := W_getf (rfl : (pj lw).1 25 46 = some (.getfield 29, 3, 10))
theorem w25_49 {x : Int32} {l0 l1 : Slot} : W (pj lw) 25 49 (l0 :: l1 :: .val (.int x) :: L) S k n H Q ↔ W (pj lw) 25 50 (l0 :: l1 :: .val (.int x) :: L) (.int x :: S) k n H Q := W_s (rfl : (pj lw).1 25 49 = some (.iload_n 2, 1, 0)) rfl rfl rfl
theorem w25_50 {x : Nat} : W (pj lw) 25 50 (.val (.ref x) :: L) S k n H Q ↔ W (pj lw) 25 51 (.val (.ref x) :: L) (.ref x :: S) k n H Q := W_s (rfl : (pj lw).1 25 50 = some (.aload_n 0, 1, 0)) rfl rfl rfl
theorem w25_51 {a : Nat} : W (pj lw) 25 51 L (.ref a :: S) k n H Q ↔ (isO H a = true ∧ W (pj lw) 25 54 L (fld H a 22 :: S) k n H Q) := W_getf (rfl : (pj lw).1 25 51 = some (.getfield 82, 3, 22))
theorem w25_54 : W (pj lw) 25 54 L S k n H Q ↔ W (pj lw) 25 55 L (.int 1 :: S) k n H Q := W_s (rfl : (pj lw).1 25 54 = some (.iconst 1, 1, 0)) rfl rfl rfl
theorem w25_55 {x y : Int32} : W (pj lw) 25 55 L (.int y :: .int x :: S) k n H Q ↔ W (pj lw) 25 56 L (.int (x + y) :: S) k n H Q := W_s (rfl : (pj lw).1 25 55 = some (.iadd, 1, 0)) rfl rfl rfl
theorem w25_56 {x i : Int32} {a : Nat} : W (pj lw) 25 56 L (.int x :: .int i :: .ref a :: S) k n H Q ↔ (inAw H a .int i = true ∧ W (pj lw) 25 57 L S k n (wr H a i.toNatClampNeg (.int x)) Q) := W_iastore (rfl : (pj lw).1 25 56 = some (.iastore, 1, 0))
theorem w25_57 {x : Nat} : W (pj lw) 25 57 (.val (.ref x) :: L) S k n H Q ↔ W (pj lw) 25 58 (.val (.ref x) :: L) (.ref x :: S) k n H Q := W_s (rfl : (pj lw).1 25 57 = some (.aload_n 0, 1, 0)) rfl rfl rfl
theorem w25_58 {a : Nat} : W (pj lw) 25 58 L (.ref a :: S) k n H Q ↔ (isO H a = true ∧ W (pj lw) 25 61 L (fld H a 11 :: S) k n H Q) := W_getf (rfl : (pj lw).1 25 58 = some (.getfield 32, 3, 11))
theorem w25_61 {x : Int32} {l0 l1 : Slot} : W (pj lw) 25 61 (l0 :: l1 :: .val (.int x) :: L) S k n H Q ↔ W (pj lw) 25 62 (l0 :: l1 :: .val (.int x) :: L) (.int x :: S) k n H Q := W_s (rfl : (pj lw).1 25 61 = some (.iload_n 2, 1, 0)) rfl rfl rfl
theorem w25_62 {x : Nat} : W (pj lw) 25 62 (.val (.ref x) :: L) S k n H Q ↔ W (pj lw) 25 63 (.val (.ref x) :: L) (.ref x :: S) k n H Q := W_s (rfl : (pj lw).1 25 62 = some (.aload_n 0, 1, 0)) rfl rfl rfl
theorem w25_63 {a : Nat} : W (pj lw) 25 63 L (.ref a :: S) k n H Q ↔ (isO H a = true ∧ W (pj lw) 25 66 L (fld H a 11 :: S) k n H Q) := W_getf (rfl : (pj lw).1 25 63 = some (.getfield 32, 3, 11))
theorem w25_66 {x : Int32} {l0 : Slot} : W (pj lw) 25 66 (l0 :: .val (.int x) :: L) S k n H Q ↔ W (pj lw) 25 67 (l0 :: .val (.int x) :: L) (.int x :: S) k n H Q := W_s (rfl : (pj lw).1 25 66 = some (.iload_n 1, 1, 0)) rfl rfl rfl
theorem w25_67 {i : Int32} {a : Nat} : W (pj lw) 25 67 L (.int i :: .ref a :: S) k n H Q ↔ (inA H a .int i = true ∧ W (pj lw) 25 68 L (elt H a i :: S) k n H Q) := W_iaload (rfl : (pj lw).1 25 67 = some (.iaload, 1, 0))
theorem w25_68 : W (pj lw) 25 68 L S k n H Q ↔ W (pj lw) 25 69 L (.int 1 :: S) k n H Q := W_s (rfl : (pj lw).1 25 68 = some (.iconst 1, 1, 0)) rfl rfl rfl
theorem w25_69 {x y : Int32} : W (pj lw) 25 69 L (.int y :: .int x :: S) k n H Q ↔ W (pj lw) 25 70 L (.int (x + y) :: S) k n H Q := W_s (rfl : (pj lw).1 25 69 = some (.iadd, 1, 0)) rfl rfl rfl
theorem w25_70 {x i : Int32} {a : Nat} : W (pj lw) 25 70 L (.int x :: .int i :: .ref a :: S) k n H Q ↔ (inAw H a .int i = true ∧ W (pj lw) 25 71 L S k n (wr H a i.toNatClampNeg (.int x)) Q) := W_iastore (rfl : (pj lw).1 25 70 = some (.iastore, 1, 0))
theorem w25_71 : W (pj lw) 25 71 L [] k n H Q ↔ Q none H := W_r (rfl : (pj lw).1 25 71 = some (.return_, 1, 0)) rfl
theorem c26 {x0 : Nat} : Cl (pj lw) 26 [.ref x0] H Q ↔ W (pj lw) 26 0 [.val (.ref x0), .unset] [] 0 0 H Q := cl_unf rfl
theorem w26_0 : W (pj lw) 26 0 L S k n H Q ↔ W (pj lw) 26 1 L (.int 0 :: S) k n H Q := W_s (rfl : (pj lw).1 26 0 = some (.iconst 0, 1, 0)) rfl rfl rfl
theorem w26_1 {x : Int32} {l0 : Slot} : W (pj lw) 26 1 (l0 :: .unset :: L) (.int x :: S) k n H Q ↔ W (pj lw) 26 2 (l0 :: .val (.int x) :: L) S k n H Q := W_istn (rfl : (pj lw).1 26 1 = some (.istore_n 1, 1, 0)) rfl rfl
theorem w26_2 {x : Int32} {l0 : Slot} : W (pj lw) 26 2 (l0 :: .val (.int x) :: L) S k n H Q ↔ W (pj lw) 26 3 (l0 :: .val (.int x) :: L) (.int x :: S) k n H Q := W_s (rfl : (pj lw).1 26 2 = some (.iload_n 1, 1, 0)) rfl rfl rfl
theorem w26_3 {x : Nat} : W (pj lw) 26 3 (.val (.ref x) :: L) S k n H Q ↔ W (pj lw) 26 4 (.val (.ref x) :: L) (.ref x :: S) k n H Q := W_s (rfl : (pj lw).1 26 3 = some (.aload_n 0, 1, 0)) rfl rfl rfl
theorem w26_4 {a : Nat} : W (pj lw) 26 4 L (.ref a :: S) k n H Q ↔ (isO H a = true ∧ W (pj lw) 26 7 L (fld H a 0 :: S) k n H Q) := W_getf (rfl : (pj lw).1 26 4 = some (.getfield 57, 3, 0))
theorem w26_7 {x y : Int32} : W (pj lw) 26 7 L (.int y :: .int x :: S) k n H Q ↔ (if x < y then W (pj lw) 26 10 L S k n H Q else W (pj lw) 26 109 L S k n H Q) := W_icmp_ge (rfl : (pj lw).1 26 7 = some (.if_icmp .ge 102, 3, 0)) rfl
theorem w26_10 {x : Nat} : W (pj lw) 26 10 (.val (.ref x) :: L) S k n H Q ↔ W (pj lw) 26 11 (.val (.ref x) :: L) (.ref x :: S) k n H Q := W_s (rfl : (pj lw).1 26 10 = some (.aload_n 0, 1, 0)) rfl rfl rfl
theorem w26_11 {a : Nat} : W (pj lw) 26 11 L (.ref a :: S) k n H Q ↔ (isO H a = true ∧ W (pj lw) 26 14 L (fld H a 12 :: S) k n H Q) := W_getf (rfl : (pj lw).1 26 11 = some (.getfield 35, 3, 12))
theorem w26_14 {x : Int32} {l0 : Slot} : W (pj lw) 26 14 (l0 :: .val (.int x) :: L) S k n H Q ↔ W (pj lw) 26 15 (l0 :: .val (.int x) :: L) (.int x :: S) k n H Q := W_s (rfl : (pj lw).1 26 14 = some (.iload_n 1, 1, 0)) rfl rfl rfl
theorem w26_15 {i : Int32} {a : Nat} : W (pj lw) 26 15 L (.int i :: .ref a :: S) k n H Q ↔ (inA H a .int i = true ∧ W (pj lw) 26 16 L (elt H a i :: S) k n H Q) := W_iaload (rfl : (pj lw).1 26 15 = some (.iaload, 1, 0))
theorem w26_16 : W (pj lw) 26 16 L S k n H Q ↔ W (pj lw) 26 17 L (.int 1 :: S) k n H Q := W_s (rfl : (pj lw).1 26 16 = some (.iconst 1, 1, 0)) rfl rfl rfl
theorem w26_17 {x y : Int32} : W (pj lw) 26 17 L (.int y :: .int x :: S) k n H Q ↔ (if x = y then W (pj lw) 26 20 L S k n H Q else W (pj lw) 26 63 L S k n H Q) := W_icmp_ne (rfl : (pj lw).1 26 17 = some (.if_icmp .ne 46, 3, 0)) rfl
theorem w26_20 {x : Nat} : W (pj lw) 26 20 (.val (.ref x) :: L) S k n H Q ↔ W (pj lw) 26 21 (.val (.ref x) :: L) (.ref x :: S) k n H Q := W_s (rfl : (pj lw).1 26 20 = some (.aload_n 0, 1, 0)) rfl rfl rfl
theorem w26_21 {a : Nat} : W (pj lw) 26 21 L (.ref a :: S) k n H Q ↔ (isO H a = true ∧ W (pj lw) 26 24 L (fld H a 5 :: S) k n H Q) := W_getf (rfl : (pj lw).1 26 21 = some (.getfield 13, 3, 5))
theorem w26_24 {x : Int32} {l0 : Slot} : W (pj lw) 26 24 (l0 :: .val (.int x) :: L) S k n H Q ↔ W (pj lw) 26 25 (l0 :: .val (.int x) :: L) (.int x :: S) k n H Q := W_s (rfl : (pj lw).1 26 24 = some (.iload_n 1, 1, 0)) rfl rfl rfl
theorem w26_25 {x : Nat} : W (pj lw) 26 25 (.val (.ref x) :: L) S k n H Q ↔ W (pj lw) 26 26 (.val (.ref x) :: L) (.ref x :: S) k n H Q := W_s (rfl : (pj lw).1 26 25 = some (.aload_n 0, 1, 0)) rfl rfl rfl
theorem w26_26 {a : Nat} : W (pj lw) 26 26 L (.ref a :: S) k n H Q ↔ (isO H a = true ∧ W (pj lw) 26 29 L (fld H a 5 :: S) k n H Q) := W_getf (rfl : (pj lw).1 26 26 = some (.getfield 13, 3, 5))
theorem w26_29 {x : Int32} {l0 : Slot} : W (pj lw) 26 29 (l0 :: .val (.int x) :: L) S k n H Q ↔ W (pj lw) 26 30 (l0 :: .val (.int x) :: L) (.int x :: S) k n H Q := W_s (rfl : (pj lw).1 26 29 = some (.iload_n 1, 1, 0)) rfl rfl rfl
theorem w26_30 {i : Int32} {a : Nat} : W (pj lw) 26 30 L (.int i :: .ref a :: S) k n H Q ↔ (inA H a .int i = true ∧ W (pj lw) 26 31 L (elt H a i :: S) k n H Q) := W_iaload (rfl : (pj lw).1 26 30 = some (.iaload, 1, 0))
theorem w26_31 : W (pj lw) 26 31 L S k n H Q ↔ W (pj lw) 26 32 L (.int 1 :: S) k n H Q := W_s (rfl : (pj lw).1 26 31 = some (.iconst 1, 1, 0)) rfl rfl rfl
theorem w26_32 {x y : Int32} : W (pj lw) 26 32 L (.int y :: .int x :: S) k n H Q ↔ W (pj lw) 26 33 L (.int (x - y) :: S) k n H Q := W_s (rfl : (pj lw).1 26 32 = some (.isub, 1, 0)) rfl rfl rfl
theorem w26_33 {x i : Int32} {a : Nat} : W (pj lw) 26 33 L (.int x :: .int i :: .ref a :: S) k n H Q ↔ (inAw H a .int i = true ∧ W (pj lw) 26 34 L S k n (wr H a i.toNatClampNeg (.int x)) Q) := W_iastore (rfl : (pj lw).1 26 33 = some (.iastore, 1, 0))
theorem w26_34 {x : Nat} : W (pj lw) 26 34 (.val (.ref x) :: L) S k n H Q ↔ W (pj lw) 26 35 (.val (.ref x) :: L) (.ref x :: S) k n H Q := W_s (rfl : (pj lw).1 26 34 = some (.aload_n 0, 1, 0)) rfl rfl rfl
theorem w26_35 {a : Nat} : W (pj lw) 26 35 L (.ref a :: S) k n H Q ↔ (isO H a = true ∧ W (pj lw) 26 38 L (fld H a 5 :: S) k n H Q) := W_getf (rfl : (pj lw).1 26 35 = some (.getfield 13, 3, 5))
theorem w26_38 {x : Int32} {l0 : Slot} : W (pj lw) 26 38 (l0 :: .val (.int x) :: L) S k n H Q ↔ W (pj lw) 26 39 (l0 :: .val (.int x) :: L) (.int x :: S) k n H Q := W_s (rfl : (pj lw).1 26 38 = some (.iload_n 1, 1, 0)) rfl rfl rfl
theorem w26_39 {i : Int32} {a : Nat} : W (pj lw) 26 39 L (.int i :: .ref a :: S) k n H Q ↔ (inA H a .int i = true ∧ W (pj lw) 26 40 L (elt H a i :: S) k n H Q) := W_iaload (rfl : (pj lw).1 26 39 = some (.iaload, 1, 0))
theorem w26_40 {x : Int32} : W (pj lw) 26 40 L (.int x :: S) k n H Q ↔ (if x = 0 then W (pj lw) 26 43 L S k n H Q else W (pj lw) 26 103 L S k n H Q) := W_if_ne (rfl : (pj lw).1 26 40 = some (.ifCond .ne 63, 3, 0)) rfl
theorem w26_43 {x : Nat} : W (pj lw) 26 43 (.val (.ref x) :: L) S k n H Q ↔ W (pj lw) 26 44 (.val (.ref x) :: L) (.ref x :: S) k n H Q := W_s (rfl : (pj lw).1 26 43 = some (.aload_n 0, 1, 0)) rfl rfl rfl
theorem w26_44 {a : Nat} : W (pj lw) 26 44 L (.ref a :: S) k n H Q ↔ (isO H a = true ∧ W (pj lw) 26 47 L (fld H a 4 :: S) k n H Q) := W_getf (rfl : (pj lw).1 26 44 = some (.getfield 7, 3, 4))
theorem w26_47 {x : Int32} {l0 : Slot} : W (pj lw) 26 47 (l0 :: .val (.int x) :: L) S k n H Q ↔ W (pj lw) 26 48 (l0 :: .val (.int x) :: L) (.int x :: S) k n H Q := W_s (rfl : (pj lw).1 26 47 = some (.iload_n 1, 1, 0)) rfl rfl rfl
theorem w26_48 : W (pj lw) 26 48 L S k n H Q ↔ W (pj lw) 26 49 L (.int 2 :: S) k n H Q := W_s (rfl : (pj lw).1 26 48 = some (.iconst 2, 1, 0)) rfl rfl rfl
theorem w26_49 {x i : Int32} {a : Nat} : W (pj lw) 26 49 L (.int x :: .int i :: .ref a :: S) k n H Q ↔ (inAw H a .int i = true ∧ W (pj lw) 26 50 L S k n (wr H a i.toNatClampNeg (.int x)) Q) := W_iastore (rfl : (pj lw).1 26 49 = some (.iastore, 1, 0))
theorem w26_50 {x : Nat} : W (pj lw) 26 50 (.val (.ref x) :: L) S k n H Q ↔ W (pj lw) 26 51 (.val (.ref x) :: L) (.ref x :: S) k n H Q := W_s (rfl : (pj lw).1 26 50 = some (.aload_n 0, 1, 0)) rfl rfl rfl
theorem w26_51 {a : Nat} : W (pj lw) 26 51 L (.ref a :: S) k n H Q ↔ (isO H a = true ∧ W (pj lw) 26 54 L (fld H a 5 :: S) k n H Q) := W_getf (rfl : (pj lw).1 26 51 = some (.getfield 13, 3, 5))
theorem w26_54 {x : Int32} {l0 : Slot} : W (pj lw) 26 54 (l0 :: .val (.int x) :: L) S k n H Q ↔ W (pj lw) 26 55 (l0 :: .val (.int x) :: L) (.int x :: S) k n H Q := W_s (rfl : (pj lw).1 26 54 = some (.iload_n 1, 1, 0)) rfl rfl rfl
theorem w26_55 {x : Nat} : W (pj lw) 26 55 (.val (.ref x) :: L) S k n H Q ↔ W (pj lw) 26 56 (.val (.ref x) :: L) (.ref x :: S) k n H Q := W_s (rfl : (pj lw).1 26 55 = some (.aload_n 0, 1, 0)) rfl rfl rfl
theorem w26_56 {a : Nat} : W (pj lw) 26 56 L (.ref a :: S) k n H Q ↔ (isO H a = true ∧ W (pj lw) 26 59 L (fld H a 2 :: S) k n H Q) := W_getf (rfl : (pj lw).1 26 56 = some (.getfield 64, 3, 2))
theorem w26_59 {x i : Int32} {a : Nat} : W (pj lw) 26 59 L (.int x :: .int i :: .ref a :: S) k n H Q ↔ (inAw H a .int i = true ∧ W (pj lw) 26 60 L S k n (wr H a i.toNatClampNeg (.int x)) Q) := W_iastore (rfl : (pj lw).1 26 59 = some (.iastore, 1, 0))
theorem w26_60 : W (pj lw) 26 60 L S k n H Q ↔ W (pj lw) 26 103 L S k n H Q := W_goto (rfl : (pj lw).1 26 60 = some (.goto 43, 3, 0)) rfl
theorem w26_63 {x : Nat} : W (pj lw) 26 63 (.val (.ref x) :: L) S k n H Q ↔ W (pj lw) 26 64 (.val (.ref x) :: L) (.ref x :: S) k n H Q := W_s (rfl : (pj lw).1 26 63 = some (.aload_n 0, 1, 0)) rfl rfl rfl
theorem w26_64 {a : Nat} : W (pj lw) 26 64 L (.ref a :: S) k n H Q ↔ (isO H a = true ∧ W (pj lw) 26 67 L (fld H a 12 :: S) k n H Q) := W_getf (rfl : (pj lw).1 26 64 = some (.getfield 35, 3, 12))
theorem w26_67 {x : Int32} {l0 : Slot} : W (pj lw) 26 67 (l0 :: .val (.int x) :: L) S k n H Q ↔ W (pj lw) 26 68 (l0 :: .val (.int x) :: L) (.int x :: S) k n H Q := W_s (rfl : (pj lw).1 26 67 = some (.iload_n 1, 1, 0)) rfl rfl rfl
theorem w26_68 {i : Int32} {a : Nat} : W (pj lw) 26 68 L (.int i :: .ref a :: S) k n H Q ↔ (inA H a .int i = true ∧ W (pj lw) 26 69 L (elt H a i :: S) k n H Q) := W_iaload (rfl : (pj lw).1 26 68 = some (.iaload, 1, 0))
theorem w26_69 : W (pj lw) 26 69 L S k n H Q ↔ W (pj lw) 26 70 L (.int 2 :: S) k n H Q := W_s (rfl : (pj lw).1 26 69 = some (.iconst 2, 1, 0)) rfl rfl rfl
theorem w26_70 {x y : Int32} : W (pj lw) 26 70 L (.int y :: .int x :: S) k n H Q ↔ (if x = y then W (pj lw) 26 73 L S k n H Q else W (pj lw) 26 103 L S k n H Q) := W_icmp_ne (rfl : (pj lw).1 26 70 = some (.if_icmp .ne 33, 3, 0)) rfl
theorem w26_73 {x : Nat} : W (pj lw) 26 73 (.val (.ref x) :: L) S k n H Q ↔ W (pj lw) 26 74 (.val (.ref x) :: L) (.ref x :: S) k n H Q := W_s (rfl : (pj lw).1 26 73 = some (.aload_n 0, 1, 0)) rfl rfl rfl
theorem w26_74 {a : Nat} : W (pj lw) 26 74 L (.ref a :: S) k n H Q ↔ (isO H a = true ∧ W (pj lw) 26 77 L (fld H a 5 :: S) k n H Q) := W_getf (rfl : (pj lw).1 26 74 = some (.getfield 13, 3, 5))
theorem w26_77 {x : Int32} {l0 : Slot} : W (pj lw) 26 77 (l0 :: .val (.int x) :: L) S k n H Q ↔ W (pj lw) 26 78 (l0 :: .val (.int x) :: L) (.int x :: S) k n H Q := W_s (rfl : (pj lw).1 26 77 = some (.iload_n 1, 1, 0)) rfl rfl rfl
theorem w26_78 {x : Nat} : W (pj lw) 26 78 (.val (.ref x) :: L) S k n H Q ↔ W (pj lw) 26 79 (.val (.ref x) :: L) (.ref x :: S) k n H Q := W_s (rfl : (pj lw).1 26 78 = some (.aload_n 0, 1, 0)) rfl rfl rfl
theorem w26_79 {a : Nat} : W (pj lw) 26 79 L (.ref a :: S) k n H Q ↔ (isO H a = true ∧ W (pj lw) 26 82 L (fld H a 5 :: S) k n H Q) := W_getf (rfl : (pj lw).1 26 79 = some (.getfield 13, 3, 5))
theorem w26_82 {x : Int32} {l0 : Slot} : W (pj lw) 26 82 (l0 :: .val (.int x) :: L) S k n H Q ↔ W (pj lw) 26 83 (l0 :: .val (.int x) :: L) (.int x :: S) k n H Q := W_s (rfl : (pj lw).1 26 82 = some (.iload_n 1, 1, 0)) rfl rfl rfl
theorem w26_83 {i : Int32} {a : Nat} : W (pj lw) 26 83 L (.int i :: .ref a :: S) k n H Q ↔ (inA H a .int i = true ∧ W (pj lw) 26 84 L (elt H a i :: S) k n H Q) := W_iaload (rfl : (pj lw).1 26 83 = some (.iaload, 1, 0))
theorem w26_84 : W (pj lw) 26 84 L S k n H Q ↔ W (pj lw) 26 85 L (.int 1 :: S) k n H Q := W_s (rfl : (pj lw).1 26 84 = some (.iconst 1, 1, 0)) rfl rfl rfl
theorem w26_85 {x y : Int32} : W (pj lw) 26 85 L (.int y :: .int x :: S) k n H Q ↔ W (pj lw) 26 86 L (.int (x - y) :: S) k n H Q := W_s (rfl : (pj lw).1 26 85 = some (.isub, 1, 0)) rfl rfl rfl
theorem w26_86 {x i : Int32} {a : Nat} : W (pj lw) 26 86 L (.int x :: .int i :: .ref a :: S) k n H Q ↔ (inAw H a .int i = true ∧ W (pj lw) 26 87 L S k n (wr H a i.toNatClampNeg (.int x)) Q) := W_iastore (rfl : (pj lw).1 26 86 = some (.iastore, 1, 0))
theorem w26_87 {x : Nat} : W (pj lw) 26 87 (.val (.ref x) :: L) S k n H Q ↔ W (pj lw) 26 88 (.val (.ref x) :: L) (.ref x :: S) k n H Q := W_s (rfl : (pj lw).1 26 87 = some (.aload_n 0, 1, 0)) rfl rfl rfl
theorem w26_88 {a : Nat} : W (pj lw) 26 88 L (.ref a :: S) k n H Q ↔ (isO H a = true ∧ W (pj lw) 26 91 L (fld H a 5 :: S) k n H Q) := W_getf (rfl : (pj lw).1 26 88 = some (.getfield 13, 3, 5))
theorem w26_91 {x : Int32} {l0 : Slot} : W (pj lw) 26 91 (l0 :: .val (.int x) :: L) S k n H Q ↔ W (pj lw) 26 92 (l0 :: .val (.int x) :: L) (.int x :: S) k n H Q := W_s (rfl : (pj lw).1 26 91 = some (.iload_n 1, 1, 0)) rfl rfl rfl
theorem w26_92 {i : Int32} {a : Nat} : W (pj lw) 26 92 L (.int i :: .ref a :: S) k n H Q ↔ (inA H a .int i = true ∧ W (pj lw) 26 93 L (elt H a i :: S) k n H Q) := W_iaload (rfl : (pj lw).1 26 92 = some (.iaload, 1, 0))
theorem w26_93 {x : Int32} : W (pj lw) 26 93 L (.int x :: S) k n H Q ↔ (if x = 0 then W (pj lw) 26 96 L S k n H Q else W (pj lw) 26 103 L S k n H Q) := W_if_ne (rfl : (pj lw).1 26 93 = some (.ifCond .ne 10, 3, 0)) rfl
theorem w26_96 {x : Nat} : W (pj lw) 26 96 (.val (.ref x) :: L) S k n H Q ↔ W (pj lw) 26 97 (.val (.ref x) :: L) (.ref x :: S) k n H Q := W_s (rfl : (pj lw).1 26 96 = some (.aload_n 0, 1, 0)) rfl rfl rfl
theorem w26_97 {a : Nat} : W (pj lw) 26 97 L (.ref a :: S) k n H Q ↔ (isO H a = true ∧ W (pj lw) 26 100 L (fld H a 4 :: S) k n H Q) := W_getf (rfl : (pj lw).1 26 97 = some (.getfield 7, 3, 4))
theorem w26_100 {x : Int32} {l0 : Slot} : W (pj lw) 26 100 (l0 :: .val (.int x) :: L) S k n H Q ↔ W (pj lw) 26 101 (l0 :: .val (.int x) :: L) (.int x :: S) k n H Q := W_s (rfl : (pj lw).1 26 100 = some (.iload_n 1, 1, 0)) rfl rfl rfl
theorem w26_101 : W (pj lw) 26 101 L S k n H Q ↔ W (pj lw) 26 102 L (.int 3 :: S) k n H Q := W_s (rfl : (pj lw).1 26 101 = some (.iconst 3, 1, 0)) rfl rfl rfl
theorem w26_102 {x i : Int32} {a : Nat} : W (pj lw) 26 102 L (.int x :: .int i :: .ref a :: S) k n H Q ↔ (inAw H a .int i = true ∧ W (pj lw) 26 103 L S k n (wr H a i.toNatClampNeg (.int x)) Q) := W_iastore (rfl : (pj lw).1 26 102 = some (.iastore, 1, 0))
theorem w26_103 {x : Int32} {l0 : Slot} : W (pj lw) 26 103 (l0 :: .val (.int x) :: L) S k n H Q ↔ W (pj lw) 26 106 (l0 :: .val (.int (x + 1)) :: L) S k n H Q := W_s (rfl : (pj lw).1 26 103 = some (.iinc 1 1, 3, 0)) rfl rfl rfl
theorem w26_106 : W (pj lw) 26 106 L S k n H Q ↔ W (pj lw) 26 2 L S k n H Q := W_goto (rfl : (pj lw).1 26 106 = some (.goto (-104), 3, 0)) rfl
theorem w26_109 : W (pj lw) 26 109 L [] k n H Q ↔ Q none H := W_r (rfl : (pj lw).1 26 109 = some (.return_, 1, 0)) rfl
theorem c27 {x0 : Nat} : Cl (pj lw) 27 [.ref x0] H Q ↔ W (pj lw) 27 0 [.val (.ref x0), .unset] [] 0 0 H Q := cl_unf rfl
theorem w27_0 : W (pj lw) 27 0 L S k n H Q ↔ W (pj lw) 27 1 L (.int 0 :: S) k n H Q := W_s (rfl : (pj lw).1 27 0 = some (.iconst 0, 1, 0)) rfl rfl rfl
theorem w27_1 {x : Int32} {l0 : Slot} : W (pj lw) 27 1 (l0 :: .unset :: L) (.int x :: S) k n H Q ↔ W (pj lw) 27 2 (l0 :: .val (.int x) :: L) S k n H Q := W_istn (rfl : (pj lw).1 27 1 = some (.istore_n 1, 1, 0)) rfl rfl
theorem w27_2 {x : Int32} {l0 : Slot} : W (pj lw) 27 2 (l0 :: .val (.int x) :: L) S k n H Q ↔ W (pj lw) 27 3 (l0 :: .val (.int x) :: L) (.int x :: S) k n H Q := W_s (rfl : (pj lw).1 27 2 = some (.iload_n 1, 1, 0)) rfl rfl rfl
theorem w27_3 {x : Nat} : W (pj lw) 27 3 (.val (.ref x) :: L) S k n H Q ↔ W (pj lw) 27 4 (.val (.ref x) :: L) (.ref x :: S) k n H Q := W_s (rfl : (pj lw).1 27 3 = some (.aload_n 0, 1, 0)) rfl rfl rfl
theorem w27_4 {a : Nat} : W (pj lw) 27 4 L (.ref a :: S) k n H Q ↔ (isO H a = true ∧ W (pj lw) 27 7 L (fld H a 0 :: S) k n H Q) := W_getf (rfl : (pj lw).1 27 4 = some (.getfield 57, 3, 0))
theorem w27_7 {x y : Int32} : W (pj lw) 27 7 L (.int y :: .int x :: S) k n H Q ↔ (if x < y then W (pj lw) 27 10 L S k n H Q else W (pj lw) 27 39 L S k n H Q) := W_icmp_ge (rfl : (pj lw).1 27 7 = some (.if_icmp .ge 32, 3, 0)) rfl
theorem w27_10 {x : Nat} : W (pj lw) 27 10 (.val (.ref x) :: L) S k n H Q ↔ W (pj lw) 27 11 (.val (.ref x) :: L) (.ref x :: S) k n H Q := W_s (rfl : (pj lw).1 27 10 = some (.aload_n 0, 1, 0)) rfl rfl rfl
theorem w27_11 {a : Nat} : W (pj lw) 27 11 L (.ref a :: S) k n H Q ↔ (isO H a = true ∧ W (pj lw) 27 14 L (fld H a 6 :: S) k n H Q) := W_getf (rfl : (pj lw).1 27 11 = some (.getfield 16, 3, 6))
theorem w27_14 {x : Int32} {l0 : Slot} : W (pj lw) 27 14 (l0 :: .val (.int x) :: L) S k n H Q ↔ W (pj lw) 27 15 (l0 :: .val (.int x) :: L) (.int x :: S) k n H Q := W_s (rfl : (pj lw).1 27 14 = some (.iload_n 1, 1, 0)) rfl rfl rfl
theorem w27_15 {i : Int32} {a : Nat} : W (pj lw) 27 15 L (.int i :: .ref a :: S) k n H Q ↔ (inA H a .int i = true ∧ W (pj lw) 27 16 L (elt H a i :: S) k n H Q) := W_iaload (rfl : (pj lw).1 27 15 = some (.iaload, 1, 0))
theorem w27_16 {x : Int32} : W (pj lw) 27 16 L (.int x :: S) k n H Q ↔ (if 0 < x then W (pj lw) 27 19 L S k n H Q else W (pj lw) 27 33 L S k n H Q) := W_if_le (rfl : (pj lw).1 27 16 = some (.ifCond .le 17, 3, 0)) rfl
theorem w27_19 {x : Nat} : W (pj lw) 27 19 (.val (.ref x) :: L) S k n H Q ↔ W (pj lw) 27 20 (.val (.ref x) :: L) (.ref x :: S) k n H Q := W_s (rfl : (pj lw).1 27 19 = some (.aload_n 0, 1, 0)) rfl rfl rfl
theorem w27_20 {a : Nat} : W (pj lw) 27 20 L (.ref a :: S) k n H Q ↔ (isO H a = true ∧ W (pj lw) 27 23 L (fld H a 6 :: S) k n H Q) := W_getf (rfl : (pj lw).1 27 20 = some (.getfield 16, 3, 6))
theorem w27_23 {x : Int32} {l0 : Slot} : W (pj lw) 27 23 (l0 :: .val (.int x) :: L) S k n H Q ↔ W (pj lw) 27 24 (l0 :: .val (.int x) :: L) (.int x :: S) k n H Q := W_s (rfl : (pj lw).1 27 23 = some (.iload_n 1, 1, 0)) rfl rfl rfl
theorem w27_24 {x : Nat} : W (pj lw) 27 24 (.val (.ref x) :: L) S k n H Q ↔ W (pj lw) 27 25 (.val (.ref x) :: L) (.ref x :: S) k n H Q := W_s (rfl : (pj lw).1 27 24 = some (.aload_n 0, 1, 0)) rfl rfl rfl
theorem w27_25 {a : Nat} : W (pj lw) 27 25 L (.ref a :: S) k n H Q ↔ (isO H a = true ∧ W (pj lw) 27 28 L (fld H a 6 :: S) k n H Q) := W_getf (rfl : (pj lw).1 27 25 = some (.getfield 16, 3, 6))
theorem w27_28 {x : Int32} {l0 : Slot} : W (pj lw) 27 28 (l0 :: .val (.int x) :: L) S k n H Q ↔ W (pj lw) 27 29 (l0 :: .val (.int x) :: L) (.int x :: S) k n H Q := W_s (rfl : (pj lw).1 27 28 = some (.iload_n 1, 1, 0)) rfl rfl rfl
theorem w27_29 {i : Int32} {a : Nat} : W (pj lw) 27 29 L (.int i :: .ref a :: S) k n H Q ↔ (inA H a .int i = true ∧ W (pj lw) 27 30 L (elt H a i :: S) k n H Q) := W_iaload (rfl : (pj lw).1 27 29 = some (.iaload, 1, 0))
theorem w27_30 : W (pj lw) 27 30 L S k n H Q ↔ W (pj lw) 27 31 L (.int 1 :: S) k n H Q := W_s (rfl : (pj lw).1 27 30 = some (.iconst 1, 1, 0)) rfl rfl rfl
theorem w27_31 {x y : Int32} : W (pj lw) 27 31 L (.int y :: .int x :: S) k n H Q ↔ W (pj lw) 27 32 L (.int (x - y) :: S) k n H Q := W_s (rfl : (pj lw).1 27 31 = some (.isub, 1, 0)) rfl rfl rfl
theorem w27_32 {x i : Int32} {a : Nat} : W (pj lw) 27 32 L (.int x :: .int i :: .ref a :: S) k n H Q ↔ (inAw H a .int i = true ∧ W (pj lw) 27 33 L S k n (wr H a i.toNatClampNeg (.int x)) Q) := W_iastore (rfl : (pj lw).1 27 32 = some (.iastore, 1, 0))
theorem w27_33 {x : Int32} {l0 : Slot} : W (pj lw) 27 33 (l0 :: .val (.int x) :: L) S k n H Q ↔ W (pj lw) 27 36 (l0 :: .val (.int (x + 1)) :: L) S k n H Q := W_s (rfl : (pj lw).1 27 33 = some (.iinc 1 1, 3, 0)) rfl rfl rfl
theorem w27_36 : W (pj lw) 27 36 L S k n H Q ↔ W (pj lw) 27 2 L S k n H Q := W_goto (rfl : (pj lw).1 27 36 = some (.goto (-34), 3, 0)) rfl
theorem w27_39 : W (pj lw) 27 39 L [] k n H Q ↔ Q none H := W_r (rfl : (pj lw).1 27 39 = some (.return_, 1, 0)) rfl
theorem c28 {x0 : Nat} : Cl (pj lw) 28 [.ref x0] H Q ↔ W (pj lw) 28 0 [.val (.ref x0), .unset, .unset] [] 0 0 H Q := cl_unf rfl
theorem w28_0 : W (pj lw) 28 0 L S k n H Q ↔ W (pj lw) 28 1 L (.int 0 :: S) k n H Q := W_s (rfl : (pj lw).1 28 0 = some (.iconst 0, 1, 0)) rfl rfl rfl
theorem w28_1 {x : Int32} {l0 : Slot} : W (pj lw) 28 1 (l0 :: .unset :: L) (.int x :: S) k n H Q ↔ W (pj lw) 28 2 (l0 :: .val (.int x) :: L) S k n H Q := W_istn (rfl : (pj lw).1 28 1 = some (.istore_n 1, 1, 0)) rfl rfl
theorem w28_2 : W (pj lw) 28 2 L S k n H Q ↔ W (pj lw) 28 3 L (.int 0 :: S) k n H Q := W_s (rfl : (pj lw).1 28 2 = some (.iconst 0, 1, 0)) rfl rfl rfl
theorem w28_3 {x : Int32} {l0 l1 : Slot} : W (pj lw) 28 3 (l0 :: l1 :: .unset :: L) (.int x :: S) k n H Q ↔ W (pj lw) 28 4 (l0 :: l1 :: .val (.int x) :: L) S k n H Q := W_istn (rfl : (pj lw).1 28 3 = some (.istore_n 2, 1, 0)) rfl rfl
theorem w28_4 {x : Int32} {l0 l1 : Slot} : W (pj lw) 28 4 (l0 :: l1 :: .val (.int x) :: L) S k n H Q ↔ W (pj lw) 28 5 (l0 :: l1 :: .val (.int x) :: L) (.int x :: S) k n H Q := W_s (rfl : (pj lw).1 28 4 = some (.iload_n 2, 1, 0)) rfl rfl rfl
theorem w28_5 {x : Nat} : W (pj lw) 28 5 (.val (.ref x) :: L) S k n H Q ↔ W (pj lw) 28 6 (.val (.ref x) :: L) (.ref x :: S) k n H Q := W_s (rfl : (pj lw).1 28 5 = some (.aload_n 0, 1, 0)) rfl rfl rfl
theorem w28_6 {a : Nat} : W (pj lw) 28 6 L (.ref a :: S) k n H Q ↔ (isO H a = true ∧ W (pj lw) 28 9 L (fld H a 0 :: S) k n H Q) := W_getf (rfl : (pj lw).1 28 6 = some (.getfield 57, 3, 0))
theorem w28_9 {x y : Int32} : W (pj lw) 28 9 L (.int y :: .int x :: S) k n H Q ↔ (if x < y then W (pj lw) 28 12 L S k n H Q else W (pj lw) 28 45 L S k n H Q) := W_icmp_ge (rfl : (pj lw).1 28 9 = some (.if_icmp .ge 36, 3, 0)) rfl
theorem w28_12 {x : Int32} {l0 : Slot} : W (pj lw) 28 12 (l0 :: .val (.int x) :: L) S k n H Q ↔ W (pj lw) 28 13 (l0 :: .val (.int x) :: L) (.int x :: S) k n H Q := W_s (rfl : (pj lw).1 28 12 = some (.iload_n 1, 1, 0)) rfl rfl rfl
theorem w28_13 {x : Nat} : W (pj lw) 28 13 (.val (.ref x) :: L) S k n H Q ↔ W (pj lw) 28 14 (.val (.ref x) :: L) (.ref x :: S) k n H Q := W_s (rfl : (pj lw).1 28 13 = some (.aload_n 0, 1, 0)) rfl rfl rfl
theorem w28_14 {a : Nat} : W (pj lw) 28 14 L (.ref a :: S) k n H Q ↔ (isO H a = true ∧ W (pj lw) 28 17 L (fld H a 19 :: S) k n H Q) := W_getf (rfl : (pj lw).1 28 14 = some (.getfield 73, 3, 19))
theorem w28_17 {x y : Int32} : W (pj lw) 28 17 L (.int y :: .int x :: S) k n H Q ↔ (if x < y then W (pj lw) 28 20 L S k n H Q else W (pj lw) 28 45 L S k n H Q) := W_icmp_ge (rfl : (pj lw).1 28 17 = some (.if_icmp .ge 28, 3, 0)) rfl
theorem w28_20 {x : Nat} : W (pj lw) 28 20 (.val (.ref x) :: L) S k n H Q ↔ W (pj lw) 28 21 (.val (.ref x) :: L) (.ref x :: S) k n H Q := W_s (rfl : (pj lw).1 28 20 = some (.aload_n 0, 1, 0)) rfl rfl rfl
theorem w28_21 {a : Nat} : W (pj lw) 28 21 L (.ref a :: S) k n H Q ↔ (isO H a = true ∧ W (pj lw) 28 24 L (fld H a 8 :: S) k n H Q) := W_getf (rfl : (pj lw).1 28 21 = some (.getfield 23, 3, 8))
theorem w28_24 {x : Int32} {l0 l1 : Slot} : W (pj lw) 28 24 (l0 :: l1 :: .val (.int x) :: L) S k n H Q ↔ W (pj lw) 28 25 (l0 :: l1 :: .val (.int x) :: L) (.int x :: S) k n H Q := W_s (rfl : (pj lw).1 28 24 = some (.iload_n 2, 1, 0)) rfl rfl rfl
theorem w28_25 {i : Int32} {a : Nat} : W (pj lw) 28 25 L (.int i :: .ref a :: S) k n H Q ↔ ((inA H a .byte i = true ∨ inA H a .boolean i = true) ∧ W (pj lw) 28 26 L (elt H a i :: S) k n H Q) := W_baload (rfl : (pj lw).1 28 25 = some (.baload, 1, 0))
theorem w28_26 {x : Int32} : W (pj lw) 28 26 L (.int x :: S) k n H Q ↔ (if x = 0 then W (pj lw) 28 39 L S k n H Q else W (pj lw) 28 29 L S k n H Q) := W_if_eq (rfl : (pj lw).1 28 26 = some (.ifCond .eq 13, 3, 0)) rfl
theorem w28_29 {x : Nat} : W (pj lw) 28 29 (.val (.ref x) :: L) S k n H Q ↔ W (pj lw) 28 30 (.val (.ref x) :: L) (.ref x :: S) k n H Q := W_s (rfl : (pj lw).1 28 29 = some (.aload_n 0, 1, 0)) rfl rfl rfl
theorem w28_30 {a : Nat} : W (pj lw) 28 30 L (.ref a :: S) k n H Q ↔ (isO H a = true ∧ W (pj lw) 28 33 L (fld H a 14 :: S) k n H Q) := W_getf (rfl : (pj lw).1 28 30 = some (.getfield 41, 3, 14))
theorem w28_33 {x : Int32} {l0 : Slot} : W (pj lw) 28 33 (l0 :: .val (.int x) :: L) S k n H Q ↔ W (pj lw) 28 34 (l0 :: .val (.int x) :: L) (.int x :: S) k n H Q := W_s (rfl : (pj lw).1 28 33 = some (.iload_n 1, 1, 0)) rfl rfl rfl
theorem w28_34 {x : Int32} {l0 l1 : Slot} : W (pj lw) 28 34 (l0 :: l1 :: .val (.int x) :: L) S k n H Q ↔ W (pj lw) 28 35 (l0 :: l1 :: .val (.int x) :: L) (.int x :: S) k n H Q := W_s (rfl : (pj lw).1 28 34 = some (.iload_n 2, 1, 0)) rfl rfl rfl
theorem w28_35 {x i : Int32} {a : Nat} : W (pj lw) 28 35 L (.int x :: .int i :: .ref a :: S) k n H Q ↔ (inAw H a .int i = true ∧ W (pj lw) 28 36 L S k n (wr H a i.toNatClampNeg (.int x)) Q) := W_iastore (rfl : (pj lw).1 28 35 = some (.iastore, 1, 0))
theorem w28_36 {x : Int32} {l0 : Slot} : W (pj lw) 28 36 (l0 :: .val (.int x) :: L) S k n H Q ↔ W (pj lw) 28 39 (l0 :: .val (.int (x + 1)) :: L) S k n H Q := W_s (rfl : (pj lw).1 28 36 = some (.iinc 1 1, 3, 0)) rfl rfl rfl
theorem w28_39 {x : Int32} {l0 l1 : Slot} : W (pj lw) 28 39 (l0 :: l1 :: .val (.int x) :: L) S k n H Q ↔ W (pj lw) 28 42 (l0 :: l1 :: .val (.int (x + 1)) :: L) S k n H Q := W_s (rfl : (pj lw).1 28 39 = some (.iinc 2 1, 3, 0)) rfl rfl rfl
theorem w28_42 : W (pj lw) 28 42 L S k n H Q ↔ W (pj lw) 28 4 L S k n H Q := W_goto (rfl : (pj lw).1 28 42 = some (.goto (-38), 3, 0)) rfl
theorem w28_45 : W (pj lw) 28 45 L S k n H Q ↔ W (pj lw) 28 46 L (.int 0 :: S) k n H Q := W_s (rfl : (pj lw).1 28 45 = some (.iconst 0, 1, 0)) rfl rfl rfl
theorem w28_46i {y : Int32} {x : Int32} {l0 l1 : Slot} : W (pj lw) 28 46 (l0 :: l1 :: .val (.int y) :: L) (.int x :: S) k n H Q ↔ W (pj lw) 28 47 (l0 :: l1 :: .val (.int x) :: L) S k n H Q := W_istn (rfl : (pj lw).1 28 46 = some (.istore_n 2, 1, 0)) rfl rfl
theorem w28_47 {x : Int32} {l0 l1 : Slot} : W (pj lw) 28 47 (l0 :: l1 :: .val (.int x) :: L) S k n H Q ↔ W (pj lw) 28 48 (l0 :: l1 :: .val (.int x) :: L) (.int x :: S) k n H Q := W_s (rfl : (pj lw).1 28 47 = some (.iload_n 2, 1, 0)) rfl rfl rfl
theorem w28_48 {x : Int32} {l0 : Slot} : W (pj lw) 28 48 (l0 :: .val (.int x) :: L) S k n H Q ↔ W (pj lw) 28 49 (l0 :: .val (.int x) :: L) (.int x :: S) k n H Q := W_s (rfl : (pj lw).1 28 48 = some (.iload_n 1, 1, 0)) rfl rfl rfl
theorem w28_49 {x y : Int32} : W (pj lw) 28 49 L (.int y :: .int x :: S) k n H Q ↔ (if x < y then W (pj lw) 28 52 L S k n H Q else W (pj lw) 28 68 L S k n H Q) := W_icmp_ge (rfl : (pj lw).1 28 49 = some (.if_icmp .ge 19, 3, 0)) rfl
theorem w28_52 {x : Nat} : W (pj lw) 28 52 (.val (.ref x) :: L) S k n H Q ↔ W (pj lw) 28 53 (.val (.ref x) :: L) (.ref x :: S) k n H Q := W_s (rfl : (pj lw).1 28 52 = some (.aload_n 0, 1, 0)) rfl rfl rfl
theorem w28_53 {x : Nat} : W (pj lw) 28 53 (.val (.ref x) :: L) S k n H Q ↔ W (pj lw) 28 54 (.val (.ref x) :: L) (.ref x :: S) k n H Q := W_s (rfl : (pj lw).1 28 53 = some (.aload_n 0, 1, 0)) rfl rfl rfl
theorem w28_54 {a : Nat} : W (pj lw) 28 54 L (.ref a :: S) k n H Q ↔ (isO H a = true ∧ W (pj lw) 28 57 L (fld H a 14 :: S) k n H Q) := W_getf (rfl : (pj lw).1 28 54 = some (.getfield 41, 3, 14))
theorem w28_57 {x : Int32} {l0 l1 : Slot} : W (pj lw) 28 57 (l0 :: l1 :: .val (.int x) :: L) S k n H Q ↔ W (pj lw) 28 58 (l0 :: l1 :: .val (.int x) :: L) (.int x :: S) k n H Q := W_s (rfl : (pj lw).1 28 57 = some (.iload_n 2, 1, 0)) rfl rfl rfl
theorem w28_58 {i : Int32} {a : Nat} : W (pj lw) 28 58 L (.int i :: .ref a :: S) k n H Q ↔ (inA H a .int i = true ∧ W (pj lw) 28 59 L (elt H a i :: S) k n H Q) := W_iaload (rfl : (pj lw).1 28 58 = some (.iaload, 1, 0))
theorem w28_59 {a : Nat} {x0 : Int32} : W (pj lw) 28 59 L (.int x0 :: .ref a :: S) k n H Q ↔ ((isO H a = true ∧ cs S + (2 + 11) + 15 ≤ 28) ∧ Cl (pj lw) 29 [.ref a, .int x0] H (fun v H => W (pj lw) 28 62 L (v.toList ++ S) k n H Q)) := W_inst (as := [.int x0]) (rfl : (pj lw).1 28 59 = some (.invokevirtual 141, 3, 29)) rfl rfl rfl (Nat.le_of_ble_eq_true rfl) (Nat.le_of_ble_eq_true rfl) ⟨rfl, rfl⟩
theorem w28_62 {x : Int32} {l0 l1 : Slot} : W (pj lw) 28 62 (l0 :: l1 :: .val (.int x) :: L) S k n H Q ↔ W (pj lw) 28 65 (l0 :: l1 :: .val (.int (x + 1)) :: L) S k n H Q := W_s (rfl : (pj lw).1 28 62 = some (.iinc 2 1, 3, 0)) rfl rfl rfl
theorem w28_65 : W (pj lw) 28 65 L S k n H Q ↔ W (pj lw) 28 47 L S k n H Q := W_goto (rfl : (pj lw).1 28 65 = some (.goto (-18), 3, 0)) rfl
theorem w28_68 : W (pj lw) 28 68 L [] k n H Q ↔ Q none H := W_r (rfl : (pj lw).1 28 68 = some (.return_, 1, 0)) rfl
theorem c29 {x0 : Nat} {x1 : Int32} : Cl (pj lw) 29 [.ref x0, .int x1] H Q ↔ W (pj lw) 29 0 [.val (.ref x0), .val (.int x1)] [] 0 0 H Q := cl_unf rfl
theorem w29_0 {x : Nat} : W (pj lw) 29 0 (.val (.ref x) :: L) S k n H Q ↔ W (pj lw) 29 1 (.val (.ref x) :: L) (.ref x :: S) k n H Q := W_s (rfl : (pj lw).1 29 0 = some (.aload_n 0, 1, 0)) rfl rfl rfl
theorem w29_1 {a : Nat} : W (pj lw) 29 1 L (.ref a :: S) k n H Q ↔ (isO H a = true ∧ W (pj lw) 29 4 L (fld H a 8 :: S) k n H Q) := W_getf (rfl : (pj lw).1 29 1 = some (.getfield 23, 3, 8))
theorem w29_4 {x : Int32} {l0 : Slot} : W (pj lw) 29 4 (l0 :: .val (.int x) :: L) S k n H Q ↔ W (pj lw) 29 5 (l0 :: .val (.int x) :: L) (.int x :: S) k n H Q := W_s (rfl : (pj lw).1 29 4 = some (.iload_n 1, 1, 0)) rfl rfl rfl
theorem w29_5 : W (pj lw) 29 5 L S k n H Q ↔ W (pj lw) 29 6 L (.int 0 :: S) k n H Q := W_s (rfl : (pj lw).1 29 5 = some (.iconst 0, 1, 0)) rfl rfl rfl
theorem w29_6 {x i : Int32} {a : Nat} : W (pj lw) 29 6 L (.int x :: .int i :: .ref a :: S) k n H Q ↔ (((inAw H a .byte i = true ∧ okv .byte (.int x) = true) ∨ (inAw H a .boolean i = true ∧ okv .boolean (.int x) = true)) ∧ W (pj lw) 29 7 L S k n (wr H a i.toNatClampNeg (.int x)) Q) := W_bastore (rfl : (pj lw).1 29 6 = some (.bastore, 1, 0))
theorem w29_7 {x : Nat} : W (pj lw) 29 7 (.val (.ref x) :: L) S k n H Q ↔ W (pj lw) 29 8 (.val (.ref x) :: L) (.ref x :: S) k n H Q := W_s (rfl : (pj lw).1 29 7 = some (.aload_n 0, 1, 0)) rfl rfl rfl
theorem w29_8 {x : Nat} : W (pj lw) 29 8 (.val (.ref x) :: L) S k n H Q ↔ W (pj lw) 29 9 (.val (.ref x) :: L) (.ref x :: S) k n H Q := W_s (rfl : (pj lw).1 29 8 = some (.aload_n 0, 1, 0)) rfl rfl rfl
theorem w29_9 {a : Nat} : W (pj lw) 29 9 L (.ref a :: S) k n H Q ↔ (isO H a = true ∧ W (pj lw) 29 12 L (fld H a 20 :: S) k n H Q) := W_getf (rfl : (pj lw).1 29 9 = some (.getfield 76, 3, 20))
theorem w29_12 : W (pj lw) 29 12 L S k n H Q ↔ W (pj lw) 29 13 L (.int 1 :: S) k n H Q := W_s (rfl : (pj lw).1 29 12 = some (.iconst 1, 1, 0)) rfl rfl rfl
theorem w29_13 {x y : Int32} : W (pj lw) 29 13 L (.int y :: .int x :: S) k n H Q ↔ W (pj lw) 29 14 L (.int (x + y) :: S) k n H Q := W_s (rfl : (pj lw).1 29 13 = some (.iadd, 1, 0)) rfl rfl rfl
theorem w29_14 {a : Nat} {v : Value} : W (pj lw) 29 14 L (v :: .ref a :: S) k n H Q ↔ ((isOw H a = true ∧ okv (.int) v = true) ∧ W (pj lw) 29 17 L S k n (wr H a 20 v) Q) := W_putf (rfl : (pj lw).1 29 14 = some (.putfield 76, 3, 20))
theorem w29_17 {x : Nat} : W (pj lw) 29 17 (.val (.ref x) :: L) S k n H Q ↔ W (pj lw) 29 18 (.val (.ref x) :: L) (.ref x :: S) k n H Q := W_s (rfl : (pj lw).1 29 17 = some (.aload_n 0, 1, 0)) rfl rfl rfl
theorem w29_18 {a : Nat} : W (pj lw) 29 18 L (.ref a :: S) k n H Q ↔ (isO H a = true ∧ W (pj lw) 29 21 L (fld H a 4 :: S) k n H Q) := W_getf (rfl : (pj lw).1 29 18 = some (.getfield 7, 3, 4))
theorem w29_21 {x : Int32} {l0 : Slot} : W (pj lw) 29 21 (l0 :: .val (.int x) :: L) S k n H Q ↔ W (pj lw) 29 22 (l0 :: .val (.int x) :: L) (.int x :: S) k n H Q := W_s (rfl : (pj lw).1 29 21 = some (.iload_n 1, 1, 0)) rfl rfl rfl
theorem w29_22 {i : Int32} {a : Nat} : W (pj lw) 29 22 L (.int i :: .ref a :: S) k n H Q ↔ (inA H a .int i = true ∧ W (pj lw) 29 23 L (elt H a i :: S) k n H Q) := W_iaload (rfl : (pj lw).1 29 22 = some (.iaload, 1, 0))
theorem w29_23 : W (pj lw) 29 23 L S k n H Q ↔ W (pj lw) 29 24 L (.int 2 :: S) k n H Q := W_s (rfl : (pj lw).1 29 23 = some (.iconst 2, 1, 0)) rfl rfl rfl
theorem w29_24 {x y : Int32} : W (pj lw) 29 24 L (.int y :: .int x :: S) k n H Q ↔ (if x = y then W (pj lw) 29 28 L S k n H Q else W (pj lw) 29 27 L S k n H Q) := W_icmp_eq (rfl : (pj lw).1 29 24 = some (.if_icmp .eq 4, 3, 0)) rfl
theorem w29_27 : W (pj lw) 29 27 L [] k n H Q ↔ Q none H := W_r (rfl : (pj lw).1 29 27 = some (.return_, 1, 0)) rfl
theorem w29_28 {x : Nat} : W (pj lw) 29 28 (.val (.ref x) :: L) S k n H Q ↔ W (pj lw) 29 29 (.val (.ref x) :: L) (.ref x :: S) k n H Q := W_s (rfl : (pj lw).1 29 28 = some (.aload_n 0, 1, 0)) rfl rfl rfl
theorem w29_29 {x : Nat} : W (pj lw) 29 29 (.val (.ref x) :: L) S k n H Q ↔ W (pj lw) 29 30 (.val (.ref x) :: L) (.ref x :: S) k n H Q := W_s (rfl : (pj lw).1 29 29 = some (.aload_n 0, 1, 0)) rfl rfl rfl
theorem w29_30 {a : Nat} : W (pj lw) 29 30 L (.ref a :: S) k n H Q ↔ (isO H a = true ∧ W (pj lw) 29 33 L (fld H a 21 :: S) k n H Q) := W_getf (rfl : (pj lw).1 29 30 = some (.getfield 79, 3, 21))
theorem w29_33 : W (pj lw) 29 33 L S k n H Q ↔ W (pj lw) 29 34 L (.int 1 :: S) k n H Q := W_s (rfl : (pj lw).1 29 33 = some (.iconst 1, 1, 0)) rfl rfl rfl
theorem w29_34 {x y : Int32} : W (pj lw) 29 34 L (.int y :: .int x :: S) k n H Q ↔ W (pj lw) 29 35 L (.int (x + y) :: S) k n H Q := W_s (rfl : (pj lw).1 29 34 = some (.iadd, 1, 0)) rfl rfl rfl
theorem w29_35 {a : Nat} {v : Value} : W (pj lw) 29 35 L (v :: .ref a :: S) k n H Q ↔ ((isOw H a = true ∧ okv (.int) v = true) ∧ W (pj lw) 29 38 L S k n (wr H a 21 v) Q) := W_putf (rfl : (pj lw).1 29 35 = some (.putfield 79, 3, 21))
theorem w29_38 {x : Nat} : W (pj lw) 29 38 (.val (.ref x) :: L) S k n H Q ↔ W (pj lw) 29 39 (.val (.ref x) :: L) (.ref x :: S) k n H Q := W_s (rfl : (pj lw).1 29 38 = some (.aload_n 0, 1, 0)) rfl rfl rfl
theorem w29_39 {a : Nat} : W (pj lw) 29 39 L (.ref a :: S) k n H Q ↔ (isO H a = true ∧ W (pj lw) 29 42 L (fld H a 7 :: S) k n H Q) := W_getf (rfl : (pj lw).1 29 39 = some (.getfield 19, 3, 7))
theorem w29_42 {x : Int32} {l0 : Slot} : W (pj lw) 29 42 (l0 :: .val (.int x) :: L) S k n H Q ↔ W (pj lw) 29 43 (l0 :: .val (.int x) :: L) (.int x :: S) k n H Q := W_s (rfl : (pj lw).1 29 42 = some (.iload_n 1, 1, 0)) rfl rfl rfl
theorem w29_43 : W (pj lw) 29 43 L S k n H Q ↔ W (pj lw) 29 44 L (.int 1 :: S) k n H Q := W_s (rfl : (pj lw).1 29 43 = some (.iconst 1, 1, 0)) rfl rfl rfl
theorem w29_44 {x i : Int32} {a : Nat} : W (pj lw) 29 44 L (.int x :: .int i :: .ref a :: S) k n H Q ↔ (((inAw H a .byte i = true ∧ okv .byte (.int x) = true) ∨ (inAw H a .boolean i = true ∧ okv .boolean (.int x) = true)) ∧ W (pj lw) 29 45 L S k n (wr H a i.toNatClampNeg (.int x)) Q) := W_bastore (rfl : (pj lw).1 29 44 = some (.bastore, 1, 0))
theorem w29_45 {x : Nat} : W (pj lw) 29 45 (.val (.ref x) :: L) S k n H Q ↔ W (pj lw) 29 46 (.val (.ref x) :: L) (.ref x :: S) k n H Q := W_s (rfl : (pj lw).1 29 45 = some (.aload_n 0, 1, 0)) rfl rfl rfl
theorem w29_46 {a : Nat} : W (pj lw) 29 46 L (.ref a :: S) k n H Q ↔ (isO H a = true ∧ W (pj lw) 29 49 L (fld H a 6 :: S) k n H Q) := W_getf (rfl : (pj lw).1 29 46 = some (.getfield 16, 3, 6))
theorem w29_49 {x : Int32} {l0 : Slot} : W (pj lw) 29 49 (l0 :: .val (.int x) :: L) S k n H Q ↔ W (pj lw) 29 50 (l0 :: .val (.int x) :: L) (.int x :: S) k n H Q := W_s (rfl : (pj lw).1 29 49 = some (.iload_n 1, 1, 0)) rfl rfl rfl
theorem w29_50 {x : Nat} : W (pj lw) 29 50 (.val (.ref x) :: L) S k n H Q ↔ W (pj lw) 29 51 (.val (.ref x) :: L) (.ref x :: S) k n H Q := W_s (rfl : (pj lw).1 29 50 = some (.aload_n 0, 1, 0)) rfl rfl rfl
theorem w29_51 {a : Nat} : W (pj lw) 29 51 L (.ref a :: S) k n H Q ↔ (isO H a = true ∧ W (pj lw) 29 54 L (fld H a 3 :: S) k n H Q) := W_getf (rfl : (pj lw).1 29 51 = some (.getfield 67, 3, 3))
theorem w29_54 {x i : Int32} {a : Nat} : W (pj lw) 29 54 L (.int x :: .int i :: .ref a :: S) k n H Q ↔ (inAw H a .int i = true ∧ W (pj lw) 29 55 L S k n (wr H a i.toNatClampNeg (.int x)) Q) := W_iastore (rfl : (pj lw).1 29 54 = some (.iastore, 1, 0))
theorem w29_55 {x : Nat} : W (pj lw) 29 55 (.val (.ref x) :: L) S k n H Q ↔ W (pj lw) 29 56 (.val (.ref x) :: L) (.ref x :: S) k n H Q := W_s (rfl : (pj lw).1 29 55 = some (.aload_n 0, 1, 0)) rfl rfl rfl
theorem w29_56 {x : Int32} {l0 : Slot} : W (pj lw) 29 56 (l0 :: .val (.int x) :: L) S k n H Q ↔ W (pj lw) 29 57 (l0 :: .val (.int x) :: L) (.int x :: S) k n H Q := W_s (rfl : (pj lw).1 29 56 = some (.iload_n 1, 1, 0)) rfl rfl rfl
theorem w29_57 {a : Nat} {x0 : Int32} : W (pj lw) 29 57 L (.int x0 :: .ref a :: S) k n H Q ↔ ((isO H a = true ∧ cs S + (4 + 11) + 0 ≤ 15) ∧ Cl (pj lw) 30 [.ref a, .int x0] H (fun v H => W (pj lw) 29 60 L (v.toList ++ S) k n H Q)) := W_inst (as := [.int x0]) (rfl : (pj lw).1 29 57 = some (.invokevirtual 145, 3, 30)) rfl rfl rfl (Nat.le_of_ble_eq_true rfl) (Nat.le_of_ble_eq_true rfl) ⟨rfl, rfl⟩
theorem w29_60 : W (pj lw) 29 60 L [] k n H Q ↔ Q none H := W_r (rfl : (pj lw).1 29 60 = some (.return_, 1, 0)) rfl
theorem c30 {x0 : Nat} {x1 : Int32} : Cl (pj lw) 30 [.ref x0, .int x1] H Q ↔ W (pj lw) 30 0 [.val (.ref x0), .val (.int x1), .unset, .unset] [] 0 0 H Q := cl_unf rfl
theorem w30_0 : W (pj lw) 30 0 L S k n H Q ↔ W (pj lw) 30 1 L (.int 0 :: S) k n H Q := W_s (rfl : (pj lw).1 30 0 = some (.iconst 0, 1, 0)) rfl rfl rfl
theorem w30_1 {x : Int32} {l0 l1 : Slot} : W (pj lw) 30 1 (l0 :: l1 :: .unset :: L) (.int x :: S) k n H Q ↔ W (pj lw) 30 2 (l0 :: l1 :: .val (.int x) :: L) S k n H Q := W_istn (rfl : (pj lw).1 30 1 = some (.istore_n 2, 1, 0)) rfl rfl
theorem w30_2 {x : Int32} {l0 l1 : Slot} : W (pj lw) 30 2 (l0 :: l1 :: .val (.int x) :: L) S k n H Q ↔ W (pj lw) 30 3 (l0 :: l1 :: .val (.int x) :: L) (.int x :: S) k n H Q := W_s (rfl : (pj lw).1 30 2 = some (.iload_n 2, 1, 0)) rfl rfl rfl
theorem w30_3 {x : Nat} : W (pj lw) 30 3 (.val (.ref x) :: L) S k n H Q ↔ W (pj lw) 30 4 (.val (.ref x) :: L) (.ref x :: S) k n H Q := W_s (rfl : (pj lw).1 30 3 = some (.aload_n 0, 1, 0)) rfl rfl rfl
theorem w30_4 {a : Nat} : W (pj lw) 30 4 L (.ref a :: S) k n H Q ↔ (isO H a = true ∧ W (pj lw) 30 7 L (fld H a 18 :: S) k n H Q) := W_getf (rfl : (pj lw).1 30 4 = some (.getfield 70, 3, 18))
theorem w30_7 {x y : Int32} : W (pj lw) 30 7 L (.int y :: .int x :: S) k n H Q ↔ (if x < y then W (pj lw) 30 10 L S k n H Q else W (pj lw) 30 95 L S k n H Q) := W_icmp_ge (rfl : (pj lw).1 30 7 = some (.if_icmp .ge 88, 3, 0)) rfl
theorem w30_10 : W (pj lw) 30 10 L S k n H Q ↔ W (pj lw) 30 11 L (.int (-1) :: S) k n H Q := W_s (rfl : (pj lw).1 30 10 = some (.iconst (-1), 1, 0)) rfl rfl rfl
theorem w30_11i {y : Int32} {x : Int32} {l0 l1 l2 : Slot} : W (pj lw) 30 11 (l0 :: l1 :: l2 :: .val (.int y) :: L) (.int x :: S) k n H Q ↔ W (pj lw) 30 12 (l0 :: l1 :: l2 :: .val (.int x) :: L) S k n H Q := W_istn (rfl : (pj lw).1 30 11 = some (.istore_n 3, 1, 0)) rfl rfl
theorem w30_11 {x : Int32} {l0 l1 l2 : Slot} : W (pj lw) 30 11 (l0 :: l1 :: l2 :: .unset :: L) (.int x :: S) k n H Q ↔ W (pj lw) 30 12 (l0 :: l1 :: l2 :: .val (.int x) :: L) S k n H Q := W_istn (rfl : (pj lw).1 30 11 = some (.istore_n 3, 1, 0)) rfl rfl
theorem w30_12 {x : Nat} : W (pj lw) 30 12 (.val (.ref x) :: L) S k n H Q ↔ W (pj lw) 30 13 (.val (.ref x) :: L) (.ref x :: S) k n H Q := W_s (rfl : (pj lw).1 30 12 = some (.aload_n 0, 1, 0)) rfl rfl rfl
theorem w30_13 {a : Nat} : W (pj lw) 30 13 L (.ref a :: S) k n H Q ↔ (isO H a = true ∧ W (pj lw) 30 16 L (fld H a 15 :: S) k n H Q) := W_getf (rfl : (pj lw).1 30 13 = some (.getfield 44, 3, 15))
theorem w30_16 {x : Int32} {l0 l1 : Slot} : W (pj lw) 30 16 (l0 :: l1 :: .val (.int x) :: L) S k n H Q ↔ W (pj lw) 30 17 (l0 :: l1 :: .val (.int x) :: L) (.int x :: S) k n H Q := W_s (rfl : (pj lw).1 30 16 = some (.iload_n 2, 1, 0)) rfl rfl rfl
theorem w30_17 {i : Int32} {a : Nat} : W (pj lw) 30 17 L (.int i :: .ref a :: S) k n H Q ↔ (inA H a .int i = true ∧ W (pj lw) 30 18 L (elt H a i :: S) k n H Q) := W_iaload (rfl : (pj lw).1 30 17 = some (.iaload, 1, 0))
theorem w30_18 {x : Int32} {l0 : Slot} : W (pj lw) 30 18 (l0 :: .val (.int x) :: L) S k n H Q ↔ W (pj lw) 30 19 (l0 :: .val (.int x) :: L) (.int x :: S) k n H Q := W_s (rfl : (pj lw).1 30 18 = some (.iload_n 1, 1, 0)) rfl rfl rfl
theorem w30_19 {x y : Int32} : W (pj lw) 30 19 L (.int y :: .int x :: S) k n H Q ↔ (if x = y then W (pj lw) 30 22 L S k n H Q else W (pj lw) 30 32 L S k n H Q) := W_icmp_ne (rfl : (pj lw).1 30 19 = some (.if_icmp .ne 13, 3, 0)) rfl
theorem w30_22 {x : Nat} : W (pj lw) 30 22 (.val (.ref x) :: L) S k n H Q ↔ W (pj lw) 30 23 (.val (.ref x) :: L) (.ref x :: S) k n H Q := W_s (rfl : (pj lw).1 30 22 = some (.aload_n 0, 1, 0)) rfl rfl rfl
theorem w30_23 {a : Nat} : W (pj lw) 30 23 L (.ref a :: S) k n H Q ↔ (isO H a = true ∧ W (pj lw) 30 26 L (fld H a 16 :: S) k n H Q) := W_getf (rfl : (pj lw).1 30 23 = some (.getfield 47, 3, 16))
theorem w30_26 {x : Int32} {l0 l1 : Slot} : W (pj lw) 30 26 (l0 :: l1 :: .val (.int x) :: L) S k n H Q ↔ W (pj lw) 30 27 (l0 :: l1 :: .val (.int x) :: L) (.int x :: S) k n H Q := W_s (rfl : (pj lw).1 30 26 = some (.iload_n 2, 1, 0)) rfl rfl rfl
theorem w30_27 {i : Int32} {a : Nat} : W (pj lw) 30 27 L (.int i :: .ref a :: S) k n H Q ↔ (inA H a .int i = true ∧ W (pj lw) 30 28 L (elt H a i :: S) k n H Q) := W_iaload (rfl : (pj lw).1 30 27 = some (.iaload, 1, 0))
theorem w30_28i {y : Int32} {x : Int32} {l0 l1 l2 : Slot} : W (pj lw) 30 28 (l0 :: l1 :: l2 :: .val (.int y) :: L) (.int x :: S) k n H Q ↔ W (pj lw) 30 29 (l0 :: l1 :: l2 :: .val (.int x) :: L) S k n H Q := W_istn (rfl : (pj lw).1 30 28 = some (.istore_n 3, 1, 0)) rfl rfl
theorem w30_29 : W (pj lw) 30 29 L S k n H Q ↔ W (pj lw) 30 49 L S k n H Q := W_goto (rfl : (pj lw).1 30 29 = some (.goto 20, 3, 0)) rfl
theorem w30_32 {x : Nat} : W (pj lw) 30 32 (.val (.ref x) :: L) S k n H Q ↔ W (pj lw) 30 33 (.val (.ref x) :: L) (.ref x :: S) k n H Q := W_s (rfl : (pj lw).1 30 32 = some (.aload_n 0, 1, 0)) rfl rfl rfl
theorem w30_33 {a : Nat} : W (pj lw) 30 33 L (.ref a :: S) k n H Q ↔ (isO H a = true ∧ W (pj lw) 30 36 L (fld H a 16 :: S) k n H Q) := W_getf (rfl : (pj lw).1 30 33 = some (.getfield 47, 3, 16))
theorem w30_36 {x : Int32} {l0 l1 : Slot} : W (pj lw) 30 36 (l0 :: l1 :: .val (.int x) :: L) S k n H Q ↔ W (pj lw) 30 37 (l0 :: l1 :: .val (.int x) :: L) (.int x :: S) k n H Q := W_s (rfl : (pj lw).1 30 36 = some (.iload_n 2, 1, 0)) rfl rfl rfl
theorem w30_37 {i : Int32} {a : Nat} : W (pj lw) 30 37 L (.int i :: .ref a :: S) k n H Q ↔ (inA H a .int i = true ∧ W (pj lw) 30 38 L (elt H a i :: S) k n H Q) := W_iaload (rfl : (pj lw).1 30 37 = some (.iaload, 1, 0))
theorem w30_38 {x : Int32} {l0 : Slot} : W (pj lw) 30 38 (l0 :: .val (.int x) :: L) S k n H Q ↔ W (pj lw) 30 39 (l0 :: .val (.int x) :: L) (.int x :: S) k n H Q := W_s (rfl : (pj lw).1 30 38 = some (.iload_n 1, 1, 0)) rfl rfl rfl
theorem w30_39 {x y : Int32} : W (pj lw) 30 39 L (.int y :: .int x :: S) k n H Q ↔ (if x = y then W (pj lw) 30 42 L S k n H Q else W (pj lw) 30 49 L S k n H Q) := W_icmp_ne (rfl : (pj lw).1 30 39 = some (.if_icmp .ne 10, 3, 0)) rfl
theorem w30_42 {x : Nat} : W (pj lw) 30 42 (.val (.ref x) :: L) S k n H Q ↔ W (pj lw) 30 43 (.val (.ref x) :: L) (.ref x :: S) k n H Q := W_s (rfl : (pj lw).1 30 42 = some (.aload_n 0, 1, 0)) rfl rfl rfl
theorem w30_43 {a : Nat} : W (pj lw) 30 43 L (.ref a :: S) k n H Q ↔ (isO H a = true ∧ W (pj lw) 30 46 L (fld H a 15 :: S) k n H Q) := W_getf (rfl : (pj lw).1 30 43 = some (.getfield 44, 3, 15))
theorem w30_46 {x : Int32} {l0 l1 : Slot} : W (pj lw) 30 46 (l0 :: l1 :: .val (.int x) :: L) S k n H Q ↔ W (pj lw) 30 47 (l0 :: l1 :: .val (.int x) :: L) (.int x :: S) k n H Q := W_s (rfl : (pj lw).1 30 46 = some (.iload_n 2, 1, 0)) rfl rfl rfl
theorem w30_47 {i : Int32} {a : Nat} : W (pj lw) 30 47 L (.int i :: .ref a :: S) k n H Q ↔ (inA H a .int i = true ∧ W (pj lw) 30 48 L (elt H a i :: S) k n H Q) := W_iaload (rfl : (pj lw).1 30 47 = some (.iaload, 1, 0))
theorem w30_48i {y : Int32} {x : Int32} {l0 l1 l2 : Slot} : W (pj lw) 30 48 (l0 :: l1 :: l2 :: .val (.int y) :: L) (.int x :: S) k n H Q ↔ W (pj lw) 30 49 (l0 :: l1 :: l2 :: .val (.int x) :: L) S k n H Q := W_istn (rfl : (pj lw).1 30 48 = some (.istore_n 3, 1, 0)) rfl rfl
theorem w30_49 {x : Int32} {l0 l1 l2 : Slot} : W (pj lw) 30 49 (l0 :: l1 :: l2 :: .val (.int x) :: L) S k n H Q ↔ W (pj lw) 30 50 (l0 :: l1 :: l2 :: .val (.int x) :: L) (.int x :: S) k n H Q := W_s (rfl : (pj lw).1 30 49 = some (.iload_n 3, 1, 0)) rfl rfl rfl
theorem w30_50 {x : Int32} : W (pj lw) 30 50 L (.int x :: S) k n H Q ↔ (if x < 0 then W (pj lw) 30 89 L S k n H Q else W (pj lw) 30 53 L S k n H Q) := W_if_lt (rfl : (pj lw).1 30 50 = some (.ifCond .lt 39, 3, 0)) rfl
theorem w30_53 {x : Nat} : W (pj lw) 30 53 (.val (.ref x) :: L) S k n H Q ↔ W (pj lw) 30 54 (.val (.ref x) :: L) (.ref x :: S) k n H Q := W_s (rfl : (pj lw).1 30 53 = some (.aload_n 0, 1, 0)) rfl rfl rfl
theorem w30_54 {a : Nat} : W (pj lw) 30 54 L (.ref a :: S) k n H Q ↔ (isO H a = true ∧ W (pj lw) 30 57 L (fld H a 4 :: S) k n H Q) := W_getf (rfl : (pj lw).1 30 54 = some (.getfield 7, 3, 4))
theorem w30_57 {x : Int32} {l0 l1 l2 : Slot} : W (pj lw) 30 57 (l0 :: l1 :: l2 :: .val (.int x) :: L) S k n H Q ↔ W (pj lw) 30 58 (l0 :: l1 :: l2 :: .val (.int x) :: L) (.int x :: S) k n H Q := W_s (rfl : (pj lw).1 30 57 = some (.iload_n 3, 1, 0)) rfl rfl rfl
theorem w30_58 {i : Int32} {a : Nat} : W (pj lw) 30 58 L (.int i :: .ref a :: S) k n H Q ↔ (inA H a .int i = true ∧ W (pj lw) 30 59 L (elt H a i :: S) k n H Q) := W_iaload (rfl : (pj lw).1 30 58 = some (.iaload, 1, 0))
theorem w30_59 : W (pj lw) 30 59 L S k n H Q ↔ W (pj lw) 30 60 L (.int 3 :: S) k n H Q := W_s (rfl : (pj lw).1 30 59 = some (.iconst 3, 1, 0)) rfl rfl rfl
theorem w30_60 {x y : Int32} : W (pj lw) 30 60 L (.int y :: .int x :: S) k n H Q ↔ (if x = y then W (pj lw) 30 89 L S k n H Q else W (pj lw) 30 63 L S k n H Q) := W_icmp_eq (rfl : (pj lw).1 30 60 = some (.if_icmp .eq 29, 3, 0)) rfl
theorem w30_63 {x : Nat} : W (pj lw) 30 63 (.val (.ref x) :: L) S k n H Q ↔ W (pj lw) 30 64 (.val (.ref x) :: L) (.ref x :: S) k n H Q := W_s (rfl : (pj lw).1 30 63 = some (.aload_n 0, 1, 0)) rfl rfl rfl
theorem w30_64 {a : Nat} : W (pj lw) 30 64 L (.ref a :: S) k n H Q ↔ (isO H a = true ∧ W (pj lw) 30 67 L (fld H a 7 :: S) k n H Q) := W_getf (rfl : (pj lw).1 30 64 = some (.getfield 19, 3, 7))
theorem w30_67 {x : Int32} {l0 l1 l2 : Slot} : W (pj lw) 30 67 (l0 :: l1 :: l2 :: .val (.int x) :: L) S k n H Q ↔ W (pj lw) 30 68 (l0 :: l1 :: l2 :: .val (.int x) :: L) (.int x :: S) k n H Q := W_s (rfl : (pj lw).1 30 67 = some (.iload_n 3, 1, 0)) rfl rfl rfl
theorem w30_68 {i : Int32} {a : Nat} : W (pj lw) 30 68 L (.int i :: .ref a :: S) k n H Q ↔ ((inA H a .byte i = true ∨ inA H a .boolean i = true) ∧ W (pj lw) 30 69 L (elt H a i :: S) k n H Q) := W_baload (rfl : (pj lw).1 30 68 = some (.baload, 1, 0))
theorem w30_69 {x : Int32} : W (pj lw) 30 69 L (.int x :: S) k n H Q ↔ (if x = 0 then W (pj lw) 30 72 L S k n H Q else W (pj lw) 30 89 L S k n H Q) := W_if_ne (rfl : (pj lw).1 30 69 = some (.ifCond .ne 20, 3, 0)) rfl
theorem w30_72 {x : Nat} : W (pj lw) 30 72 (.val (.ref x) :: L) S k n H Q ↔ W (pj lw) 30 73 (.val (.ref x) :: L) (.ref x :: S) k n H Q := W_s (rfl : (pj lw).1 30 72 = some (.aload_n 0, 1, 0)) rfl rfl rfl
theorem w30_73 {a : Nat} : W (pj lw) 30 73 L (.ref a :: S) k n H Q ↔ (isO H a = true ∧ W (pj lw) 30 76 L (fld H a 6 :: S) k n H Q) := W_getf (rfl : (pj lw).1 30 73 = some (.getfield 16, 3, 6))
theorem w30_76 {x : Int32} {l0 l1 l2 : Slot} : W (pj lw) 30 76 (l0 :: l1 :: l2 :: .val (.int x) :: L) S k n H Q ↔ W (pj lw) 30 77 (l0 :: l1 :: l2 :: .val (.int x) :: L) (.int x :: S) k n H Q := W_s (rfl : (pj lw).1 30 76 = some (.iload_n 3, 1, 0)) rfl rfl rfl
theorem w30_77 {x : Nat} : W (pj lw) 30 77 (.val (.ref x) :: L) S k n H Q ↔ W (pj lw) 30 78 (.val (.ref x) :: L) (.ref x :: S) k n H Q := W_s (rfl : (pj lw).1 30 77 = some (.aload_n 0, 1, 0)) rfl rfl rfl
theorem w30_78 {a : Nat} : W (pj lw) 30 78 L (.ref a :: S) k n H Q ↔ (isO H a = true ∧ W (pj lw) 30 81 L (fld H a 3 :: S) k n H Q) := W_getf (rfl : (pj lw).1 30 78 = some (.getfield 67, 3, 3))
theorem w30_81 {x i : Int32} {a : Nat} : W (pj lw) 30 81 L (.int x :: .int i :: .ref a :: S) k n H Q ↔ (inAw H a .int i = true ∧ W (pj lw) 30 82 L S k n (wr H a i.toNatClampNeg (.int x)) Q) := W_iastore (rfl : (pj lw).1 30 81 = some (.iastore, 1, 0))
theorem w30_82 {x : Nat} : W (pj lw) 30 82 (.val (.ref x) :: L) S k n H Q ↔ W (pj lw) 30 83 (.val (.ref x) :: L) (.ref x :: S) k n H Q := W_s (rfl : (pj lw).1 30 82 = some (.aload_n 0, 1, 0)) rfl rfl rfl
theorem w30_83 {a : Nat} : W (pj lw) 30 83 L (.ref a :: S) k n H Q ↔ (isO H a = true ∧ W (pj lw) 30 86 L (fld H a 8 :: S) k n H Q) := W_getf (rfl : (pj lw).1 30 83 = some (.getfield 23, 3, 8))
theorem w30_86 {x : Int32} {l0 l1 l2 : Slot} : W (pj lw) 30 86 (l0 :: l1 :: l2 :: .val (.int x) :: L) S k n H Q ↔ W (pj lw) 30 87 (l0 :: l1 :: l2 :: .val (.int x) :: L) (.int x :: S) k n H Q := W_s (rfl : (pj lw).1 30 86 = some (.iload_n 3, 1, 0)) rfl rfl rfl
theorem w30_87 : W (pj lw) 30 87 L S k n H Q ↔ W (pj lw) 30 88 L (.int 1 :: S) k n H Q := W_s (rfl : (pj lw).1 30 87 = some (.iconst 1, 1, 0)) rfl rfl rfl
theorem w30_88 {x i : Int32} {a : Nat} : W (pj lw) 30 88 L (.int x :: .int i :: .ref a :: S) k n H Q ↔ (((inAw H a .byte i = true ∧ okv .byte (.int x) = true) ∨ (inAw H a .boolean i = true ∧ okv .boolean (.int x) = true)) ∧ W (pj lw) 30 89 L S k n (wr H a i.toNatClampNeg (.int x)) Q) := W_bastore (rfl : (pj lw).1 30 88 = some (.bastore, 1, 0))
theorem w30_89 {x : Int32} {l0 l1 : Slot} : W (pj lw) 30 89 (l0 :: l1 :: .val (.int x) :: L) S k n H Q ↔ W (pj lw) 30 92 (l0 :: l1 :: .val (.int (x + 1)) :: L) S k n H Q := W_s (rfl : (pj lw).1 30 89 = some (.iinc 2 1, 3, 0)) rfl rfl rfl
theorem w30_92 : W (pj lw) 30 92 L S k n H Q ↔ W (pj lw) 30 2 L S k n H Q := W_goto (rfl : (pj lw).1 30 92 = some (.goto (-90), 3, 0)) rfl
theorem w30_95 : W (pj lw) 30 95 L [] k n H Q ↔ Q none H := W_r (rfl : (pj lw).1 30 95 = some (.return_, 1, 0)) rfl
theorem c31 {x0 : Nat} {x1 : Int32} : Cl (pj lw) 31 [.ref x0, .int x1] H Q ↔ W (pj lw) 31 0 [.val (.ref x0), .val (.int x1), .unset, .unset] [] 0 0 H Q := cl_unf rfl
theorem w31_0 : W (pj lw) 31 0 L S k n H Q ↔ W (pj lw) 31 1 L (.int 0 :: S) k n H Q := W_s (rfl : (pj lw).1 31 0 = some (.iconst 0, 1, 0)) rfl rfl rfl
theorem w31_1 {x : Int32} {l0 l1 : Slot} : W (pj lw) 31 1 (l0 :: l1 :: .unset :: L) (.int x :: S) k n H Q ↔ W (pj lw) 31 2 (l0 :: l1 :: .val (.int x) :: L) S k n H Q := W_istn (rfl : (pj lw).1 31 1 = some (.istore_n 2, 1, 0)) rfl rfl
theorem w31_2 : W (pj lw) 31 2 L S k n H Q ↔ W (pj lw) 31 3 L (.int 0 :: S) k n H Q := W_s (rfl : (pj lw).1 31 2 = some (.iconst 0, 1, 0)) rfl rfl rfl
theorem w31_3 {x : Int32} {l0 l1 l2 : Slot} : W (pj lw) 31 3 (l0 :: l1 :: l2 :: .unset :: L) (.int x :: S) k n H Q ↔ W (pj lw) 31 4 (l0 :: l1 :: l2 :: .val (.int x) :: L) S k n H Q := W_istn (rfl : (pj lw).1 31 3 = some (.istore_n 3, 1, 0)) rfl rfl
theorem w31_4 {x : Int32} {l0 l1 l2 : Slot} : W (pj lw) 31 4 (l0 :: l1 :: l2 :: .val (.int x) :: L) S k n H Q ↔ W (pj lw) 31 5 (l0 :: l1 :: l2 :: .val (.int x) :: L) (.int x :: S) k n H Q := W_s (rfl : (pj lw).1 31 4 = some (.iload_n 3, 1, 0)) rfl rfl rfl
theorem w31_5 {x : Nat} : W (pj lw) 31 5 (.val (.ref x) :: L) S k n H Q ↔ W (pj lw) 31 6 (.val (.ref x) :: L) (.ref x :: S) k n H Q := W_s (rfl : (pj lw).1 31 5 = some (.aload_n 0, 1, 0)) rfl rfl rfl
theorem w31_6 {a : Nat} : W (pj lw) 31 6 L (.ref a :: S) k n H Q ↔ (isO H a = true ∧ W (pj lw) 31 9 L (fld H a 0 :: S) k n H Q) := W_getf (rfl : (pj lw).1 31 6 = some (.getfield 57, 3, 0))
theorem w31_9 {x y : Int32} : W (pj lw) 31 9 L (.int y :: .int x :: S) k n H Q ↔ (if x < y then W (pj lw) 31 12 L S k n H Q else W (pj lw) 31 31 L S k n H Q) := W_icmp_ge (rfl : (pj lw).1 31 9 = some (.if_icmp .ge 22, 3, 0)) rfl
theorem w31_12 {x : Nat} : W (pj lw) 31 12 (.val (.ref x) :: L) S k n H Q ↔ W (pj lw) 31 13 (.val (.ref x) :: L) (.ref x :: S) k n H Q := W_s (rfl : (pj lw).1 31 12 = some (.aload_n 0, 1, 0)) rfl rfl rfl
theorem w31_13 {a : Nat} : W (pj lw) 31 13 L (.ref a :: S) k n H Q ↔ (isO H a = true ∧ W (pj lw) 31 16 L (fld H a 4 :: S) k n H Q) := W_getf (rfl : (pj lw).1 31 13 = some (.getfield 7, 3, 4))
theorem w31_16 {x : Int32} {l0 l1 l2 : Slot} : W (pj lw) 31 16 (l0 :: l1 :: l2 :: .val (.int x) :: L) S k n H Q ↔ W (pj lw) 31 17 (l0 :: l1 :: l2 :: .val (.int x) :: L) (.int x :: S) k n H Q := W_s (rfl : (pj lw).1 31 16 = some (.iload_n 3, 1, 0)) rfl rfl rfl
theorem w31_17 {i : Int32} {a : Nat} : W (pj lw) 31 17 L (.int i :: .ref a :: S) k n H Q ↔ (inA H a .int i = true ∧ W (pj lw) 31 18 L (elt H a i :: S) k n H Q) := W_iaload (rfl : (pj lw).1 31 17 = some (.iaload, 1, 0))
theorem w31_18 {x : Int32} {l0 : Slot} : W (pj lw) 31 18 (l0 :: .val (.int x) :: L) S k n H Q ↔ W (pj lw) 31 19 (l0 :: .val (.int x) :: L) (.int x :: S) k n H Q := W_s (rfl : (pj lw).1 31 18 = some (.iload_n 1, 1, 0)) rfl rfl rfl
theorem w31_19 {x y : Int32} : W (pj lw) 31 19 L (.int y :: .int x :: S) k n H Q ↔ (if x = y then W (pj lw) 31 22 L S k n H Q else W (pj lw) 31 25 L S k n H Q) := W_icmp_ne (rfl : (pj lw).1 31 19 = some (.if_icmp .ne 6, 3, 0)) rfl
theorem w31_22 {x : Int32} {l0 l1 : Slot} : W (pj lw) 31 22 (l0 :: l1 :: .val (.int x) :: L) S k n H Q ↔ W (pj lw) 31 25 (l0 :: l1 :: .val (.int (x + 1)) :: L) S k n H Q := W_s (rfl : (pj lw).1 31 22 = some (.iinc 2 1, 3, 0)) rfl rfl rfl
theorem w31_25 {x : Int32} {l0 l1 l2 : Slot} : W (pj lw) 31 25 (l0 :: l1 :: l2 :: .val (.int x) :: L) S k n H Q ↔ W (pj lw) 31 28 (l0 :: l1 :: l2 :: .val (.int (x + 1)) :: L) S k n H Q := W_s (rfl : (pj lw).1 31 25 = some (.iinc 3 1, 3, 0)) rfl rfl rfl
theorem w31_28 : W (pj lw) 31 28 L S k n H Q ↔ W (pj lw) 31 4 L S k n H Q := W_goto (rfl : (pj lw).1 31 28 = some (.goto (-24), 3, 0)) rfl
theorem w31_31 {x : Int32} {l0 l1 : Slot} : W (pj lw) 31 31 (l0 :: l1 :: .val (.int x) :: L) S k n H Q ↔ W (pj lw) 31 32 (l0 :: l1 :: .val (.int x) :: L) (.int x :: S) k n H Q := W_s (rfl : (pj lw).1 31 31 = some (.iload_n 2, 1, 0)) rfl rfl rfl
theorem w31_32 {x : Int32} : W (pj lw) 31 32 L (.int x :: S) k n H Q ↔ Q (some (.int x)) H := W_r (rfl : (pj lw).1 31 32 = some (.ireturn, 1, 0)) rfl
theorem c32 {x0 : Nat} : Cl (pj lw) 32 [.ref x0] H Q ↔ W (pj lw) 32 0 [.val (.ref x0), .unset, .unset] [] 0 0 H Q := cl_unf rfl
theorem w32_0 : W (pj lw) 32 0 L S k n H Q ↔ W (pj lw) 32 1 L (.int 0 :: S) k n H Q := W_s (rfl : (pj lw).1 32 0 = some (.iconst 0, 1, 0)) rfl rfl rfl
theorem w32_1 {x : Int32} {l0 : Slot} : W (pj lw) 32 1 (l0 :: .unset :: L) (.int x :: S) k n H Q ↔ W (pj lw) 32 2 (l0 :: .val (.int x) :: L) S k n H Q := W_istn (rfl : (pj lw).1 32 1 = some (.istore_n 1, 1, 0)) rfl rfl
theorem w32_2 : W (pj lw) 32 2 L S k n H Q ↔ W (pj lw) 32 3 L (.int 0 :: S) k n H Q := W_s (rfl : (pj lw).1 32 2 = some (.iconst 0, 1, 0)) rfl rfl rfl
theorem w32_3 {x : Int32} {l0 l1 : Slot} : W (pj lw) 32 3 (l0 :: l1 :: .unset :: L) (.int x :: S) k n H Q ↔ W (pj lw) 32 4 (l0 :: l1 :: .val (.int x) :: L) S k n H Q := W_istn (rfl : (pj lw).1 32 3 = some (.istore_n 2, 1, 0)) rfl rfl
theorem w32_4 {x : Int32} {l0 l1 : Slot} : W (pj lw) 32 4 (l0 :: l1 :: .val (.int x) :: L) S k n H Q ↔ W (pj lw) 32 5 (l0 :: l1 :: .val (.int x) :: L) (.int x :: S) k n H Q := W_s (rfl : (pj lw).1 32 4 = some (.iload_n 2, 1, 0)) rfl rfl rfl
theorem w32_5 {x : Nat} : W (pj lw) 32 5 (.val (.ref x) :: L) S k n H Q ↔ W (pj lw) 32 6 (.val (.ref x) :: L) (.ref x :: S) k n H Q := W_s (rfl : (pj lw).1 32 5 = some (.aload_n 0, 1, 0)) rfl rfl rfl
theorem w32_6 {a : Nat} : W (pj lw) 32 6 L (.ref a :: S) k n H Q ↔ (isO H a = true ∧ W (pj lw) 32 9 L (fld H a 0 :: S) k n H Q) := W_getf (rfl : (pj lw).1 32 6 = some (.getfield 57, 3, 0))
theorem w32_9 {x y : Int32} : W (pj lw) 32 9 L (.int y :: .int x :: S) k n H Q ↔ (if x < y then W (pj lw) 32 12 L S k n H Q else W (pj lw) 32 30 L S k n H Q) := W_icmp_ge (rfl : (pj lw).1 32 9 = some (.if_icmp .ge 21, 3, 0)) rfl
theorem w32_12 {x : Nat} : W (pj lw) 32 12 (.val (.ref x) :: L) S k n H Q ↔ W (pj lw) 32 13 (.val (.ref x) :: L) (.ref x :: S) k n H Q := W_s (rfl : (pj lw).1 32 12 = some (.aload_n 0, 1, 0)) rfl rfl rfl
theorem w32_13 {a : Nat} : W (pj lw) 32 13 L (.ref a :: S) k n H Q ↔ (isO H a = true ∧ W (pj lw) 32 16 L (fld H a 6 :: S) k n H Q) := W_getf (rfl : (pj lw).1 32 13 = some (.getfield 16, 3, 6))
theorem w32_16 {x : Int32} {l0 l1 : Slot} : W (pj lw) 32 16 (l0 :: l1 :: .val (.int x) :: L) S k n H Q ↔ W (pj lw) 32 17 (l0 :: l1 :: .val (.int x) :: L) (.int x :: S) k n H Q := W_s (rfl : (pj lw).1 32 16 = some (.iload_n 2, 1, 0)) rfl rfl rfl
theorem w32_17 {i : Int32} {a : Nat} : W (pj lw) 32 17 L (.int i :: .ref a :: S) k n H Q ↔ (inA H a .int i = true ∧ W (pj lw) 32 18 L (elt H a i :: S) k n H Q) := W_iaload (rfl : (pj lw).1 32 17 = some (.iaload, 1, 0))
theorem w32_18 {x : Int32} : W (pj lw) 32 18 L (.int x :: S) k n H Q ↔ (if 0 < x then W (pj lw) 32 21 L S k n H Q else W (pj lw) 32 24 L S k n H Q) := W_if_le (rfl : (pj lw).1 32 18 = some (.ifCond .le 6, 3, 0)) rfl
theorem w32_21 {x : Int32} {l0 : Slot} : W (pj lw) 32 21 (l0 :: .val (.int x) :: L) S k n H Q ↔ W (pj lw) 32 24 (l0 :: .val (.int (x + 1)) :: L) S k n H Q := W_s (rfl : (pj lw).1 32 21 = some (.iinc 1 1, 3, 0)) rfl rfl rfl
theorem w32_24 {x : Int32} {l0 l1 : Slot} : W (pj lw) 32 24 (l0 :: l1 :: .val (.int x) :: L) S k n H Q ↔ W (pj lw) 32 27 (l0 :: l1 :: .val (.int (x + 1)) :: L) S k n H Q := W_s (rfl : (pj lw).1 32 24 = some (.iinc 2 1, 3, 0)) rfl rfl rfl
theorem w32_27 : W (pj lw) 32 27 L S k n H Q ↔ W (pj lw) 32 4 L S k n H Q := W_goto (rfl : (pj lw).1 32 27 = some (.goto (-23), 3, 0)) rfl
theorem w32_30 {x : Int32} {l0 : Slot} : W (pj lw) 32 30 (l0 :: .val (.int x) :: L) S k n H Q ↔ W (pj lw) 32 31 (l0 :: .val (.int x) :: L) (.int x :: S) k n H Q := W_s (rfl : (pj lw).1 32 30 = some (.iload_n 1, 1, 0)) rfl rfl rfl
theorem w32_31 {x : Int32} : W (pj lw) 32 31 L (.int x :: S) k n H Q ↔ Q (some (.int x)) H := W_r (rfl : (pj lw).1 32 31 = some (.ireturn, 1, 0)) rfl
theorem c33 {x0 : Nat} {x1 : Int32} : Cl (pj lw) 33 [.ref x0, .int x1] H Q ↔ W (pj lw) 33 0 [.val (.ref x0), .val (.int x1), .unset, .unset, .unset] [] 0 0 H Q := cl_unf rfl
theorem w33_0 : W (pj lw) 33 0 L S k n H Q ↔ W (pj lw) 33 1 L (.int 0 :: S) k n H Q := W_s (rfl : (pj lw).1 33 0 = some (.iconst 0, 1, 0)) rfl rfl rfl
theorem w33_1 {x : Int32} {l0 l1 : Slot} : W (pj lw) 33 1 (l0 :: l1 :: .unset :: L) (.int x :: S) k n H Q ↔ W (pj lw) 33 2 (l0 :: l1 :: .val (.int x) :: L) S k n H Q := W_istn (rfl : (pj lw).1 33 1 = some (.istore_n 2, 1, 0)) rfl rfl
theorem w33_2 : W (pj lw) 33 2 L S k n H Q ↔ W (pj lw) 33 3 L (.int 0 :: S) k n H Q := W_s (rfl : (pj lw).1 33 2 = some (.iconst 0, 1, 0)) rfl rfl rfl
theorem w33_3 {x : Int32} {l0 l1 l2 : Slot} : W (pj lw) 33 3 (l0 :: l1 :: l2 :: .unset :: L) (.int x :: S) k n H Q ↔ W (pj lw) 33 4 (l0 :: l1 :: l2 :: .val (.int x) :: L) S k n H Q := W_istn (rfl : (pj lw).1 33 3 = some (.istore_n 3, 1, 0)) rfl rfl
theorem w33_4 {x : Int32} {l0 l1 l2 : Slot} : W (pj lw) 33 4 (l0 :: l1 :: l2 :: .val (.int x) :: L) S k n H Q ↔ W (pj lw) 33 5 (l0 :: l1 :: l2 :: .val (.int x) :: L) (.int x :: S) k n H Q := W_s (rfl : (pj lw).1 33 4 = some (.iload_n 3, 1, 0)) rfl rfl rfl
theorem w33_5 {x : Nat} : W (pj lw) 33 5 (.val (.ref x) :: L) S k n H Q ↔ W (pj lw) 33 6 (.val (.ref x) :: L) (.ref x :: S) k n H Q := W_s (rfl : (pj lw).1 33 5 = some (.aload_n 0, 1, 0)) rfl rfl rfl
theorem w33_6 {a : Nat} : W (pj lw) 33 6 L (.ref a :: S) k n H Q ↔ (isO H a = true ∧ W (pj lw) 33 9 L (fld H a 0 :: S) k n H Q) := W_getf (rfl : (pj lw).1 33 6 = some (.getfield 57, 3, 0))
theorem w33_9 {x y : Int32} : W (pj lw) 33 9 L (.int y :: .int x :: S) k n H Q ↔ (if x < y then W (pj lw) 33 12 L S k n H Q else W (pj lw) 33 47 L S k n H Q) := W_icmp_ge (rfl : (pj lw).1 33 9 = some (.if_icmp .ge 38, 3, 0)) rfl
theorem w33_12 {x : Int32} {l0 : Slot} : W (pj lw) 33 12 (l0 :: .val (.int x) :: L) S k n H Q ↔ W (pj lw) 33 13 (l0 :: .val (.int x) :: L) (.int x :: S) k n H Q := W_s (rfl : (pj lw).1 33 12 = some (.iload_n 1, 1, 0)) rfl rfl rfl
theorem w33_13 {x : Int32} : W (pj lw) 33 13 L (.int x :: S) k n H Q ↔ (if x = 0 then W (pj lw) 33 25 L S k n H Q else W (pj lw) 33 16 L S k n H Q) := W_if_eq (rfl : (pj lw).1 33 13 = some (.ifCond .eq 12, 3, 0)) rfl
theorem w33_16 {x : Nat} : W (pj lw) 33 16 (.val (.ref x) :: L) S k n H Q ↔ W (pj lw) 33 17 (.val (.ref x) :: L) (.ref x :: S) k n H Q := W_s (rfl : (pj lw).1 33 16 = some (.aload_n 0, 1, 0)) rfl rfl rfl
theorem w33_17 {a : Nat} : W (pj lw) 33 17 L (.ref a :: S) k n H Q ↔ (isO H a = true ∧ W (pj lw) 33 20 L (fld H a 7 :: S) k n H Q) := W_getf (rfl : (pj lw).1 33 17 = some (.getfield 19, 3, 7))
theorem w33_20 {x : Int32} {l0 l1 l2 : Slot} : W (pj lw) 33 20 (l0 :: l1 :: l2 :: .val (.int x) :: L) S k n H Q ↔ W (pj lw) 33 21 (l0 :: l1 :: l2 :: .val (.int x) :: L) (.int x :: S) k n H Q := W_s (rfl : (pj lw).1 33 20 = some (.iload_n 3, 1, 0)) rfl rfl rfl
theorem w33_21 {i : Int32} {a : Nat} : W (pj lw) 33 21 L (.int i :: .ref a :: S) k n H Q ↔ ((inA H a .byte i = true ∨ inA H a .boolean i = true) ∧ W (pj lw) 33 22 L (elt H a i :: S) k n H Q) := W_baload (rfl : (pj lw).1 33 21 = some (.baload, 1, 0))
theorem w33_22 : W (pj lw) 33 22 L S k n H Q ↔ W (pj lw) 33 31 L S k n H Q := W_goto (rfl : (pj lw).1 33 22 = some (.goto 9, 3, 0)) rfl
theorem w33_25 {x : Nat} : W (pj lw) 33 25 (.val (.ref x) :: L) S k n H Q ↔ W (pj lw) 33 26 (.val (.ref x) :: L) (.ref x :: S) k n H Q := W_s (rfl : (pj lw).1 33 25 = some (.aload_n 0, 1, 0)) rfl rfl rfl
theorem w33_26 {a : Nat} : W (pj lw) 33 26 L (.ref a :: S) k n H Q ↔ (isO H a = true ∧ W (pj lw) 33 29 L (fld H a 8 :: S) k n H Q) := W_getf (rfl : (pj lw).1 33 26 = some (.getfield 23, 3, 8))
theorem w33_29 {x : Int32} {l0 l1 l2 : Slot} : W (pj lw) 33 29 (l0 :: l1 :: l2 :: .val (.int x) :: L) S k n H Q ↔ W (pj lw) 33 30 (l0 :: l1 :: l2 :: .val (.int x) :: L) (.int x :: S) k n H Q := W_s (rfl : (pj lw).1 33 29 = some (.iload_n 3, 1, 0)) rfl rfl rfl
theorem w33_30 {i : Int32} {a : Nat} : W (pj lw) 33 30 L (.int i :: .ref a :: S) k n H Q ↔ ((inA H a .byte i = true ∨ inA H a .boolean i = true) ∧ W (pj lw) 33 31 L (elt H a i :: S) k n H Q) := W_baload (rfl : (pj lw).1 33 30 = some (.baload, 1, 0))
theorem w33_31i {y : Int32} {x : Int32} {l0 l1 l2 l3 : Slot} : W (pj lw) 33 31 (l0 :: l1 :: l2 :: l3 :: .val (.int y) :: L) (.int x :: S) k n H Q ↔ W (pj lw) 33 33 (l0 :: l1 :: l2 :: l3 :: .val (.int x) :: L) S k n H Q := W_ist (rfl : (pj lw).1 33 31 = some (.istore 4, 2, 0)) rfl rfl
theorem w33_31 {x : Int32} {l0 l1 l2 l3 : Slot} : W (pj lw) 33 31 (l0 :: l1 :: l2 :: l3 :: .unset :: L) (.int x :: S) k n H Q ↔ W (pj lw) 33 33 (l0 :: l1 :: l2 :: l3 :: .val (.int x) :: L) S k n H Q := W_ist (rfl : (pj lw).1 33 31 = some (.istore 4, 2, 0)) rfl rfl
theorem w33_33 {x : Int32} {l0 l1 l2 l3 : Slot} : W (pj lw) 33 33 (l0 :: l1 :: l2 :: l3 :: .val (.int x) :: L) S k n H Q ↔ W (pj lw) 33 35 (l0 :: l1 :: l2 :: l3 :: .val (.int x) :: L) (.int x :: S) k n H Q := W_s (rfl : (pj lw).1 33 33 = some (.iload 4, 2, 0)) rfl rfl rfl
theorem w33_35 {x : Int32} : W (pj lw) 33 35 L (.int x :: S) k n H Q ↔ (if x = 0 then W (pj lw) 33 41 L S k n H Q else W (pj lw) 33 38 L S k n H Q) := W_if_eq (rfl : (pj lw).1 33 35 = some (.ifCond .eq 6, 3, 0)) rfl
theorem w33_38 {x : Int32} {l0 l1 : Slot} : W (pj lw) 33 38 (l0 :: l1 :: .val (.int x) :: L) S k n H Q ↔ W (pj lw) 33 41 (l0 :: l1 :: .val (.int (x + 1)) :: L) S k n H Q := W_s (rfl : (pj lw).1 33 38 = some (.iinc 2 1, 3, 0)) rfl rfl rfl
theorem w33_41 {x : Int32} {l0 l1 l2 : Slot} : W (pj lw) 33 41 (l0 :: l1 :: l2 :: .val (.int x) :: L) S k n H Q ↔ W (pj lw) 33 44 (l0 :: l1 :: l2 :: .val (.int (x + 1)) :: L) S k n H Q := W_s (rfl : (pj lw).1 33 41 = some (.iinc 3 1, 3, 0)) rfl rfl rfl
theorem w33_44 : W (pj lw) 33 44 L S k n H Q ↔ W (pj lw) 33 4 L S k n H Q := W_goto (rfl : (pj lw).1 33 44 = some (.goto (-40), 3, 0)) rfl
theorem w33_47 {x : Int32} {l0 l1 : Slot} : W (pj lw) 33 47 (l0 :: l1 :: .val (.int x) :: L) S k n H Q ↔ W (pj lw) 33 48 (l0 :: l1 :: .val (.int x) :: L) (.int x :: S) k n H Q := W_s (rfl : (pj lw).1 33 47 = some (.iload_n 2, 1, 0)) rfl rfl rfl
theorem w33_48 {x : Int32} : W (pj lw) 33 48 L (.int x :: S) k n H Q ↔ Q (some (.int x)) H := W_r (rfl : (pj lw).1 33 48 = some (.ireturn, 1, 0)) rfl
theorem c34 {x0 : Nat} : Cl (pj lw) 34 [.ref x0] H Q ↔ W (pj lw) 34 0 [.val (.ref x0), .unset, .unset] [] 0 0 H Q := cl_unf rfl
theorem w34_0 : W (pj lw) 34 0 L S k n H Q ↔ W (pj lw) 34 1 L (.int 0 :: S) k n H Q := W_s (rfl : (pj lw).1 34 0 = some (.iconst 0, 1, 0)) rfl rfl rfl
theorem w34_1 {x : Int32} {l0 : Slot} : W (pj lw) 34 1 (l0 :: .unset :: L) (.int x :: S) k n H Q ↔ W (pj lw) 34 2 (l0 :: .val (.int x) :: L) S k n H Q := W_istn (rfl : (pj lw).1 34 1 = some (.istore_n 1, 1, 0)) rfl rfl
theorem w34_2 : W (pj lw) 34 2 L S k n H Q ↔ W (pj lw) 34 3 L (.int 0 :: S) k n H Q := W_s (rfl : (pj lw).1 34 2 = some (.iconst 0, 1, 0)) rfl rfl rfl
theorem w34_3 {x : Int32} {l0 l1 : Slot} : W (pj lw) 34 3 (l0 :: l1 :: .unset :: L) (.int x :: S) k n H Q ↔ W (pj lw) 34 4 (l0 :: l1 :: .val (.int x) :: L) S k n H Q := W_istn (rfl : (pj lw).1 34 3 = some (.istore_n 2, 1, 0)) rfl rfl
theorem w34_4 {x : Int32} {l0 l1 : Slot} : W (pj lw) 34 4 (l0 :: l1 :: .val (.int x) :: L) S k n H Q ↔ W (pj lw) 34 5 (l0 :: l1 :: .val (.int x) :: L) (.int x :: S) k n H Q := W_s (rfl : (pj lw).1 34 4 = some (.iload_n 2, 1, 0)) rfl rfl rfl
theorem w34_5 {x : Nat} : W (pj lw) 34 5 (.val (.ref x) :: L) S k n H Q ↔ W (pj lw) 34 6 (.val (.ref x) :: L) (.ref x :: S) k n H Q := W_s (rfl : (pj lw).1 34 5 = some (.aload_n 0, 1, 0)) rfl rfl rfl
theorem w34_6 {a : Nat} : W (pj lw) 34 6 L (.ref a :: S) k n H Q ↔ (isO H a = true ∧ W (pj lw) 34 9 L (fld H a 0 :: S) k n H Q) := W_getf (rfl : (pj lw).1 34 6 = some (.getfield 57, 3, 0))
theorem w34_9 {x y : Int32} : W (pj lw) 34 9 L (.int y :: .int x :: S) k n H Q ↔ (if x < y then W (pj lw) 34 12 L S k n H Q else W (pj lw) 34 32 L S k n H Q) := W_icmp_ge (rfl : (pj lw).1 34 9 = some (.if_icmp .ge 23, 3, 0)) rfl
theorem w34_12 {x : Nat} : W (pj lw) 34 12 (.val (.ref x) :: L) S k n H Q ↔ W (pj lw) 34 13 (.val (.ref x) :: L) (.ref x :: S) k n H Q := W_s (rfl : (pj lw).1 34 12 = some (.aload_n 0, 1, 0)) rfl rfl rfl
theorem w34_13 {a : Nat} : W (pj lw) 34 13 L (.ref a :: S) k n H Q ↔ (isO H a = true ∧ W (pj lw) 34 16 L (fld H a 9 :: S) k n H Q) := W_getf (rfl : (pj lw).1 34 13 = some (.getfield 26, 3, 9))
theorem w34_16 {x : Int32} {l0 l1 : Slot} : W (pj lw) 34 16 (l0 :: l1 :: .val (.int x) :: L) S k n H Q ↔ W (pj lw) 34 17 (l0 :: l1 :: .val (.int x) :: L) (.int x :: S) k n H Q := W_s (rfl : (pj lw).1 34 16 = some (.iload_n 2, 1, 0)) rfl rfl rfl
theorem w34_17 {i : Int32} {a : Nat} : W (pj lw) 34 17 L (.int i :: .ref a :: S) k n H Q ↔ (inA H a .int i = true ∧ W (pj lw) 34 18 L (elt H a i :: S) k n H Q) := W_iaload (rfl : (pj lw).1 34 17 = some (.iaload, 1, 0))
theorem w34_18 : W (pj lw) 34 18 L S k n H Q ↔ W (pj lw) 34 20 L (.int (-2) :: S) k n H Q := W_s (rfl : (pj lw).1 34 18 = some (.bipush (-2), 2, 0)) rfl rfl rfl
theorem w34_20 {x y : Int32} : W (pj lw) 34 20 L (.int y :: .int x :: S) k n H Q ↔ (if x = y then W (pj lw) 34 26 L S k n H Q else W (pj lw) 34 23 L S k n H Q) := W_icmp_eq (rfl : (pj lw).1 34 20 = some (.if_icmp .eq 6, 3, 0)) rfl
theorem w34_23 {x : Int32} {l0 : Slot} : W (pj lw) 34 23 (l0 :: .val (.int x) :: L) S k n H Q ↔ W (pj lw) 34 26 (l0 :: .val (.int (x + 1)) :: L) S k n H Q := W_s (rfl : (pj lw).1 34 23 = some (.iinc 1 1, 3, 0)) rfl rfl rfl
theorem w34_26 {x : Int32} {l0 l1 : Slot} : W (pj lw) 34 26 (l0 :: l1 :: .val (.int x) :: L) S k n H Q ↔ W (pj lw) 34 29 (l0 :: l1 :: .val (.int (x + 1)) :: L) S k n H Q := W_s (rfl : (pj lw).1 34 26 = some (.iinc 2 1, 3, 0)) rfl rfl rfl
theorem w34_29 : W (pj lw) 34 29 L S k n H Q ↔ W (pj lw) 34 4 L S k n H Q := W_goto (rfl : (pj lw).1 34 29 = some (.goto (-25), 3, 0)) rfl
theorem w34_32 {x : Int32} {l0 : Slot} : W (pj lw) 34 32 (l0 :: .val (.int x) :: L) S k n H Q ↔ W (pj lw) 34 33 (l0 :: .val (.int x) :: L) (.int x :: S) k n H Q := W_s (rfl : (pj lw).1 34 32 = some (.iload_n 1, 1, 0)) rfl rfl rfl
theorem w34_33 {x : Int32} : W (pj lw) 34 33 L (.int x :: S) k n H Q ↔ Q (some (.int x)) H := W_r (rfl : (pj lw).1 34 33 = some (.ireturn, 1, 0)) rfl
end Pc
section A
variable {lw : LW} {H : AH} {p j : Nat} {s : St} {Q : Option Value → AH → Prop} {a b c d : Int32} {h : Nat → Cel} {k n : Nat}
theorem t17 : Cl (pj lw) 17 [.ref p, .int a, .int b, .int c] H Q ↔ Q (some (.int (cl b c a))) H := by
  rw [c17]
  by_cases h1 : a < b <;> by_cases h2 : c < a <;> simp +decide only [w17_0, w17_1, w17_2, w17_5, w17_6, w17_7, w17_8, w17_9, w17_12, w17_13, w17_14, w17_15, zr_z0, zr_uI, zr_uJ, isO_put, isOw_put, put_fst, okv_int, okv_long, okv_ref, okv_bool, okv_byte, cat1_unset, cat1_int, cat1_ref, cs_nil, cs_int, cs_ref, cs_long, cmpL_lt, cmpL_gt, cmpL_eq, sI_uI, sI_uJ, sI_uA, sI_uB, sJ_uI, sJ_uJ, sJ_uA, sJ_uB, sA_uI, sA_uJ, sA_uA, sA_uB, sB_uI, sB_uJ, sB_uA, sB_uB, sI_fA, sJ_fA, sA_fA, sB_fA, sI_z0, sJ_z0, sA_z0, sB_z0, Option.toList_some, Option.toList_none, List.cons_append, List.nil_append, true_and, and_true, false_and, and_false, or_false, false_or, or_true, true_or, not_true_eq_false, not_false_eq_true, ↓reduceIte, Nat.reduceAdd, Nat.reduceLeDiff, Nat.reduceEqDiff, Nat.reduceSub, Int32.reduceAdd, Int32.reduceSub, Int32.reduceMul, Int32.reduceToNatClampNeg, Int64.reduceAdd, Int64.reduceSub, Int64.reduceMul, Int64.reduceLT, Int32.reduceLT, Int32.reduceToInt, Nat.add_zero, Nat.zero_add, Nat.le_refl, eq_self, implies_true, ne_eq, h1, h2, cl]
def F1 (s : St) (lo : Nat) : St := fA (fA (fA (fA (fA (fA (fA (fA s 1 lo 128 0) 2 lo 128 0) 3 lo 128 0) 4 lo 128 0) 5 lo 128 0) 6 lo 128 (-2)) 7 lo 128 (-1)) 8 lo 128 (-1)
theorem F1_nil {lo : Nat} (h : 128 ≤ lo) : F1 s lo = s := by simp only [F1, fA_nil h]
theorem F1_step {lo : Nat} (h : lo < 128) : F1 (uA (uA (uA (uA (uA (uA (uA (uA s 1 lo 0) 2 lo 0) 3 lo 0) 4 lo 0) 5 lo 0) 6 lo (-2)) 7 lo (-1)) 8 lo (-1)) (lo + 1) = F1 s lo := by
  refine St_ext (fun k => by simp only [F1, sI_fA, sI_uA]) (fun k => by simp only [F1, sJ_fA, sJ_uA]) (fun t' i => ?_) (fun t' i => by simp only [F1, sB_fA, sB_uA])
  simp only [F1, sA_fA, sA_uA]
  by_cases hi : i = lo
  · subst hi
    have h1 : ¬ (i + 1 ≤ i) := by omega
    simp only [h1, h, Nat.le_refl, and_true, and_false, true_and, false_and, if_false]
  · have h1 : (lo + 1 ≤ i) = (lo ≤ i) := propext ⟨fun _ => by omega, fun _ => by omega⟩
    simp only [hi, h1, and_false, if_false]
theorem l1 (m : Nat) : ∀ (i : Int32) (s : St), i.toInt = 128 - m → m ≤ 128 → (W (pj lw) 1 183 [.val (.ref p), .val (.int a), .val (.int b), .val (.int c), .val (.int d), .val (.int i)] [] k n (ob H p s) Q ↔ W (pj lw) 1 262 [.val (.ref p), .val (.int a), .val (.int b), .val (.int c), .val (.int d), .val (.int 128)] [] k n (ob H p (F1 s i.toNatClampNeg)) Q) := by
  induction m with
  | zero =>
    intro i s hi _
    have h1 : ¬ i < 128 := by rw [lt32]; simp only [Int32.reduceToInt]; omega
    have h0 : i = 128 := by rw [eq32]; simp only [Int32.reduceToInt]; omega
    rw [w1_183]; simp +decide only [w1_185, w1_188, w1_191, w1_192, w1_195, w1_197, w1_198, w1_199, w1_200, w1_203, w1_205, w1_206, w1_207, w1_208, w1_211, w1_213, w1_214, w1_215, w1_216, w1_219, w1_221, w1_222, w1_223, w1_224, w1_227, w1_229, w1_230, w1_231, w1_232, w1_235, w1_237, w1_239, w1_240, w1_241, w1_244, w1_246, w1_247, w1_248, w1_249, w1_252, w1_254, w1_255, w1_256, w1_259, zr_z0, zr_uI, zr_uJ, isO_put, isOw_put, put_fst, okv_int, okv_long, okv_ref, okv_bool, okv_byte, cat1_unset, cat1_int, cat1_ref, cs_nil, cs_int, cs_ref, cs_long, cmpL_lt, cmpL_gt, cmpL_eq, sI_uI, sI_uJ, sI_uA, sI_uB, sJ_uI, sJ_uJ, sJ_uA, sJ_uB, sA_uI, sA_uJ, sA_uA, sA_uB, sB_uI, sB_uJ, sB_uA, sB_uB, sI_fA, sJ_fA, sA_fA, sB_fA, sI_z0, sJ_z0, sA_z0, sB_z0, Option.toList_some, Option.toList_none, List.cons_append, List.nil_append, true_and, and_true, false_and, and_false, or_false, false_or, or_true, true_or, not_true_eq_false, not_false_eq_true, ↓reduceIte, Nat.reduceAdd, Nat.reduceLeDiff, Nat.reduceEqDiff, Nat.reduceSub, Int32.reduceAdd, Int32.reduceSub, Int32.reduceMul, Int32.reduceToNatClampNeg, Int64.reduceAdd, Int64.reduceSub, Int64.reduceMul, Int64.reduceLT, Int32.reduceLT, Int32.reduceToInt, Nat.add_zero, Nat.zero_add, Nat.le_refl, eq_self, implies_true, ne_eq, h1]
    rw [F1_nil (by rw [cln]; omega), h0]
  | succ m ih =>
    intro i s hi hm
    have h1 : i < 128 := by rw [lt32]; simp only [Int32.reduceToInt]; omega
    have h2 : (i + 1).toInt = i.toInt + 1 := ia (by simp only [Int32.reduceToInt]; omega) (by simp only [Int32.reduceToInt]; omega)
    have h3 : 0 ≤ i.toInt ∧ i.toInt < 128 := by omega
    rw [w1_183]; simp +decide only [w1_185, w1_188, w1_191, w1_192, w1_195, w1_197, w1_198, w1_199, w1_200, w1_203, w1_205, w1_206, w1_207, w1_208, w1_211, w1_213, w1_214, w1_215, w1_216, w1_219, w1_221, w1_222, w1_223, w1_224, w1_227, w1_229, w1_230, w1_231, w1_232, w1_235, w1_237, w1_239, w1_240, w1_241, w1_244, w1_246, w1_247, w1_248, w1_249, w1_252, w1_254, w1_255, w1_256, w1_259, zr_z0, zr_uI, zr_uJ, isO_put, isOw_put, put_fst, okv_int, okv_long, okv_ref, okv_bool, okv_byte, cat1_unset, cat1_int, cat1_ref, cs_nil, cs_int, cs_ref, cs_long, cmpL_lt, cmpL_gt, cmpL_eq, sI_uI, sI_uJ, sI_uA, sI_uB, sJ_uI, sJ_uJ, sJ_uA, sJ_uB, sA_uI, sA_uJ, sA_uA, sA_uB, sB_uI, sB_uJ, sB_uA, sB_uB, sI_fA, sJ_fA, sA_fA, sB_fA, sI_z0, sJ_z0, sA_z0, sB_z0, Option.toList_some, Option.toList_none, List.cons_append, List.nil_append, true_and, and_true, false_and, and_false, or_false, false_or, or_true, true_or, not_true_eq_false, not_false_eq_true, ↓reduceIte, Nat.reduceAdd, Nat.reduceLeDiff, Nat.reduceEqDiff, Nat.reduceSub, Int32.reduceAdd, Int32.reduceSub, Int32.reduceMul, Int32.reduceToNatClampNeg, Int64.reduceAdd, Int64.reduceSub, Int64.reduceMul, Int64.reduceLT, Int32.reduceLT, Int32.reduceToInt, Nat.add_zero, Nat.zero_add, Nat.le_refl, eq_self, implies_true, ne_eq, g0, s0, g1, s1, g2, s2, g3, s3, g4, g5, g6, g7, g8, g9, g10, g11, g12, g13, g14, g15, g16, g17, g18, s18, g19, s19, g20, s20, g21, s21, g22, s22, g23, s23, ai1, aw1, ae1, as1, ai2, aw2, ae2, as2, ai3, aw3, ae3, as3, ai4, aw4, ain4, awn4, ae4, as4, ai5, aw5, ain5, awn5, ae5, as5, ai6, aw6, ae6, as6, ai7, aw7, ae7, as7, ai8, aw8, ae8, as8, ai9, aw9, ae9, as9, ai10, aw10, ain10, awn10, ae10, as10, ai11, aw11, ae11, as11, ai12, aw12, ae12, as12, ai13, aw13, ae13, as13, ai14, aw14, ae14, as14, h1, h3]
    rw [ih (i + 1) _ (by omega) (by omega)]
    have h4 : (i + 1).toNatClampNeg = i.toNatClampNeg + 1 := by rw [cln, cln]; omega
    rw [h4, F1_step (by rw [cln]; omega)]
def ini0 (a b c d : Int32) : St := uI (uI (uI (uI (uI (uI (F1 (uI (uI (uI (uI z0 0 (cl 2 128 a)) 1 (cl 1 8 b)) 2 (cl 1 8 c)) 3 (cl 1 16 d)) 0) 18 0) 19 0) 20 0) 21 0) 22 0) 23 1
set_option maxRecDepth 100000 in
theorem t1 : Cl (pj lw) 1 [.ref p, .int a, .int b, .int c, .int d] (put lay 0 (p + 1, h) p z0) Q ↔ Q none (ob (p + 15, h) p (ini0 a b c d)) := by
  rw [c1]; simp +decide only [w1_0, w1_1, w1_4, w1_5, w1_8, w1_10, w1_13, w1_14, w1_17, w1_19, w1_22, w1_23, w1_26, w1_28, w1_31, w1_32, w1_35, w1_37, w1_40, w1_41, w1_44, w1_46, w1_49, w1_50, w1_53, w1_55, w1_58, w1_59, w1_62, w1_64, w1_67, w1_68, w1_71, w1_73, w1_76, w1_77, w1_80, w1_82, w1_85, w1_86, w1_89, w1_91, w1_94, w1_95, w1_98, w1_100, w1_103, w1_104, w1_107, w1_109, w1_112, w1_113, w1_116, w1_118, w1_121, w1_122, w1_125, w1_127, w1_130, w1_131, w1_132, w1_133, w1_134, w1_137, w1_140, w1_143, w1_144, w1_145, w1_146, w1_147, w1_149, w1_152, w1_155, w1_156, w1_157, w1_158, w1_159, w1_161, w1_164, w1_167, w1_168, w1_169, w1_171, w1_172, w1_174, w1_177, w1_180, w1_181, w1_185, w1_188, w1_191, w1_192, w1_195, w1_197, w1_198, w1_199, w1_200, w1_203, w1_205, w1_206, w1_207, w1_208, w1_211, w1_213, w1_214, w1_215, w1_216, w1_219, w1_221, w1_222, w1_223, w1_224, w1_227, w1_229, w1_230, w1_231, w1_232, w1_235, w1_237, w1_239, w1_240, w1_241, w1_244, w1_246, w1_247, w1_248, w1_249, w1_252, w1_254, w1_255, w1_256, w1_259, w1_262, w1_263, w1_264, w1_267, w1_268, w1_269, w1_272, w1_273, w1_274, w1_277, w1_278, w1_279, w1_282, w1_283, w1_284, w1_287, w1_288, w1_289, w1_292, zr_z0, zr_uI, zr_uJ, isO_put, isOw_put, put_fst, okv_int, okv_long, okv_ref, okv_bool, okv_byte, cat1_unset, cat1_int, cat1_ref, cs_nil, cs_int, cs_ref, cs_long, cmpL_lt, cmpL_gt, cmpL_eq, sI_uI, sI_uJ, sI_uA, sI_uB, sJ_uI, sJ_uJ, sJ_uA, sJ_uB, sA_uI, sA_uJ, sA_uA, sA_uB, sB_uI, sB_uJ, sB_uA, sB_uB, sI_fA, sJ_fA, sA_fA, sB_fA, sI_z0, sJ_z0, sA_z0, sB_z0, Option.toList_some, Option.toList_none, List.cons_append, List.nil_append, true_and, and_true, false_and, and_false, or_false, false_or, or_true, true_or, not_true_eq_false, not_false_eq_true, ↓reduceIte, Nat.reduceAdd, Nat.reduceLeDiff, Nat.reduceEqDiff, Nat.reduceSub, Int32.reduceAdd, Int32.reduceSub, Int32.reduceMul, Int32.reduceToNatClampNeg, Int64.reduceAdd, Int64.reduceSub, Int64.reduceMul, Int64.reduceLT, Int32.reduceLT, Int32.reduceToInt, Nat.add_zero, Nat.zero_add, Nat.le_refl, eq_self, implies_true, ne_eq, g0, s0, g1, s1, g2, s2, g3, s3, g4, g5, g6, g7, g8, g9, g10, g11, g12, g13, g14, g15, g16, g17, g18, s18, g19, s19, g20, s20, g21, s21, g22, s22, g23, s23, ai1, aw1, ae1, as1, ai2, aw2, ae2, as2, ai3, aw3, ae3, as3, ai4, aw4, ain4, awn4, ae4, as4, ai5, aw5, ain5, awn5, ae5, as5, ai6, aw6, ae6, as6, ai7, aw7, ae7, as7, ai8, aw8, ae8, as8, ai9, aw9, ae9, as9, ai10, aw10, ain10, awn10, ae10, as10, ai11, aw11, ae11, as11, ai12, aw12, ae12, as12, ai13, aw13, ae13, as13, ai14, aw14, ae14, as14, mk1, io1, mk2, io2, mk3, io3, mk4, io4, mk5, io5, mk6, io6, mk7, io7, mk8, io8, mk9, io9, mk10, io10, mk11, io11, mk12, io12, mk13, io13, mk14, io14, t17]
  rw [l1 128 0 _ (by decide) (by decide)]
  simp +decide only [w1_0, w1_1, w1_4, w1_5, w1_8, w1_10, w1_13, w1_14, w1_17, w1_19, w1_22, w1_23, w1_26, w1_28, w1_31, w1_32, w1_35, w1_37, w1_40, w1_41, w1_44, w1_46, w1_49, w1_50, w1_53, w1_55, w1_58, w1_59, w1_62, w1_64, w1_67, w1_68, w1_71, w1_73, w1_76, w1_77, w1_80, w1_82, w1_85, w1_86, w1_89, w1_91, w1_94, w1_95, w1_98, w1_100, w1_103, w1_104, w1_107, w1_109, w1_112, w1_113, w1_116, w1_118, w1_121, w1_122, w1_125, w1_127, w1_130, w1_131, w1_132, w1_133, w1_134, w1_137, w1_140, w1_143, w1_144, w1_145, w1_146, w1_147, w1_149, w1_152, w1_155, w1_156, w1_157, w1_158, w1_159, w1_161, w1_164, w1_167, w1_168, w1_169, w1_171, w1_172, w1_174, w1_177, w1_180, w1_181, w1_185, w1_188, w1_191, w1_192, w1_195, w1_197, w1_198, w1_199, w1_200, w1_203, w1_205, w1_206, w1_207, w1_208, w1_211, w1_213, w1_214, w1_215, w1_216, w1_219, w1_221, w1_222, w1_223, w1_224, w1_227, w1_229, w1_230, w1_231, w1_232, w1_235, w1_237, w1_239, w1_240, w1_241, w1_244, w1_246, w1_247, w1_248, w1_249, w1_252, w1_254, w1_255, w1_256, w1_259, w1_262, w1_263, w1_264, w1_267, w1_268, w1_269, w1_272, w1_273, w1_274, w1_277, w1_278, w1_279, w1_282, w1_283, w1_284, w1_287, w1_288, w1_289, w1_292, zr_z0, zr_uI, zr_uJ, isO_put, isOw_put, put_fst, okv_int, okv_long, okv_ref, okv_bool, okv_byte, cat1_unset, cat1_int, cat1_ref, cs_nil, cs_int, cs_ref, cs_long, cmpL_lt, cmpL_gt, cmpL_eq, sI_uI, sI_uJ, sI_uA, sI_uB, sJ_uI, sJ_uJ, sJ_uA, sJ_uB, sA_uI, sA_uJ, sA_uA, sA_uB, sB_uI, sB_uJ, sB_uA, sB_uB, sI_fA, sJ_fA, sA_fA, sB_fA, sI_z0, sJ_z0, sA_z0, sB_z0, Option.toList_some, Option.toList_none, List.cons_append, List.nil_append, true_and, and_true, false_and, and_false, or_false, false_or, or_true, true_or, not_true_eq_false, not_false_eq_true, ↓reduceIte, Nat.reduceAdd, Nat.reduceLeDiff, Nat.reduceEqDiff, Nat.reduceSub, Int32.reduceAdd, Int32.reduceSub, Int32.reduceMul, Int32.reduceToNatClampNeg, Int64.reduceAdd, Int64.reduceSub, Int64.reduceMul, Int64.reduceLT, Int32.reduceLT, Int32.reduceToInt, Nat.add_zero, Nat.zero_add, Nat.le_refl, eq_self, implies_true, ne_eq, g0, s0, g1, s1, g2, s2, g3, s3, g4, g5, g6, g7, g8, g9, g10, g11, g12, g13, g14, g15, g16, g17, g18, s18, g19, s19, g20, s20, g21, s21, g22, s22, g23, s23, ai1, aw1, ae1, as1, ai2, aw2, ae2, as2, ai3, aw3, ae3, as3, ai4, aw4, ain4, awn4, ae4, as4, ai5, aw5, ain5, awn5, ae5, as5, ai6, aw6, ae6, as6, ai7, aw7, ae7, as7, ai8, aw8, ae8, as8, ai9, aw9, ae9, as9, ai10, aw10, ain10, awn10, ae10, as10, ai11, aw11, ae11, as11, ai12, aw12, ae12, as12, ai13, aw13, ae13, as13, ai14, aw14, ae14, as14, ini0]
theorem l34 (m : Nat) : ∀ (j c : Int32), j.toInt = (sI s 0).toInt - m → 0 ≤ j.toInt → (sI s 0).toInt ≤ 128 → (W (pj lw) 34 4 [.val (.ref p), .val (.int c), .val (.int j)] [] k n (ob H p s) Q ↔ Q (some (.int (c + Int32.ofNat (cnt (fun i => !decide (sA s 6 i = -2)) j.toNatClampNeg m)))) (ob H p s)) := by
  induction m with
  | zero =>
    intro j c hj h0 hn
    have h1 : ¬ j < sI s 0 := by rw [lt32]; omega
    rw [w34_4]; simp +decide only [w34_0, w34_1, w34_2, w34_3, w34_5, w34_6, w34_9, w34_12, w34_13, w34_16, w34_17, w34_18, w34_20, w34_23, w34_26, w34_29, w34_32, w34_33, zr_z0, zr_uI, zr_uJ, isO_put, isOw_put, put_fst, okv_int, okv_long, okv_ref, okv_bool, okv_byte, cat1_unset, cat1_int, cat1_ref, cs_nil, cs_int, cs_ref, cs_long, cmpL_lt, cmpL_gt, cmpL_eq, sI_uI, sI_uJ, sI_uA, sI_uB, sJ_uI, sJ_uJ, sJ_uA, sJ_uB, sA_uI, sA_uJ, sA_uA, sA_uB, sB_uI, sB_uJ, sB_uA, sB_uB, sI_fA, sJ_fA, sA_fA, sB_fA, sI_z0, sJ_z0, sA_z0, sB_z0, Option.toList_some, Option.toList_none, List.cons_append, List.nil_append, true_and, and_true, false_and, and_false, or_false, false_or, or_true, true_or, not_true_eq_false, not_false_eq_true, ↓reduceIte, Nat.reduceAdd, Nat.reduceLeDiff, Nat.reduceEqDiff, Nat.reduceSub, Int32.reduceAdd, Int32.reduceSub, Int32.reduceMul, Int32.reduceToNatClampNeg, Int64.reduceAdd, Int64.reduceSub, Int64.reduceMul, Int64.reduceLT, Int32.reduceLT, Int32.reduceToInt, Nat.add_zero, Nat.zero_add, Nat.le_refl, eq_self, implies_true, ne_eq, g0, s0, g1, s1, g2, s2, g3, s3, g4, g5, g6, g7, g8, g9, g10, g11, g12, g13, g14, g15, g16, g17, g18, s18, g19, s19, g20, s20, g21, s21, g22, s22, g23, s23, ai1, aw1, ae1, as1, ai2, aw2, ae2, as2, ai3, aw3, ae3, as3, ai4, aw4, ain4, awn4, ae4, as4, ai5, aw5, ain5, awn5, ae5, as5, ai6, aw6, ae6, as6, ai7, aw7, ae7, as7, ai8, aw8, ae8, as8, ai9, aw9, ae9, as9, ai10, aw10, ain10, awn10, ae10, as10, ai11, aw11, ae11, as11, ai12, aw12, ae12, as12, ai13, aw13, ae13, as13, ai14, aw14, ae14, as14, h1]
    rw [cnt, add_ofNat_zero]
  | succ m ih =>
    intro j c hj h0 hn
    have h1 : j < sI s 0 := by rw [lt32]; omega
    have h2 : (j + 1).toInt = j.toInt + 1 := ia (by simp only [Int32.reduceToInt]; omega) (by simp only [Int32.reduceToInt]; omega)
    have h3 : 0 ≤ j.toInt ∧ j.toInt < 128 := by omega
    have h4 : (j + 1).toNatClampNeg = j.toNatClampNeg + 1 := by rw [cln, cln]; omega
    rw [w34_4]
    by_cases h5 : sA s 6 j.toNatClampNeg = -2
    · simp +decide only [w34_0, w34_1, w34_2, w34_3, w34_5, w34_6, w34_9, w34_12, w34_13, w34_16, w34_17, w34_18, w34_20, w34_23, w34_26, w34_29, w34_32, w34_33, zr_z0, zr_uI, zr_uJ, isO_put, isOw_put, put_fst, okv_int, okv_long, okv_ref, okv_bool, okv_byte, cat1_unset, cat1_int, cat1_ref, cs_nil, cs_int, cs_ref, cs_long, cmpL_lt, cmpL_gt, cmpL_eq, sI_uI, sI_uJ, sI_uA, sI_uB, sJ_uI, sJ_uJ, sJ_uA, sJ_uB, sA_uI, sA_uJ, sA_uA, sA_uB, sB_uI, sB_uJ, sB_uA, sB_uB, sI_fA, sJ_fA, sA_fA, sB_fA, sI_z0, sJ_z0, sA_z0, sB_z0, Option.toList_some, Option.toList_none, List.cons_append, List.nil_append, true_and, and_true, false_and, and_false, or_false, false_or, or_true, true_or, not_true_eq_false, not_false_eq_true, ↓reduceIte, Nat.reduceAdd, Nat.reduceLeDiff, Nat.reduceEqDiff, Nat.reduceSub, Int32.reduceAdd, Int32.reduceSub, Int32.reduceMul, Int32.reduceToNatClampNeg, Int64.reduceAdd, Int64.reduceSub, Int64.reduceMul, Int64.reduceLT, Int32.reduceLT, Int32.reduceToInt, Nat.add_zero, Nat.zero_add, Nat.le_refl, eq_self, implies_true, ne_eq, g0, s0, g1, s1, g2, s2, g3, s3, g4, g5, g6, g7, g8, g9, g10, g11, g12, g13, g14, g15, g16, g17, g18, s18, g19, s19, g20, s20, g21, s21, g22, s22, g23, s23, ai1, aw1, ae1, as1, ai2, aw2, ae2, as2, ai3, aw3, ae3, as3, ai4, aw4, ain4, awn4, ae4, as4, ai5, aw5, ain5, awn5, ae5, as5, ai6, aw6, ae6, as6, ai7, aw7, ae7, as7, ai8, aw8, ae8, as8, ai9, aw9, ae9, as9, ai10, aw10, ain10, awn10, ae10, as10, ai11, aw11, ae11, as11, ai12, aw12, ae12, as12, ai13, aw13, ae13, as13, ai14, aw14, ae14, as14, h1, h3, h5]
      rw [ih (j + 1) _ (by omega) (by omega) hn, h4, cnt]
      simp [h5]
    · simp +decide only [w34_0, w34_1, w34_2, w34_3, w34_5, w34_6, w34_9, w34_12, w34_13, w34_16, w34_17, w34_18, w34_20, w34_23, w34_26, w34_29, w34_32, w34_33, zr_z0, zr_uI, zr_uJ, isO_put, isOw_put, put_fst, okv_int, okv_long, okv_ref, okv_bool, okv_byte, cat1_unset, cat1_int, cat1_ref, cs_nil, cs_int, cs_ref, cs_long, cmpL_lt, cmpL_gt, cmpL_eq, sI_uI, sI_uJ, sI_uA, sI_uB, sJ_uI, sJ_uJ, sJ_uA, sJ_uB, sA_uI, sA_uJ, sA_uA, sA_uB, sB_uI, sB_uJ, sB_uA, sB_uB, sI_fA, sJ_fA, sA_fA, sB_fA, sI_z0, sJ_z0, sA_z0, sB_z0, Option.toList_some, Option.toList_none, List.cons_append, List.nil_append, true_and, and_true, false_and, and_false, or_false, false_or, or_true, true_or, not_true_eq_false, not_false_eq_true, ↓reduceIte, Nat.reduceAdd, Nat.reduceLeDiff, Nat.reduceEqDiff, Nat.reduceSub, Int32.reduceAdd, Int32.reduceSub, Int32.reduceMul, Int32.reduceToNatClampNeg, Int64.reduceAdd, Int64.reduceSub, Int64.reduceMul, Int64.reduceLT, Int32.reduceLT, Int32.reduceToInt, Nat.add_zero, Nat.zero_add, Nat.le_refl, eq_self, implies_true, ne_eq, g0, s0, g1, s1, g2, s2, g3, s3, g4, g5, g6, g7, g8, g9, g10, g11, g12, g13, g14, g15, g16, g17, g18, s18, g19, s19, g20, s20, g21, s21, g22, s22, g23, s23, ai1, aw1, ae1, as1, ai2, aw2, ae2, as2, ai3, aw3, ae3, as3, ai4, aw4, ain4, awn4, ae4, as4, ai5, aw5, ain5, awn5, ae5, as5, ai6, aw6, ae6, as6, ai7, aw7, ae7, as7, ai8, aw8, ae8, as8, ai9, aw9, ae9, as9, ai10, aw10, ain10, awn10, ae10, as10, ai11, aw11, ae11, as11, ai12, aw12, ae12, as12, ai13, aw13, ae13, as13, ai14, aw14, ae14, as14, h1, h3, h5]
      rw [ih (j + 1) _ (by omega) (by omega) hn, h4, cnt, ofNat_one_add]
      simp [h5]
theorem t34 (h0 : 0 ≤ (sI s 0).toInt ∧ (sI s 0).toInt ≤ 128) : Cl (pj lw) 34 [.ref p] (ob H p s) Q ↔ Q (some (.int (Int32.ofNat (cnt (fun i => !decide (sA s 6 i = -2)) 0 (sI s 0).toInt.toNat)))) (ob H p s) := by
  rw [c34]; simp +decide only [w34_0, w34_1, w34_2, w34_3, w34_5, w34_6, w34_9, w34_12, w34_13, w34_16, w34_17, w34_18, w34_20, w34_23, w34_26, w34_29, w34_32, w34_33, zr_z0, zr_uI, zr_uJ, isO_put, isOw_put, put_fst, okv_int, okv_long, okv_ref, okv_bool, okv_byte, cat1_unset, cat1_int, cat1_ref, cs_nil, cs_int, cs_ref, cs_long, cmpL_lt, cmpL_gt, cmpL_eq, sI_uI, sI_uJ, sI_uA, sI_uB, sJ_uI, sJ_uJ, sJ_uA, sJ_uB, sA_uI, sA_uJ, sA_uA, sA_uB, sB_uI, sB_uJ, sB_uA, sB_uB, sI_fA, sJ_fA, sA_fA, sB_fA, sI_z0, sJ_z0, sA_z0, sB_z0, Option.toList_some, Option.toList_none, List.cons_append, List.nil_append, true_and, and_true, false_and, and_false, or_false, false_or, or_true, true_or, not_true_eq_false, not_false_eq_true, ↓reduceIte, Nat.reduceAdd, Nat.reduceLeDiff, Nat.reduceEqDiff, Nat.reduceSub, Int32.reduceAdd, Int32.reduceSub, Int32.reduceMul, Int32.reduceToNatClampNeg, Int64.reduceAdd, Int64.reduceSub, Int64.reduceMul, Int64.reduceLT, Int32.reduceLT, Int32.reduceToInt, Nat.add_zero, Nat.zero_add, Nat.le_refl, eq_self, implies_true, ne_eq]
  rw [l34 (sI s 0).toInt.toNat 0 0 (by simp only [Int32.reduceToInt]; omega) (by decide) h0.2, Int32.zero_add]; rfl
end A

section B
variable {lw : LW} {H : AH} {p j : Nat} {s : St} {Q : Option Value → AH → Prop} {a b c d : Int32} {h : Nat → Cel} {k n : Nat}
def nxg (g : Int32) : Int32 := g * 1103515245 + 12345
def drw (g : Int32) : Int32 := (Jvm.Free.XT.ushr (nxg g) 8 &&& 16777215) % 1000
theorem t19 : Cl (pj lw) 19 [.ref p] (ob H p s) Q ↔ Q (some (.int (drw (sI s 23)))) (ob H p (uI s 23 (nxg (sI s 23)))) := by
  rw [c19]; simp +decide only [w19_0, w19_1, w19_2, w19_5, w19_7, w19_8, w19_11, w19_12, w19_15, w19_16, w19_19, w19_21, w19_22, w19_24, w19_25, w19_28, w19_29, zr_z0, zr_uI, zr_uJ, isO_put, isOw_put, put_fst, okv_int, okv_long, okv_ref, okv_bool, okv_byte, cat1_unset, cat1_int, cat1_ref, cs_nil, cs_int, cs_ref, cs_long, cmpL_lt, cmpL_gt, cmpL_eq, sI_uI, sI_uJ, sI_uA, sI_uB, sJ_uI, sJ_uJ, sJ_uA, sJ_uB, sA_uI, sA_uJ, sA_uA, sA_uB, sB_uI, sB_uJ, sB_uA, sB_uB, sI_fA, sJ_fA, sA_fA, sB_fA, sI_z0, sJ_z0, sA_z0, sB_z0, Option.toList_some, Option.toList_none, List.cons_append, List.nil_append, true_and, and_true, false_and, and_false, or_false, false_or, or_true, true_or, not_true_eq_false, not_false_eq_true, ↓reduceIte, Nat.reduceAdd, Nat.reduceLeDiff, Nat.reduceEqDiff, Nat.reduceSub, Int32.reduceAdd, Int32.reduceSub, Int32.reduceMul, Int32.reduceToNatClampNeg, Int64.reduceAdd, Int64.reduceSub, Int64.reduceMul, Int64.reduceLT, Int32.reduceLT, Int32.reduceToInt, Nat.add_zero, Nat.zero_add, Nat.le_refl, eq_self, implies_true, ne_eq, g0, s0, g1, s1, g2, s2, g3, s3, g4, g5, g6, g7, g8, g9, g10, g11, g12, g13, g14, g15, g16, g17, g18, s18, g19, s19, g20, s20, g21, s21, g22, s22, g23, s23, ai1, aw1, ae1, as1, ai2, aw2, ae2, as2, ai3, aw3, ae3, as3, ai4, aw4, ain4, awn4, ae4, as4, ai5, aw5, ain5, awn5, ae5, as5, ai6, aw6, ae6, as6, ai7, aw7, ae7, as7, ai8, aw8, ae8, as8, ai9, aw9, ae9, as9, ai10, aw10, ain10, awn10, ae10, as10, ai11, aw11, ae11, as11, ai12, aw12, ae12, as12, ai13, aw13, ae13, as13, ai14, aw14, ae14, as14, drw, nxg]
def can (s : St) (x y : Nat) : Bool := decide (sA s 9 x = 2 ∧ sA s 10 x = 0 ∧ sA s 9 y = 0 ∧ sA s 10 y = 0)
theorem t23 (h1 : 0 ≤ a.toInt ∧ a.toInt < 128) (h2 : 0 ≤ b.toInt ∧ b.toInt < 128) : Cl (pj lw) 23 [.ref p, .int a, .int b] (ob H p s) Q ↔ (if can s a.toNatClampNeg b.toNatClampNeg = true then Q (some (.int 1)) (ob H p s) else Q (some (.int 0)) (ob H p s)) := by
  rw [c23]
  by_cases e1 : sA s 9 a.toNatClampNeg = 2 <;> by_cases e2 : sA s 10 a.toNatClampNeg = 0 <;> by_cases e3 : sA s 9 b.toNatClampNeg = 0 <;> by_cases e4 : sA s 10 b.toNatClampNeg = 0 <;>
  simp +decide only [w23_0, w23_1, w23_4, w23_5, w23_6, w23_7, w23_10, w23_11, w23_14, w23_15, w23_16, w23_19, w23_20, w23_23, w23_24, w23_25, w23_28, w23_29, w23_32, w23_33, w23_34, w23_37, w23_38, w23_41, w23_42, zr_z0, zr_uI, zr_uJ, isO_put, isOw_put, put_fst, okv_int, okv_long, okv_ref, okv_bool, okv_byte, cat1_unset, cat1_int, cat1_ref, cs_nil, cs_int, cs_ref, cs_long, cmpL_lt, cmpL_gt, cmpL_eq, sI_uI, sI_uJ, sI_uA, sI_uB, sJ_uI, sJ_uJ, sJ_uA, sJ_uB, sA_uI, sA_uJ, sA_uA, sA_uB, sB_uI, sB_uJ, sB_uA, sB_uB, sI_fA, sJ_fA, sA_fA, sB_fA, sI_z0, sJ_z0, sA_z0, sB_z0, Option.toList_some, Option.toList_none, List.cons_append, List.nil_append, true_and, and_true, false_and, and_false, or_false, false_or, or_true, true_or, not_true_eq_false, not_false_eq_true, ↓reduceIte, Nat.reduceAdd, Nat.reduceLeDiff, Nat.reduceEqDiff, Nat.reduceSub, Int32.reduceAdd, Int32.reduceSub, Int32.reduceMul, Int32.reduceToNatClampNeg, Int64.reduceAdd, Int64.reduceSub, Int64.reduceMul, Int64.reduceLT, Int32.reduceLT, Int32.reduceToInt, Nat.add_zero, Nat.zero_add, Nat.le_refl, eq_self, implies_true, ne_eq, g0, s0, g1, s1, g2, s2, g3, s3, g4, g5, g6, g7, g8, g9, g10, g11, g12, g13, g14, g15, g16, g17, g18, s18, g19, s19, g20, s20, g21, s21, g22, s22, g23, s23, ai1, aw1, ae1, as1, ai2, aw2, ae2, as2, ai3, aw3, ae3, as3, ai4, aw4, ain4, awn4, ae4, as4, ai5, aw5, ain5, awn5, ae5, as5, ai6, aw6, ae6, as6, ai7, aw7, ae7, as7, ai8, aw8, ae8, as8, ai9, aw9, ae9, as9, ai10, aw10, ain10, awn10, ae10, as10, ai11, aw11, ae11, as11, ai12, aw12, ae12, as12, ai13, aw13, ae13, as13, ai14, aw14, ae14, as14, ain10, h1, h2, e1, e2, e3, e4, can, decide_true, decide_false, and_self]
def tryI (s : St) (a b c : Int32) : St :=
  if drw (sI s 23) < c ∧ sA s 1 b.toNatClampNeg = 0 then
    uA (uA (uA (uA (uA (uI s 23 (nxg (sI s 23))) 1 b.toNatClampNeg 1) 2 b.toNatClampNeg (sI s 1)) 6 b.toNatClampNeg a) 7 b.toNatClampNeg (sI s 22 + 1)) 8 b.toNatClampNeg (sA s 8 a.toNatClampNeg + 1)
  else uI s 23 (nxg (sI s 23))
theorem t25 (h1 : 0 ≤ a.toInt ∧ a.toInt < 128) (h2 : 0 ≤ b.toInt ∧ b.toInt < 128) : Cl (pj lw) 25 [.ref p, .int a, .int b, .int c] (ob H p s) Q ↔ Q none (ob H p (tryI s a b c)) := by
  rw [c25]
  by_cases e1 : drw (sI s 23) < c <;> by_cases e2 : sA s 1 b.toNatClampNeg = 0 <;>
  simp +decide only [w25_0, w25_1, w25_4, w25_6, w25_8, w25_9, w25_12, w25_13, w25_16, w25_17, w25_18, w25_21, w25_22, w25_25, w25_26, w25_27, w25_28, w25_29, w25_32, w25_33, w25_34, w25_37, w25_38, w25_39, w25_42, w25_43, w25_44, w25_45, w25_46, w25_49, w25_50, w25_51, w25_54, w25_55, w25_56, w25_57, w25_58, w25_61, w25_62, w25_63, w25_66, w25_67, w25_68, w25_69, w25_70, w25_71, zr_z0, zr_uI, zr_uJ, isO_put, isOw_put, put_fst, okv_int, okv_long, okv_ref, okv_bool, okv_byte, cat1_unset, cat1_int, cat1_ref, cs_nil, cs_int, cs_ref, cs_long, cmpL_lt, cmpL_gt, cmpL_eq, sI_uI, sI_uJ, sI_uA, sI_uB, sJ_uI, sJ_uJ, sJ_uA, sJ_uB, sA_uI, sA_uJ, sA_uA, sA_uB, sB_uI, sB_uJ, sB_uA, sB_uB, sI_fA, sJ_fA, sA_fA, sB_fA, sI_z0, sJ_z0, sA_z0, sB_z0, Option.toList_some, Option.toList_none, List.cons_append, List.nil_append, true_and, and_true, false_and, and_false, or_false, false_or, or_true, true_or, not_true_eq_false, not_false_eq_true, ↓reduceIte, Nat.reduceAdd, Nat.reduceLeDiff, Nat.reduceEqDiff, Nat.reduceSub, Int32.reduceAdd, Int32.reduceSub, Int32.reduceMul, Int32.reduceToNatClampNeg, Int64.reduceAdd, Int64.reduceSub, Int64.reduceMul, Int64.reduceLT, Int32.reduceLT, Int32.reduceToInt, Nat.add_zero, Nat.zero_add, Nat.le_refl, eq_self, implies_true, ne_eq, g0, s0, g1, s1, g2, s2, g3, s3, g4, g5, g6, g7, g8, g9, g10, g11, g12, g13, g14, g15, g16, g17, g18, s18, g19, s19, g20, s20, g21, s21, g22, s22, g23, s23, ai1, aw1, ae1, as1, ai2, aw2, ae2, as2, ai3, aw3, ae3, as3, ai4, aw4, ain4, awn4, ae4, as4, ai5, aw5, ain5, awn5, ae5, as5, ai6, aw6, ae6, as6, ai7, aw7, ae7, as7, ai8, aw8, ae8, as8, ai9, aw9, ae9, as9, ai10, aw10, ain10, awn10, ae10, as10, ai11, aw11, ae11, as11, ai12, aw12, ae12, as12, ai13, aw13, ae13, as13, ai14, aw14, ae14, as14, t19, h1, h2, e1, e2, tryI, and_self]
def EOk (s : St) : Prop := (2 ≤ (sI s 0).toInt ∧ (sI s 0).toInt ≤ 128) ∧ (0 ≤ (sI s 18).toInt ∧ (sI s 18).toInt ≤ 256) ∧ ∀ k, k < (sI s 18).toInt.toNat → (0 ≤ (sA s 12 k).toInt ∧ (sA s 12 k).toInt < (sI s 0).toInt) ∧ (0 ≤ (sA s 13 k).toInt ∧ (sA s 13 k).toInt < (sI s 0).toInt)
theorem EOk.of {s s' : St} (h : EOk s) (h0 : sI s' 0 = sI s 0) (h18 : sI s' 18 = sI s 18) (h12 : ∀ k, sA s' 12 k = sA s 12 k) (h13 : ∀ k, sA s' 13 k = sA s 13 k) : EOk s' := by
  unfold EOk; rw [h0, h18]; exact ⟨h.1, h.2.1, fun k hk => by rw [h12, h13]; exact h.2.2 k hk⟩
theorem tryI_I {x : Nat} (hx : x ≠ 23) : sI (tryI s a b c) x = sI s x := by
  unfold tryI; split <;> simp only [sI_uA, sI_uI, hx, if_false]
theorem tryI_A {t i : Nat} (ht : t ≠ 1 ∧ t ≠ 2 ∧ t ≠ 6 ∧ t ≠ 7 ∧ t ≠ 8) : sA (tryI s a b c) t i = sA s t i := by
  unfold tryI; split <;> simp only [sA_uA, sA_uI, ht.1, ht.2.1, ht.2.2.1, ht.2.2.2.1, ht.2.2.2.2, false_and, if_false]
def trS (s : St) (e : Nat) : St :=
  if can s (sA s 12 e).toNatClampNeg (sA s 13 e).toNatClampNeg = true then tryI s (sA s 12 e) (sA s 13 e) (sA s 14 e)
  else if can s (sA s 13 e).toNatClampNeg (sA s 12 e).toNatClampNeg = true then tryI s (sA s 13 e) (sA s 12 e) (sA s 14 e) else s
theorem trS_I {x e : Nat} (hx : x ≠ 23) : sI (trS s e) x = sI s x := by
  unfold trS; split
  · exact tryI_I hx
  · split
    · exact tryI_I hx
    · rfl
theorem trS_A {t i e : Nat} (ht : t ≠ 1 ∧ t ≠ 2 ∧ t ≠ 6 ∧ t ≠ 7 ∧ t ≠ 8) : sA (trS s e) t i = sA s t i := by
  unfold trS; split
  · exact tryI_A ht
  · split
    · exact tryI_A ht
    · rfl
def trF : Nat → Nat → St → St
  | 0, _, s => s
  | m + 1, e, s => trF m (e + 1) (trS s e)
theorem l24 (m : Nat) : ∀ (i : Int32) (s : St), EOk s → i.toInt = (sI s 18).toInt - m → 0 ≤ i.toInt → ∀ (l2 l3 : Slot), (l2 = .unset ∧ l3 = .unset ∨ ∃ u v, l2 = .val (.int u) ∧ l3 = .val (.int v)) →
    (W (pj lw) 24 2 [.val (.ref p), .val (.int i), l2, l3] [] k n (ob H p s) Q ↔ Q none (ob H p (trF m i.toNatClampNeg s))) := by
  induction m with
  | zero =>
    intro i s hE hi h0 l2 l3 hl
    have h1 : ¬ i < sI s 18 := by rw [lt32]; omega
    rw [w24_2]; simp +decide only [w24_0, w24_1, w24_3, w24_4, w24_7, w24_10, w24_11, w24_14, w24_15, w24_16i, w24_16, w24_17, w24_18, w24_21, w24_22, w24_23i, w24_23, w24_24, w24_25, w24_26, w24_27, w24_30, w24_33, w24_34, w24_35, w24_36, w24_37, w24_40, w24_41, w24_42, w24_45, w24_48, w24_49, w24_50, w24_51, w24_54, w24_57, w24_58, w24_59, w24_60, w24_61, w24_64, w24_65, w24_66, w24_69, w24_72, w24_75, zr_z0, zr_uI, zr_uJ, isO_put, isOw_put, put_fst, okv_int, okv_long, okv_ref, okv_bool, okv_byte, cat1_unset, cat1_int, cat1_ref, cs_nil, cs_int, cs_ref, cs_long, cmpL_lt, cmpL_gt, cmpL_eq, sI_uI, sI_uJ, sI_uA, sI_uB, sJ_uI, sJ_uJ, sJ_uA, sJ_uB, sA_uI, sA_uJ, sA_uA, sA_uB, sB_uI, sB_uJ, sB_uA, sB_uB, sI_fA, sJ_fA, sA_fA, sB_fA, sI_z0, sJ_z0, sA_z0, sB_z0, Option.toList_some, Option.toList_none, List.cons_append, List.nil_append, true_and, and_true, false_and, and_false, or_false, false_or, or_true, true_or, not_true_eq_false, not_false_eq_true, ↓reduceIte, Nat.reduceAdd, Nat.reduceLeDiff, Nat.reduceEqDiff, Nat.reduceSub, Int32.reduceAdd, Int32.reduceSub, Int32.reduceMul, Int32.reduceToNatClampNeg, Int64.reduceAdd, Int64.reduceSub, Int64.reduceMul, Int64.reduceLT, Int32.reduceLT, Int32.reduceToInt, Nat.add_zero, Nat.zero_add, Nat.le_refl, eq_self, implies_true, ne_eq, g0, s0, g1, s1, g2, s2, g3, s3, g4, g5, g6, g7, g8, g9, g10, g11, g12, g13, g14, g15, g16, g17, g18, s18, g19, s19, g20, s20, g21, s21, g22, s22, g23, s23, ai1, aw1, ae1, as1, ai2, aw2, ae2, as2, ai3, aw3, ae3, as3, ai4, aw4, ain4, awn4, ae4, as4, ai5, aw5, ain5, awn5, ae5, as5, ai6, aw6, ae6, as6, ai7, aw7, ae7, as7, ai8, aw8, ae8, as8, ai9, aw9, ae9, as9, ai10, aw10, ain10, awn10, ae10, as10, ai11, aw11, ae11, as11, ai12, aw12, ae12, as12, ai13, aw13, ae13, as13, ai14, aw14, ae14, as14, h1, trF]
  | succ m ih =>
    intro i s hE hi h0 l2 l3 hl
    have h1 : i < sI s 18 := by rw [lt32]; omega
    have h2 : (i + 1).toInt = i.toInt + 1 := ia (by simp only [Int32.reduceToInt]; have := hE.2.1; omega) (by simp only [Int32.reduceToInt]; have := hE.2.1; omega)
    have h3 : 0 ≤ i.toInt ∧ i.toInt < 256 := by have := hE.2.1; omega
    have h4 : (i + 1).toNatClampNeg = i.toNatClampNeg + 1 := by rw [cln, cln]; omega
    obtain ⟨q1, q2⟩ := hE.2.2 i.toNatClampNeg (by rw [cln]; omega)
    have b1 : 0 ≤ (sA s 12 i.toNatClampNeg).toInt ∧ (sA s 12 i.toNatClampNeg).toInt < 128 := by have := hE.1; omega
    have b2 : 0 ≤ (sA s 13 i.toNatClampNeg).toInt ∧ (sA s 13 i.toNatClampNeg).toInt < 128 := by have := hE.1; omega
    have hE' : EOk (trS s i.toNatClampNeg) := hE.of (trS_I (by decide)) (trS_I (by decide)) (fun k => trS_A (by decide)) (fun k => trS_A (by decide))
    have key := fun u v => ih (i + 1) (trS s i.toNatClampNeg) hE' (by rw [trS_I (by decide)]; omega) (by omega) (.val (.int u)) (.val (.int v)) (Or.inr ⟨u, v, rfl, rfl⟩)
    rw [trF, ← h4, ← key (sA s 12 i.toNatClampNeg) (sA s 13 i.toNatClampNeg), w24_2]
    unfold trS
    rcases hl with ⟨rfl, rfl⟩ | ⟨u, v, rfl, rfl⟩
    all_goals
      by_cases e1 : can s (sA s 12 i.toNatClampNeg).toNatClampNeg (sA s 13 i.toNatClampNeg).toNatClampNeg = true
      · simp +decide only [w24_0, w24_1, w24_3, w24_4, w24_7, w24_10, w24_11, w24_14, w24_15, w24_16i, w24_16, w24_17, w24_18, w24_21, w24_22, w24_23i, w24_23, w24_24, w24_25, w24_26, w24_27, w24_30, w24_33, w24_34, w24_35, w24_36, w24_37, w24_40, w24_41, w24_42, w24_45, w24_48, w24_49, w24_50, w24_51, w24_54, w24_57, w24_58, w24_59, w24_60, w24_61, w24_64, w24_65, w24_66, w24_69, w24_72, w24_75, zr_z0, zr_uI, zr_uJ, isO_put, isOw_put, put_fst, okv_int, okv_long, okv_ref, okv_bool, okv_byte, cat1_unset, cat1_int, cat1_ref, cs_nil, cs_int, cs_ref, cs_long, cmpL_lt, cmpL_gt, cmpL_eq, sI_uI, sI_uJ, sI_uA, sI_uB, sJ_uI, sJ_uJ, sJ_uA, sJ_uB, sA_uI, sA_uJ, sA_uA, sA_uB, sB_uI, sB_uJ, sB_uA, sB_uB, sI_fA, sJ_fA, sA_fA, sB_fA, sI_z0, sJ_z0, sA_z0, sB_z0, Option.toList_some, Option.toList_none, List.cons_append, List.nil_append, true_and, and_true, false_and, and_false, or_false, false_or, or_true, true_or, not_true_eq_false, not_false_eq_true, ↓reduceIte, Nat.reduceAdd, Nat.reduceLeDiff, Nat.reduceEqDiff, Nat.reduceSub, Int32.reduceAdd, Int32.reduceSub, Int32.reduceMul, Int32.reduceToNatClampNeg, Int64.reduceAdd, Int64.reduceSub, Int64.reduceMul, Int64.reduceLT, Int32.reduceLT, Int32.reduceToInt, Nat.add_zero, Nat.zero_add, Nat.le_refl, eq_self, implies_true, ne_eq, g0, s0, g1, s1, g2, s2, g3, s3, g4, g5, g6, g7, g8, g9, g10, g11, g12, g13, g14, g15, g16, g17, g18, s18, g19, s19, g20, s20, g21, s21, g22, s22, g23, s23, ai1, aw1, ae1, as1, ai2, aw2, ae2, as2, ai3, aw3, ae3, as3, ai4, aw4, ain4, awn4, ae4, as4, ai5, aw5, ain5, awn5, ae5, as5, ai6, aw6, ae6, as6, ai7, aw7, ae7, as7, ai8, aw8, ae8, as8, ai9, aw9, ae9, as9, ai10, aw10, ain10, awn10, ae10, as10, ai11, aw11, ae11, as11, ai12, aw12, ae12, as12, ai13, aw13, ae13, as13, ai14, aw14, ae14, as14, h1, h3, t23 b1 b2, t23 b2 b1, t25 b1 b2, t25 b2 b1, e1]
      · by_cases e2 : can s (sA s 13 i.toNatClampNeg).toNatClampNeg (sA s 12 i.toNatClampNeg).toNatClampNeg = true
        · simp +decide only [w24_0, w24_1, w24_3, w24_4, w24_7, w24_10, w24_11, w24_14, w24_15, w24_16i, w24_16, w24_17, w24_18, w24_21, w24_22, w24_23i, w24_23, w24_24, w24_25, w24_26, w24_27, w24_30, w24_33, w24_34, w24_35, w24_36, w24_37, w24_40, w24_41, w24_42, w24_45, w24_48, w24_49, w24_50, w24_51, w24_54, w24_57, w24_58, w24_59, w24_60, w24_61, w24_64, w24_65, w24_66, w24_69, w24_72, w24_75, zr_z0, zr_uI, zr_uJ, isO_put, isOw_put, put_fst, okv_int, okv_long, okv_ref, okv_bool, okv_byte, cat1_unset, cat1_int, cat1_ref, cs_nil, cs_int, cs_ref, cs_long, cmpL_lt, cmpL_gt, cmpL_eq, sI_uI, sI_uJ, sI_uA, sI_uB, sJ_uI, sJ_uJ, sJ_uA, sJ_uB, sA_uI, sA_uJ, sA_uA, sA_uB, sB_uI, sB_uJ, sB_uA, sB_uB, sI_fA, sJ_fA, sA_fA, sB_fA, sI_z0, sJ_z0, sA_z0, sB_z0, Option.toList_some, Option.toList_none, List.cons_append, List.nil_append, true_and, and_true, false_and, and_false, or_false, false_or, or_true, true_or, not_true_eq_false, not_false_eq_true, ↓reduceIte, Nat.reduceAdd, Nat.reduceLeDiff, Nat.reduceEqDiff, Nat.reduceSub, Int32.reduceAdd, Int32.reduceSub, Int32.reduceMul, Int32.reduceToNatClampNeg, Int64.reduceAdd, Int64.reduceSub, Int64.reduceMul, Int64.reduceLT, Int32.reduceLT, Int32.reduceToInt, Nat.add_zero, Nat.zero_add, Nat.le_refl, eq_self, implies_true, ne_eq, g0, s0, g1, s1, g2, s2, g3, s3, g4, g5, g6, g7, g8, g9, g10, g11, g12, g13, g14, g15, g16, g17, g18, s18, g19, s19, g20, s20, g21, s21, g22, s22, g23, s23, ai1, aw1, ae1, as1, ai2, aw2, ae2, as2, ai3, aw3, ae3, as3, ai4, aw4, ain4, awn4, ae4, as4, ai5, aw5, ain5, awn5, ae5, as5, ai6, aw6, ae6, as6, ai7, aw7, ae7, as7, ai8, aw8, ae8, as8, ai9, aw9, ae9, as9, ai10, aw10, ain10, awn10, ae10, as10, ai11, aw11, ae11, as11, ai12, aw12, ae12, as12, ai13, aw13, ae13, as13, ai14, aw14, ae14, as14, h1, h3, t23 b1 b2, t23 b2 b1, t25 b1 b2, t25 b2 b1, e1, e2]
        · simp +decide only [w24_0, w24_1, w24_3, w24_4, w24_7, w24_10, w24_11, w24_14, w24_15, w24_16i, w24_16, w24_17, w24_18, w24_21, w24_22, w24_23i, w24_23, w24_24, w24_25, w24_26, w24_27, w24_30, w24_33, w24_34, w24_35, w24_36, w24_37, w24_40, w24_41, w24_42, w24_45, w24_48, w24_49, w24_50, w24_51, w24_54, w24_57, w24_58, w24_59, w24_60, w24_61, w24_64, w24_65, w24_66, w24_69, w24_72, w24_75, zr_z0, zr_uI, zr_uJ, isO_put, isOw_put, put_fst, okv_int, okv_long, okv_ref, okv_bool, okv_byte, cat1_unset, cat1_int, cat1_ref, cs_nil, cs_int, cs_ref, cs_long, cmpL_lt, cmpL_gt, cmpL_eq, sI_uI, sI_uJ, sI_uA, sI_uB, sJ_uI, sJ_uJ, sJ_uA, sJ_uB, sA_uI, sA_uJ, sA_uA, sA_uB, sB_uI, sB_uJ, sB_uA, sB_uB, sI_fA, sJ_fA, sA_fA, sB_fA, sI_z0, sJ_z0, sA_z0, sB_z0, Option.toList_some, Option.toList_none, List.cons_append, List.nil_append, true_and, and_true, false_and, and_false, or_false, false_or, or_true, true_or, not_true_eq_false, not_false_eq_true, ↓reduceIte, Nat.reduceAdd, Nat.reduceLeDiff, Nat.reduceEqDiff, Nat.reduceSub, Int32.reduceAdd, Int32.reduceSub, Int32.reduceMul, Int32.reduceToNatClampNeg, Int64.reduceAdd, Int64.reduceSub, Int64.reduceMul, Int64.reduceLT, Int32.reduceLT, Int32.reduceToInt, Nat.add_zero, Nat.zero_add, Nat.le_refl, eq_self, implies_true, ne_eq, g0, s0, g1, s1, g2, s2, g3, s3, g4, g5, g6, g7, g8, g9, g10, g11, g12, g13, g14, g15, g16, g17, g18, s18, g19, s19, g20, s20, g21, s21, g22, s22, g23, s23, ai1, aw1, ae1, as1, ai2, aw2, ae2, as2, ai3, aw3, ae3, as3, ai4, aw4, ain4, awn4, ae4, as4, ai5, aw5, ain5, awn5, ae5, as5, ai6, aw6, ae6, as6, ai7, aw7, ae7, as7, ai8, aw8, ae8, as8, ai9, aw9, ae9, as9, ai10, aw10, ain10, awn10, ae10, as10, ai11, aw11, ae11, as11, ai12, aw12, ae12, as12, ai13, aw13, ae13, as13, ai14, aw14, ae14, as14, h1, h3, t23 b1 b2, t23 b2 b1, t25 b1 b2, t25 b2 b1, e1, e2]
theorem t24 (hE : EOk s) : Cl (pj lw) 24 [.ref p] (ob H p s) Q ↔ Q none (ob H p (trF (sI s 18).toInt.toNat 0 s)) := by
  rw [c24]; simp +decide only [w24_0, w24_1, w24_3, w24_4, w24_7, w24_10, w24_11, w24_14, w24_15, w24_16i, w24_16, w24_17, w24_18, w24_21, w24_22, w24_23i, w24_23, w24_24, w24_25, w24_26, w24_27, w24_30, w24_33, w24_34, w24_35, w24_36, w24_37, w24_40, w24_41, w24_42, w24_45, w24_48, w24_49, w24_50, w24_51, w24_54, w24_57, w24_58, w24_59, w24_60, w24_61, w24_64, w24_65, w24_66, w24_69, w24_72, w24_75, zr_z0, zr_uI, zr_uJ, isO_put, isOw_put, put_fst, okv_int, okv_long, okv_ref, okv_bool, okv_byte, cat1_unset, cat1_int, cat1_ref, cs_nil, cs_int, cs_ref, cs_long, cmpL_lt, cmpL_gt, cmpL_eq, sI_uI, sI_uJ, sI_uA, sI_uB, sJ_uI, sJ_uJ, sJ_uA, sJ_uB, sA_uI, sA_uJ, sA_uA, sA_uB, sB_uI, sB_uJ, sB_uA, sB_uB, sI_fA, sJ_fA, sA_fA, sB_fA, sI_z0, sJ_z0, sA_z0, sB_z0, Option.toList_some, Option.toList_none, List.cons_append, List.nil_append, true_and, and_true, false_and, and_false, or_false, false_or, or_true, true_or, not_true_eq_false, not_false_eq_true, ↓reduceIte, Nat.reduceAdd, Nat.reduceLeDiff, Nat.reduceEqDiff, Nat.reduceSub, Int32.reduceAdd, Int32.reduceSub, Int32.reduceMul, Int32.reduceToNatClampNeg, Int64.reduceAdd, Int64.reduceSub, Int64.reduceMul, Int64.reduceLT, Int32.reduceLT, Int32.reduceToInt, Nat.add_zero, Nat.zero_add, Nat.le_refl, eq_self, implies_true, ne_eq]
  rw [l24 (sI s 18).toInt.toNat 0 s hE (by simp only [Int32.reduceToInt]; have := hE.2.1; omega) (by decide) .unset .unset (Or.inl ⟨rfl, rfl⟩)]
  simp only [Int32.reduceToNatClampNeg]
def itF (f : St → Nat → St) : Nat → Nat → St → St
  | 0, _, s => s
  | m + 1, e, s => itF f m (e + 1) (f s e)
theorem itF_inv {f : St → Nat → St} {I : St → Prop} (hf : ∀ s e, I s → I (f s e)) : ∀ (m e : Nat) (s : St), I s → I (itF f m e s)
  | 0, _, _, h => h
  | m + 1, e, s, h => itF_inv hf m (e + 1) (f s e) (hf s e h)
def snS (s : St) (e : Nat) : St := uA (uA s 9 e (sA s 1 e)) 10 e (if 0 < sA s 3 e then 1 else 0)
def pgS (s : St) (e : Nat) : St :=
  if sA s 9 e = 1 then (if sA s 2 e - 1 = 0 then uA (uA (uA s 2 e (sA s 2 e - 1)) 1 e 2) 2 e (sI s 2) else uA s 2 e (sA s 2 e - 1))
  else if sA s 9 e = 2 then (if sA s 2 e - 1 = 0 then uA (uA s 2 e (sA s 2 e - 1)) 1 e 3 else uA s 2 e (sA s 2 e - 1)) else s
def qtS (s : St) (e : Nat) : St := if 0 < sA s 3 e then uA s 3 e (sA s 3 e - 1) else s
theorem snS_I {x e : Nat} : sI (snS s e) x = sI s x := by
  unfold snS; (repeat' split) <;> simp only [sI_uA]
theorem l22 (q : Nat) : ∀ (i : Int32) (s : St), (sI s 0).toInt ≤ 128 → i.toInt = (sI s 0).toInt - q → 0 ≤ i.toInt →
    (W (pj lw) 22 2 [.val (.ref p), .val (.int i)] [] k n (ob H p s) Q ↔ Q none (ob H p (itF snS q i.toNatClampNeg s))) := by
  induction q with
  | zero =>
    intro i s hE hi h0
    have h1 : ¬ i < sI s 0 := by rw [lt32]; omega
    rw [w22_2]; simp +decide only [w22_0, w22_1, w22_3, w22_4, w22_7, w22_10, w22_11, w22_14, w22_15, w22_16, w22_19, w22_20, w22_21, w22_22, w22_23, w22_26, w22_27, w22_28, w22_31, w22_32, w22_33, w22_36, w22_37, w22_40, w22_41, w22_42, w22_45, w22_48, zr_z0, zr_uI, zr_uJ, isO_put, isOw_put, put_fst, okv_int, okv_long, okv_ref, okv_bool, okv_byte, cat1_unset, cat1_int, cat1_ref, cs_nil, cs_int, cs_ref, cs_long, cmpL_lt, cmpL_gt, cmpL_eq, sI_uI, sI_uJ, sI_uA, sI_uB, sJ_uI, sJ_uJ, sJ_uA, sJ_uB, sA_uI, sA_uJ, sA_uA, sA_uB, sB_uI, sB_uJ, sB_uA, sB_uB, sI_fA, sJ_fA, sA_fA, sB_fA, sI_z0, sJ_z0, sA_z0, sB_z0, Option.toList_some, Option.toList_none, List.cons_append, List.nil_append, true_and, and_true, false_and, and_false, or_false, false_or, or_true, true_or, not_true_eq_false, not_false_eq_true, ↓reduceIte, Nat.reduceAdd, Nat.reduceLeDiff, Nat.reduceEqDiff, Nat.reduceSub, Int32.reduceAdd, Int32.reduceSub, Int32.reduceMul, Int32.reduceToNatClampNeg, Int64.reduceAdd, Int64.reduceSub, Int64.reduceMul, Int64.reduceLT, Int32.reduceLT, Int32.reduceToInt, Nat.add_zero, Nat.zero_add, Nat.le_refl, eq_self, implies_true, ne_eq, g0, s0, g1, s1, g2, s2, g3, s3, g4, g5, g6, g7, g8, g9, g10, g11, g12, g13, g14, g15, g16, g17, g18, s18, g19, s19, g20, s20, g21, s21, g22, s22, g23, s23, ai1, aw1, ae1, as1, ai2, aw2, ae2, as2, ai3, aw3, ae3, as3, ai4, aw4, ain4, awn4, ae4, as4, ai5, aw5, ain5, awn5, ae5, as5, ai6, aw6, ae6, as6, ai7, aw7, ae7, as7, ai8, aw8, ae8, as8, ai9, aw9, ae9, as9, ai10, aw10, ain10, awn10, ae10, as10, ai11, aw11, ae11, as11, ai12, aw12, ae12, as12, ai13, aw13, ae13, as13, ai14, aw14, ae14, as14, h1, itF]
  | succ q ih =>
    intro i s hE hi h0
    have h1 : i < sI s 0 := by rw [lt32]; omega
    have h2 : (i + 1).toInt = i.toInt + 1 := ia (by simp only [Int32.reduceToInt]; omega) (by simp only [Int32.reduceToInt]; omega)
    have h3 : 0 ≤ i.toInt ∧ i.toInt < 128 := by omega
    have h4 : (i + 1).toNatClampNeg = i.toNatClampNeg + 1 := by rw [cln, cln]; omega
    rw [itF, ← h4, ← ih (i + 1) (snS s i.toNatClampNeg) (by rw [snS_I]; omega) (by rw [snS_I]; omega) (by omega), w22_2]
    unfold snS
    by_cases e1 : 0 < sA s 3 i.toNatClampNeg <;>
      simp +decide only [w22_0, w22_1, w22_3, w22_4, w22_7, w22_10, w22_11, w22_14, w22_15, w22_16, w22_19, w22_20, w22_21, w22_22, w22_23, w22_26, w22_27, w22_28, w22_31, w22_32, w22_33, w22_36, w22_37, w22_40, w22_41, w22_42, w22_45, w22_48, zr_z0, zr_uI, zr_uJ, isO_put, isOw_put, put_fst, okv_int, okv_long, okv_ref, okv_bool, okv_byte, cat1_unset, cat1_int, cat1_ref, cs_nil, cs_int, cs_ref, cs_long, cmpL_lt, cmpL_gt, cmpL_eq, sI_uI, sI_uJ, sI_uA, sI_uB, sJ_uI, sJ_uJ, sJ_uA, sJ_uB, sA_uI, sA_uJ, sA_uA, sA_uB, sB_uI, sB_uJ, sB_uA, sB_uB, sI_fA, sJ_fA, sA_fA, sB_fA, sI_z0, sJ_z0, sA_z0, sB_z0, Option.toList_some, Option.toList_none, List.cons_append, List.nil_append, true_and, and_true, false_and, and_false, or_false, false_or, or_true, true_or, not_true_eq_false, not_false_eq_true, ↓reduceIte, Nat.reduceAdd, Nat.reduceLeDiff, Nat.reduceEqDiff, Nat.reduceSub, Int32.reduceAdd, Int32.reduceSub, Int32.reduceMul, Int32.reduceToNatClampNeg, Int64.reduceAdd, Int64.reduceSub, Int64.reduceMul, Int64.reduceLT, Int32.reduceLT, Int32.reduceToInt, Nat.add_zero, Nat.zero_add, Nat.le_refl, eq_self, implies_true, ne_eq, g0, s0, g1, s1, g2, s2, g3, s3, g4, g5, g6, g7, g8, g9, g10, g11, g12, g13, g14, g15, g16, g17, g18, s18, g19, s19, g20, s20, g21, s21, g22, s22, g23, s23, ai1, aw1, ae1, as1, ai2, aw2, ae2, as2, ai3, aw3, ae3, as3, ai4, aw4, ain4, awn4, ae4, as4, ai5, aw5, ain5, awn5, ae5, as5, ai6, aw6, ae6, as6, ai7, aw7, ae7, as7, ai8, aw8, ae8, as8, ai9, aw9, ae9, as9, ai10, aw10, ain10, awn10, ae10, as10, ai11, aw11, ae11, as11, ai12, aw12, ae12, as12, ai13, aw13, ae13, as13, ai14, aw14, ae14, as14, awn10, e1, h1, h3]
theorem t22 (hE : 0 ≤ (sI s 0).toInt ∧ (sI s 0).toInt ≤ 128) : Cl (pj lw) 22 [.ref p] (ob H p s) Q ↔ Q none (ob H p (itF snS (sI s 0).toInt.toNat 0 s)) := by
  rw [c22]; simp +decide only [w22_0, w22_1, w22_3, w22_4, w22_7, w22_10, w22_11, w22_14, w22_15, w22_16, w22_19, w22_20, w22_21, w22_22, w22_23, w22_26, w22_27, w22_28, w22_31, w22_32, w22_33, w22_36, w22_37, w22_40, w22_41, w22_42, w22_45, w22_48, zr_z0, zr_uI, zr_uJ, isO_put, isOw_put, put_fst, okv_int, okv_long, okv_ref, okv_bool, okv_byte, cat1_unset, cat1_int, cat1_ref, cs_nil, cs_int, cs_ref, cs_long, cmpL_lt, cmpL_gt, cmpL_eq, sI_uI, sI_uJ, sI_uA, sI_uB, sJ_uI, sJ_uJ, sJ_uA, sJ_uB, sA_uI, sA_uJ, sA_uA, sA_uB, sB_uI, sB_uJ, sB_uA, sB_uB, sI_fA, sJ_fA, sA_fA, sB_fA, sI_z0, sJ_z0, sA_z0, sB_z0, Option.toList_some, Option.toList_none, List.cons_append, List.nil_append, true_and, and_true, false_and, and_false, or_false, false_or, or_true, true_or, not_true_eq_false, not_false_eq_true, ↓reduceIte, Nat.reduceAdd, Nat.reduceLeDiff, Nat.reduceEqDiff, Nat.reduceSub, Int32.reduceAdd, Int32.reduceSub, Int32.reduceMul, Int32.reduceToNatClampNeg, Int64.reduceAdd, Int64.reduceSub, Int64.reduceMul, Int64.reduceLT, Int32.reduceLT, Int32.reduceToInt, Nat.add_zero, Nat.zero_add, Nat.le_refl, eq_self, implies_true, ne_eq]
  rw [l22 (sI s 0).toInt.toNat 0 s hE.2 (by simp only [Int32.reduceToInt]; omega) (by decide)]
  simp only [Int32.reduceToNatClampNeg]
theorem qtS_I {x e : Nat} : sI (qtS s e) x = sI s x := by
  unfold qtS; (repeat' split) <;> simp only [sI_uA]
theorem l27 (q : Nat) : ∀ (i : Int32) (s : St), (sI s 0).toInt ≤ 128 → i.toInt = (sI s 0).toInt - q → 0 ≤ i.toInt →
    (W (pj lw) 27 2 [.val (.ref p), .val (.int i)] [] k n (ob H p s) Q ↔ Q none (ob H p (itF qtS q i.toNatClampNeg s))) := by
  induction q with
  | zero =>
    intro i s hE hi h0
    have h1 : ¬ i < sI s 0 := by rw [lt32]; omega
    rw [w27_2]; simp +decide only [w27_0, w27_1, w27_3, w27_4, w27_7, w27_10, w27_11, w27_14, w27_15, w27_16, w27_19, w27_20, w27_23, w27_24, w27_25, w27_28, w27_29, w27_30, w27_31, w27_32, w27_33, w27_36, w27_39, zr_z0, zr_uI, zr_uJ, isO_put, isOw_put, put_fst, okv_int, okv_long, okv_ref, okv_bool, okv_byte, cat1_unset, cat1_int, cat1_ref, cs_nil, cs_int, cs_ref, cs_long, cmpL_lt, cmpL_gt, cmpL_eq, sI_uI, sI_uJ, sI_uA, sI_uB, sJ_uI, sJ_uJ, sJ_uA, sJ_uB, sA_uI, sA_uJ, sA_uA, sA_uB, sB_uI, sB_uJ, sB_uA, sB_uB, sI_fA, sJ_fA, sA_fA, sB_fA, sI_z0, sJ_z0, sA_z0, sB_z0, Option.toList_some, Option.toList_none, List.cons_append, List.nil_append, true_and, and_true, false_and, and_false, or_false, false_or, or_true, true_or, not_true_eq_false, not_false_eq_true, ↓reduceIte, Nat.reduceAdd, Nat.reduceLeDiff, Nat.reduceEqDiff, Nat.reduceSub, Int32.reduceAdd, Int32.reduceSub, Int32.reduceMul, Int32.reduceToNatClampNeg, Int64.reduceAdd, Int64.reduceSub, Int64.reduceMul, Int64.reduceLT, Int32.reduceLT, Int32.reduceToInt, Nat.add_zero, Nat.zero_add, Nat.le_refl, eq_self, implies_true, ne_eq, g0, s0, g1, s1, g2, s2, g3, s3, g4, g5, g6, g7, g8, g9, g10, g11, g12, g13, g14, g15, g16, g17, g18, s18, g19, s19, g20, s20, g21, s21, g22, s22, g23, s23, ai1, aw1, ae1, as1, ai2, aw2, ae2, as2, ai3, aw3, ae3, as3, ai4, aw4, ain4, awn4, ae4, as4, ai5, aw5, ain5, awn5, ae5, as5, ai6, aw6, ae6, as6, ai7, aw7, ae7, as7, ai8, aw8, ae8, as8, ai9, aw9, ae9, as9, ai10, aw10, ain10, awn10, ae10, as10, ai11, aw11, ae11, as11, ai12, aw12, ae12, as12, ai13, aw13, ae13, as13, ai14, aw14, ae14, as14, h1, itF]
  | succ q ih =>
    intro i s hE hi h0
    have h1 : i < sI s 0 := by rw [lt32]; omega
    have h2 : (i + 1).toInt = i.toInt + 1 := ia (by simp only [Int32.reduceToInt]; omega) (by simp only [Int32.reduceToInt]; omega)
    have h3 : 0 ≤ i.toInt ∧ i.toInt < 128 := by omega
    have h4 : (i + 1).toNatClampNeg = i.toNatClampNeg + 1 := by rw [cln, cln]; omega
    rw [itF, ← h4, ← ih (i + 1) (qtS s i.toNatClampNeg) (by rw [qtS_I]; omega) (by rw [qtS_I]; omega) (by omega), w27_2]
    unfold qtS
    by_cases e1 : 0 < sA s 3 i.toNatClampNeg <;>
      simp +decide only [w27_0, w27_1, w27_3, w27_4, w27_7, w27_10, w27_11, w27_14, w27_15, w27_16, w27_19, w27_20, w27_23, w27_24, w27_25, w27_28, w27_29, w27_30, w27_31, w27_32, w27_33, w27_36, w27_39, zr_z0, zr_uI, zr_uJ, isO_put, isOw_put, put_fst, okv_int, okv_long, okv_ref, okv_bool, okv_byte, cat1_unset, cat1_int, cat1_ref, cs_nil, cs_int, cs_ref, cs_long, cmpL_lt, cmpL_gt, cmpL_eq, sI_uI, sI_uJ, sI_uA, sI_uB, sJ_uI, sJ_uJ, sJ_uA, sJ_uB, sA_uI, sA_uJ, sA_uA, sA_uB, sB_uI, sB_uJ, sB_uA, sB_uB, sI_fA, sJ_fA, sA_fA, sB_fA, sI_z0, sJ_z0, sA_z0, sB_z0, Option.toList_some, Option.toList_none, List.cons_append, List.nil_append, true_and, and_true, false_and, and_false, or_false, false_or, or_true, true_or, not_true_eq_false, not_false_eq_true, ↓reduceIte, Nat.reduceAdd, Nat.reduceLeDiff, Nat.reduceEqDiff, Nat.reduceSub, Int32.reduceAdd, Int32.reduceSub, Int32.reduceMul, Int32.reduceToNatClampNeg, Int64.reduceAdd, Int64.reduceSub, Int64.reduceMul, Int64.reduceLT, Int32.reduceLT, Int32.reduceToInt, Nat.add_zero, Nat.zero_add, Nat.le_refl, eq_self, implies_true, ne_eq, g0, s0, g1, s1, g2, s2, g3, s3, g4, g5, g6, g7, g8, g9, g10, g11, g12, g13, g14, g15, g16, g17, g18, s18, g19, s19, g20, s20, g21, s21, g22, s22, g23, s23, ai1, aw1, ae1, as1, ai2, aw2, ae2, as2, ai3, aw3, ae3, as3, ai4, aw4, ain4, awn4, ae4, as4, ai5, aw5, ain5, awn5, ae5, as5, ai6, aw6, ae6, as6, ai7, aw7, ae7, as7, ai8, aw8, ae8, as8, ai9, aw9, ae9, as9, ai10, aw10, ain10, awn10, ae10, as10, ai11, aw11, ae11, as11, ai12, aw12, ae12, as12, ai13, aw13, ae13, as13, ai14, aw14, ae14, as14, e1, h1, h3]
theorem t27 (hE : 0 ≤ (sI s 0).toInt ∧ (sI s 0).toInt ≤ 128) : Cl (pj lw) 27 [.ref p] (ob H p s) Q ↔ Q none (ob H p (itF qtS (sI s 0).toInt.toNat 0 s)) := by
  rw [c27]; simp +decide only [w27_0, w27_1, w27_3, w27_4, w27_7, w27_10, w27_11, w27_14, w27_15, w27_16, w27_19, w27_20, w27_23, w27_24, w27_25, w27_28, w27_29, w27_30, w27_31, w27_32, w27_33, w27_36, w27_39, zr_z0, zr_uI, zr_uJ, isO_put, isOw_put, put_fst, okv_int, okv_long, okv_ref, okv_bool, okv_byte, cat1_unset, cat1_int, cat1_ref, cs_nil, cs_int, cs_ref, cs_long, cmpL_lt, cmpL_gt, cmpL_eq, sI_uI, sI_uJ, sI_uA, sI_uB, sJ_uI, sJ_uJ, sJ_uA, sJ_uB, sA_uI, sA_uJ, sA_uA, sA_uB, sB_uI, sB_uJ, sB_uA, sB_uB, sI_fA, sJ_fA, sA_fA, sB_fA, sI_z0, sJ_z0, sA_z0, sB_z0, Option.toList_some, Option.toList_none, List.cons_append, List.nil_append, true_and, and_true, false_and, and_false, or_false, false_or, or_true, true_or, not_true_eq_false, not_false_eq_true, ↓reduceIte, Nat.reduceAdd, Nat.reduceLeDiff, Nat.reduceEqDiff, Nat.reduceSub, Int32.reduceAdd, Int32.reduceSub, Int32.reduceMul, Int32.reduceToNatClampNeg, Int64.reduceAdd, Int64.reduceSub, Int64.reduceMul, Int64.reduceLT, Int32.reduceLT, Int32.reduceToInt, Nat.add_zero, Nat.zero_add, Nat.le_refl, eq_self, implies_true, ne_eq]
  rw [l27 (sI s 0).toInt.toNat 0 s hE.2 (by simp only [Int32.reduceToInt]; omega) (by decide)]
  simp only [Int32.reduceToNatClampNeg]
theorem pgS_I {x e : Nat} : sI (pgS s e) x = sI s x := by
  unfold pgS; (repeat' split) <;> simp only [sI_uA]
theorem l26 (q : Nat) : ∀ (i : Int32) (s : St), (sI s 0).toInt ≤ 128 → i.toInt = (sI s 0).toInt - q → 0 ≤ i.toInt →
    (W (pj lw) 26 2 [.val (.ref p), .val (.int i)] [] k n (ob H p s) Q ↔ Q none (ob H p (itF pgS q i.toNatClampNeg s))) := by
  induction q with
  | zero =>
    intro i s hE hi h0
    have h1 : ¬ i < sI s 0 := by rw [lt32]; omega
    rw [w26_2]; simp +decide only [w26_0, w26_1, w26_3, w26_4, w26_7, w26_10, w26_11, w26_14, w26_15, w26_16, w26_17, w26_20, w26_21, w26_24, w26_25, w26_26, w26_29, w26_30, w26_31, w26_32, w26_33, w26_34, w26_35, w26_38, w26_39, w26_40, w26_43, w26_44, w26_47, w26_48, w26_49, w26_50, w26_51, w26_54, w26_55, w26_56, w26_59, w26_60, w26_63, w26_64, w26_67, w26_68, w26_69, w26_70, w26_73, w26_74, w26_77, w26_78, w26_79, w26_82, w26_83, w26_84, w26_85, w26_86, w26_87, w26_88, w26_91, w26_92, w26_93, w26_96, w26_97, w26_100, w26_101, w26_102, w26_103, w26_106, w26_109, zr_z0, zr_uI, zr_uJ, isO_put, isOw_put, put_fst, okv_int, okv_long, okv_ref, okv_bool, okv_byte, cat1_unset, cat1_int, cat1_ref, cs_nil, cs_int, cs_ref, cs_long, cmpL_lt, cmpL_gt, cmpL_eq, sI_uI, sI_uJ, sI_uA, sI_uB, sJ_uI, sJ_uJ, sJ_uA, sJ_uB, sA_uI, sA_uJ, sA_uA, sA_uB, sB_uI, sB_uJ, sB_uA, sB_uB, sI_fA, sJ_fA, sA_fA, sB_fA, sI_z0, sJ_z0, sA_z0, sB_z0, Option.toList_some, Option.toList_none, List.cons_append, List.nil_append, true_and, and_true, false_and, and_false, or_false, false_or, or_true, true_or, not_true_eq_false, not_false_eq_true, ↓reduceIte, Nat.reduceAdd, Nat.reduceLeDiff, Nat.reduceEqDiff, Nat.reduceSub, Int32.reduceAdd, Int32.reduceSub, Int32.reduceMul, Int32.reduceToNatClampNeg, Int64.reduceAdd, Int64.reduceSub, Int64.reduceMul, Int64.reduceLT, Int32.reduceLT, Int32.reduceToInt, Nat.add_zero, Nat.zero_add, Nat.le_refl, eq_self, implies_true, ne_eq, g0, s0, g1, s1, g2, s2, g3, s3, g4, g5, g6, g7, g8, g9, g10, g11, g12, g13, g14, g15, g16, g17, g18, s18, g19, s19, g20, s20, g21, s21, g22, s22, g23, s23, ai1, aw1, ae1, as1, ai2, aw2, ae2, as2, ai3, aw3, ae3, as3, ai4, aw4, ain4, awn4, ae4, as4, ai5, aw5, ain5, awn5, ae5, as5, ai6, aw6, ae6, as6, ai7, aw7, ae7, as7, ai8, aw8, ae8, as8, ai9, aw9, ae9, as9, ai10, aw10, ain10, awn10, ae10, as10, ai11, aw11, ae11, as11, ai12, aw12, ae12, as12, ai13, aw13, ae13, as13, ai14, aw14, ae14, as14, h1, itF]
  | succ q ih =>
    intro i s hE hi h0
    have h1 : i < sI s 0 := by rw [lt32]; omega
    have h2 : (i + 1).toInt = i.toInt + 1 := ia (by simp only [Int32.reduceToInt]; omega) (by simp only [Int32.reduceToInt]; omega)
    have h3 : 0 ≤ i.toInt ∧ i.toInt < 128 := by omega
    have h4 : (i + 1).toNatClampNeg = i.toNatClampNeg + 1 := by rw [cln, cln]; omega
    rw [itF, ← h4, ← ih (i + 1) (pgS s i.toNatClampNeg) (by rw [pgS_I]; omega) (by rw [pgS_I]; omega) (by omega), w26_2]
    unfold pgS
    by_cases e1 : sA s 9 i.toNatClampNeg = 1 <;> by_cases e2 : sA s 9 i.toNatClampNeg = 2 <;> by_cases e3 : sA s 2 i.toNatClampNeg - 1 = 0 <;>
      simp +decide only [w26_0, w26_1, w26_3, w26_4, w26_7, w26_10, w26_11, w26_14, w26_15, w26_16, w26_17, w26_20, w26_21, w26_24, w26_25, w26_26, w26_29, w26_30, w26_31, w26_32, w26_33, w26_34, w26_35, w26_38, w26_39, w26_40, w26_43, w26_44, w26_47, w26_48, w26_49, w26_50, w26_51, w26_54, w26_55, w26_56, w26_59, w26_60, w26_63, w26_64, w26_67, w26_68, w26_69, w26_70, w26_73, w26_74, w26_77, w26_78, w26_79, w26_82, w26_83, w26_84, w26_85, w26_86, w26_87, w26_88, w26_91, w26_92, w26_93, w26_96, w26_97, w26_100, w26_101, w26_102, w26_103, w26_106, w26_109, zr_z0, zr_uI, zr_uJ, isO_put, isOw_put, put_fst, okv_int, okv_long, okv_ref, okv_bool, okv_byte, cat1_unset, cat1_int, cat1_ref, cs_nil, cs_int, cs_ref, cs_long, cmpL_lt, cmpL_gt, cmpL_eq, sI_uI, sI_uJ, sI_uA, sI_uB, sJ_uI, sJ_uJ, sJ_uA, sJ_uB, sA_uI, sA_uJ, sA_uA, sA_uB, sB_uI, sB_uJ, sB_uA, sB_uB, sI_fA, sJ_fA, sA_fA, sB_fA, sI_z0, sJ_z0, sA_z0, sB_z0, Option.toList_some, Option.toList_none, List.cons_append, List.nil_append, true_and, and_true, false_and, and_false, or_false, false_or, or_true, true_or, not_true_eq_false, not_false_eq_true, ↓reduceIte, Nat.reduceAdd, Nat.reduceLeDiff, Nat.reduceEqDiff, Nat.reduceSub, Int32.reduceAdd, Int32.reduceSub, Int32.reduceMul, Int32.reduceToNatClampNeg, Int64.reduceAdd, Int64.reduceSub, Int64.reduceMul, Int64.reduceLT, Int32.reduceLT, Int32.reduceToInt, Nat.add_zero, Nat.zero_add, Nat.le_refl, eq_self, implies_true, ne_eq, g0, s0, g1, s1, g2, s2, g3, s3, g4, g5, g6, g7, g8, g9, g10, g11, g12, g13, g14, g15, g16, g17, g18, s18, g19, s19, g20, s20, g21, s21, g22, s22, g23, s23, ai1, aw1, ae1, as1, ai2, aw2, ae2, as2, ai3, aw3, ae3, as3, ai4, aw4, ain4, awn4, ae4, as4, ai5, aw5, ain5, awn5, ae5, as5, ai6, aw6, ae6, as6, ai7, aw7, ae7, as7, ai8, aw8, ae8, as8, ai9, aw9, ae9, as9, ai10, aw10, ain10, awn10, ae10, as10, ai11, aw11, ae11, as11, ai12, aw12, ae12, as12, ai13, aw13, ae13, as13, ai14, aw14, ae14, as14, e1, e2, e3, h1, h3]
theorem t26 (hE : 0 ≤ (sI s 0).toInt ∧ (sI s 0).toInt ≤ 128) : Cl (pj lw) 26 [.ref p] (ob H p s) Q ↔ Q none (ob H p (itF pgS (sI s 0).toInt.toNat 0 s)) := by
  rw [c26]; simp +decide only [w26_0, w26_1, w26_3, w26_4, w26_7, w26_10, w26_11, w26_14, w26_15, w26_16, w26_17, w26_20, w26_21, w26_24, w26_25, w26_26, w26_29, w26_30, w26_31, w26_32, w26_33, w26_34, w26_35, w26_38, w26_39, w26_40, w26_43, w26_44, w26_47, w26_48, w26_49, w26_50, w26_51, w26_54, w26_55, w26_56, w26_59, w26_60, w26_63, w26_64, w26_67, w26_68, w26_69, w26_70, w26_73, w26_74, w26_77, w26_78, w26_79, w26_82, w26_83, w26_84, w26_85, w26_86, w26_87, w26_88, w26_91, w26_92, w26_93, w26_96, w26_97, w26_100, w26_101, w26_102, w26_103, w26_106, w26_109, zr_z0, zr_uI, zr_uJ, isO_put, isOw_put, put_fst, okv_int, okv_long, okv_ref, okv_bool, okv_byte, cat1_unset, cat1_int, cat1_ref, cs_nil, cs_int, cs_ref, cs_long, cmpL_lt, cmpL_gt, cmpL_eq, sI_uI, sI_uJ, sI_uA, sI_uB, sJ_uI, sJ_uJ, sJ_uA, sJ_uB, sA_uI, sA_uJ, sA_uA, sA_uB, sB_uI, sB_uJ, sB_uA, sB_uB, sI_fA, sJ_fA, sA_fA, sB_fA, sI_z0, sJ_z0, sA_z0, sB_z0, Option.toList_some, Option.toList_none, List.cons_append, List.nil_append, true_and, and_true, false_and, and_false, or_false, false_or, or_true, true_or, not_true_eq_false, not_false_eq_true, ↓reduceIte, Nat.reduceAdd, Nat.reduceLeDiff, Nat.reduceEqDiff, Nat.reduceSub, Int32.reduceAdd, Int32.reduceSub, Int32.reduceMul, Int32.reduceToNatClampNeg, Int64.reduceAdd, Int64.reduceSub, Int64.reduceMul, Int64.reduceLT, Int32.reduceLT, Int32.reduceToInt, Nat.add_zero, Nat.zero_add, Nat.le_refl, eq_self, implies_true, ne_eq]
  rw [l26 (sI s 0).toInt.toNat 0 s hE.2 (by simp only [Int32.reduceToInt]; omega) (by decide)]
  simp only [Int32.reduceToNatClampNeg]
def oth (s : St) (x : Int32) (e : Nat) : Int32 := if sA s 12 e = x then sA s 13 e else if sA s 13 e = x then sA s 12 e else -1
def tcS (x : Int32) (s : St) (e : Nat) : St :=
  if oth s x e < 0 then s else if sA s 1 (oth s x e).toNatClampNeg = 3 then s else if sA s 4 (oth s x e).toNatClampNeg = 0 then uA (uA s 3 (oth s x e).toNatClampNeg (sI s 3)) 5 (oth s x e).toNatClampNeg 1 else s
theorem tcS_I {y e : Nat} {x : Int32} : sI (tcS x s e) y = sI s y := by
  unfold tcS; (repeat' split) <;> simp only [sI_uA]
theorem tcS_A {t u e : Nat} {x : Int32} (ht : t ≠ 3 ∧ t ≠ 5) : sA (tcS x s e) t u = sA s t u := by
  unfold tcS; (repeat' split) <;> simp only [sA_uA, ht.1, ht.2, false_and, if_false]
theorem tcS_E {e : Nat} {x : Int32} (h : EOk s) : EOk (tcS x s e) := h.of tcS_I tcS_I (fun k => tcS_A (by decide)) (fun k => tcS_A (by decide))
theorem l30 {x : Int32} (q : Nat) : ∀ (i : Int32) (s : St), EOk s → i.toInt = (sI s 18).toInt - q → 0 ≤ i.toInt → ∀ l3 : Slot, (l3 = .unset ∨ ∃ v, l3 = .val (.int v)) →
    (W (pj lw) 30 2 [.val (.ref p), .val (.int x), .val (.int i), l3] [] k n (ob H p s) Q ↔ Q none (ob H p (itF (tcS x) q i.toNatClampNeg s))) := by
  induction q with
  | zero =>
    intro i s hE hi h0 l3 hl
    have h1 : ¬ i < sI s 18 := by rw [lt32]; omega
    rw [w30_2]; simp +decide only [w30_0, w30_1, w30_3, w30_4, w30_7, w30_10, w30_11i, w30_11, w30_12, w30_13, w30_16, w30_17, w30_18, w30_19, w30_22, w30_23, w30_26, w30_27, w30_28i, w30_29, w30_32, w30_33, w30_36, w30_37, w30_38, w30_39, w30_42, w30_43, w30_46, w30_47, w30_48i, w30_49, w30_50, w30_53, w30_54, w30_57, w30_58, w30_59, w30_60, w30_63, w30_64, w30_67, w30_68, w30_69, w30_72, w30_73, w30_76, w30_77, w30_78, w30_81, w30_82, w30_83, w30_86, w30_87, w30_88, w30_89, w30_92, w30_95, zr_z0, zr_uI, zr_uJ, isO_put, isOw_put, put_fst, okv_int, okv_long, okv_ref, okv_bool, okv_byte, cat1_unset, cat1_int, cat1_ref, cs_nil, cs_int, cs_ref, cs_long, cmpL_lt, cmpL_gt, cmpL_eq, sI_uI, sI_uJ, sI_uA, sI_uB, sJ_uI, sJ_uJ, sJ_uA, sJ_uB, sA_uI, sA_uJ, sA_uA, sA_uB, sB_uI, sB_uJ, sB_uA, sB_uB, sI_fA, sJ_fA, sA_fA, sB_fA, sI_z0, sJ_z0, sA_z0, sB_z0, Option.toList_some, Option.toList_none, List.cons_append, List.nil_append, true_and, and_true, false_and, and_false, or_false, false_or, or_true, true_or, not_true_eq_false, not_false_eq_true, ↓reduceIte, Nat.reduceAdd, Nat.reduceLeDiff, Nat.reduceEqDiff, Nat.reduceSub, Int32.reduceAdd, Int32.reduceSub, Int32.reduceMul, Int32.reduceToNatClampNeg, Int64.reduceAdd, Int64.reduceSub, Int64.reduceMul, Int64.reduceLT, Int32.reduceLT, Int32.reduceToInt, Nat.add_zero, Nat.zero_add, Nat.le_refl, eq_self, implies_true, ne_eq, g0, s0, g1, s1, g2, s2, g3, s3, g4, g5, g6, g7, g8, g9, g10, g11, g12, g13, g14, g15, g16, g17, g18, s18, g19, s19, g20, s20, g21, s21, g22, s22, g23, s23, ai1, aw1, ae1, as1, ai2, aw2, ae2, as2, ai3, aw3, ae3, as3, ai4, aw4, ain4, awn4, ae4, as4, ai5, aw5, ain5, awn5, ae5, as5, ai6, aw6, ae6, as6, ai7, aw7, ae7, as7, ai8, aw8, ae8, as8, ai9, aw9, ae9, as9, ai10, aw10, ain10, awn10, ae10, as10, ai11, aw11, ae11, as11, ai12, aw12, ae12, as12, ai13, aw13, ae13, as13, ai14, aw14, ae14, as14, h1, itF]
  | succ q ih =>
    intro i s hE hi h0 l3 hl
    have h1 : i < sI s 18 := by rw [lt32]; omega
    have h2 : (i + 1).toInt = i.toInt + 1 := ia (by simp only [Int32.reduceToInt]; have := hE.2.1; omega) (by simp only [Int32.reduceToInt]; have := hE.2.1; omega)
    have h3 : 0 ≤ i.toInt ∧ i.toInt < 256 := by have := hE.2.1; omega
    have h4 : (i + 1).toNatClampNeg = i.toNatClampNeg + 1 := by rw [cln, cln]; omega
    obtain ⟨q1, q2⟩ := hE.2.2 i.toNatClampNeg (by rw [cln]; omega)
    have b1 : 0 ≤ (sA s 12 i.toNatClampNeg).toInt ∧ (sA s 12 i.toNatClampNeg).toInt < 128 := by have := hE.1; omega
    have b2 : 0 ≤ (sA s 13 i.toNatClampNeg).toInt ∧ (sA s 13 i.toNatClampNeg).toInt < 128 := by have := hE.1; omega
    have n1 : ¬ sA s 12 i.toNatClampNeg < 0 := by rw [lt32]; simp only [Int32.reduceToInt]; omega
    have n2 : ¬ sA s 13 i.toNatClampNeg < 0 := by rw [lt32]; simp only [Int32.reduceToInt]; omega
    have key := fun v => ih (i + 1) (tcS x s i.toNatClampNeg) (tcS_E hE) (by rw [tcS_I]; omega) (by omega) (.val (.int v)) (Or.inr ⟨v, rfl⟩)
    rw [itF, ← h4, ← key (oth s x i.toNatClampNeg), w30_2]
    unfold tcS
    rcases hl with rfl | ⟨v, rfl⟩
    all_goals
      by_cases e1 : sA s 12 i.toNatClampNeg = x
      · have eo : oth s x i.toNatClampNeg = sA s 13 i.toNatClampNeg := by simp only [oth, e1, if_true]
        by_cases e3 : sA s 1 (sA s 13 i.toNatClampNeg).toNatClampNeg = 3 <;> by_cases e4 : sA s 4 (sA s 13 i.toNatClampNeg).toNatClampNeg = 0 <;>
        simp +decide only [w30_0, w30_1, w30_3, w30_4, w30_7, w30_10, w30_11i, w30_11, w30_12, w30_13, w30_16, w30_17, w30_18, w30_19, w30_22, w30_23, w30_26, w30_27, w30_28i, w30_29, w30_32, w30_33, w30_36, w30_37, w30_38, w30_39, w30_42, w30_43, w30_46, w30_47, w30_48i, w30_49, w30_50, w30_53, w30_54, w30_57, w30_58, w30_59, w30_60, w30_63, w30_64, w30_67, w30_68, w30_69, w30_72, w30_73, w30_76, w30_77, w30_78, w30_81, w30_82, w30_83, w30_86, w30_87, w30_88, w30_89, w30_92, w30_95, zr_z0, zr_uI, zr_uJ, isO_put, isOw_put, put_fst, okv_int, okv_long, okv_ref, okv_bool, okv_byte, cat1_unset, cat1_int, cat1_ref, cs_nil, cs_int, cs_ref, cs_long, cmpL_lt, cmpL_gt, cmpL_eq, sI_uI, sI_uJ, sI_uA, sI_uB, sJ_uI, sJ_uJ, sJ_uA, sJ_uB, sA_uI, sA_uJ, sA_uA, sA_uB, sB_uI, sB_uJ, sB_uA, sB_uB, sI_fA, sJ_fA, sA_fA, sB_fA, sI_z0, sJ_z0, sA_z0, sB_z0, Option.toList_some, Option.toList_none, List.cons_append, List.nil_append, true_and, and_true, false_and, and_false, or_false, false_or, or_true, true_or, not_true_eq_false, not_false_eq_true, ↓reduceIte, Nat.reduceAdd, Nat.reduceLeDiff, Nat.reduceEqDiff, Nat.reduceSub, Int32.reduceAdd, Int32.reduceSub, Int32.reduceMul, Int32.reduceToNatClampNeg, Int64.reduceAdd, Int64.reduceSub, Int64.reduceMul, Int64.reduceLT, Int32.reduceLT, Int32.reduceToInt, Nat.add_zero, Nat.zero_add, Nat.le_refl, eq_self, implies_true, ne_eq, g0, s0, g1, s1, g2, s2, g3, s3, g4, g5, g6, g7, g8, g9, g10, g11, g12, g13, g14, g15, g16, g17, g18, s18, g19, s19, g20, s20, g21, s21, g22, s22, g23, s23, ai1, aw1, ae1, as1, ai2, aw2, ae2, as2, ai3, aw3, ae3, as3, ai4, aw4, ain4, awn4, ae4, as4, ai5, aw5, ain5, awn5, ae5, as5, ai6, aw6, ae6, as6, ai7, aw7, ae7, as7, ai8, aw8, ae8, as8, ai9, aw9, ae9, as9, ai10, aw10, ain10, awn10, ae10, as10, ai11, aw11, ae11, as11, ai12, aw12, ae12, as12, ai13, aw13, ae13, as13, ai14, aw14, ae14, as14, h1, h3, b1, b2, n1, n2, ain4, awn5, e1, e3, e4, eo]
      · by_cases e2 : sA s 13 i.toNatClampNeg = x
        · have eo : oth s x i.toNatClampNeg = sA s 12 i.toNatClampNeg := by simp only [oth, e1, e2, if_true, if_false]
          by_cases e3 : sA s 1 (sA s 12 i.toNatClampNeg).toNatClampNeg = 3 <;> by_cases e4 : sA s 4 (sA s 12 i.toNatClampNeg).toNatClampNeg = 0 <;>
          simp +decide only [w30_0, w30_1, w30_3, w30_4, w30_7, w30_10, w30_11i, w30_11, w30_12, w30_13, w30_16, w30_17, w30_18, w30_19, w30_22, w30_23, w30_26, w30_27, w30_28i, w30_29, w30_32, w30_33, w30_36, w30_37, w30_38, w30_39, w30_42, w30_43, w30_46, w30_47, w30_48i, w30_49, w30_50, w30_53, w30_54, w30_57, w30_58, w30_59, w30_60, w30_63, w30_64, w30_67, w30_68, w30_69, w30_72, w30_73, w30_76, w30_77, w30_78, w30_81, w30_82, w30_83, w30_86, w30_87, w30_88, w30_89, w30_92, w30_95, zr_z0, zr_uI, zr_uJ, isO_put, isOw_put, put_fst, okv_int, okv_long, okv_ref, okv_bool, okv_byte, cat1_unset, cat1_int, cat1_ref, cs_nil, cs_int, cs_ref, cs_long, cmpL_lt, cmpL_gt, cmpL_eq, sI_uI, sI_uJ, sI_uA, sI_uB, sJ_uI, sJ_uJ, sJ_uA, sJ_uB, sA_uI, sA_uJ, sA_uA, sA_uB, sB_uI, sB_uJ, sB_uA, sB_uB, sI_fA, sJ_fA, sA_fA, sB_fA, sI_z0, sJ_z0, sA_z0, sB_z0, Option.toList_some, Option.toList_none, List.cons_append, List.nil_append, true_and, and_true, false_and, and_false, or_false, false_or, or_true, true_or, not_true_eq_false, not_false_eq_true, ↓reduceIte, Nat.reduceAdd, Nat.reduceLeDiff, Nat.reduceEqDiff, Nat.reduceSub, Int32.reduceAdd, Int32.reduceSub, Int32.reduceMul, Int32.reduceToNatClampNeg, Int64.reduceAdd, Int64.reduceSub, Int64.reduceMul, Int64.reduceLT, Int32.reduceLT, Int32.reduceToInt, Nat.add_zero, Nat.zero_add, Nat.le_refl, eq_self, implies_true, ne_eq, g0, s0, g1, s1, g2, s2, g3, s3, g4, g5, g6, g7, g8, g9, g10, g11, g12, g13, g14, g15, g16, g17, g18, s18, g19, s19, g20, s20, g21, s21, g22, s22, g23, s23, ai1, aw1, ae1, as1, ai2, aw2, ae2, as2, ai3, aw3, ae3, as3, ai4, aw4, ain4, awn4, ae4, as4, ai5, aw5, ain5, awn5, ae5, as5, ai6, aw6, ae6, as6, ai7, aw7, ae7, as7, ai8, aw8, ae8, as8, ai9, aw9, ae9, as9, ai10, aw10, ain10, awn10, ae10, as10, ai11, aw11, ae11, as11, ai12, aw12, ae12, as12, ai13, aw13, ae13, as13, ai14, aw14, ae14, as14, h1, h3, b1, b2, n1, n2, ain4, awn5, e1, e2, e3, e4, eo]
        · have eo : oth s x i.toNatClampNeg = -1 := by simp only [oth, e1, e2, if_false]
          simp +decide only [w30_0, w30_1, w30_3, w30_4, w30_7, w30_10, w30_11i, w30_11, w30_12, w30_13, w30_16, w30_17, w30_18, w30_19, w30_22, w30_23, w30_26, w30_27, w30_28i, w30_29, w30_32, w30_33, w30_36, w30_37, w30_38, w30_39, w30_42, w30_43, w30_46, w30_47, w30_48i, w30_49, w30_50, w30_53, w30_54, w30_57, w30_58, w30_59, w30_60, w30_63, w30_64, w30_67, w30_68, w30_69, w30_72, w30_73, w30_76, w30_77, w30_78, w30_81, w30_82, w30_83, w30_86, w30_87, w30_88, w30_89, w30_92, w30_95, zr_z0, zr_uI, zr_uJ, isO_put, isOw_put, put_fst, okv_int, okv_long, okv_ref, okv_bool, okv_byte, cat1_unset, cat1_int, cat1_ref, cs_nil, cs_int, cs_ref, cs_long, cmpL_lt, cmpL_gt, cmpL_eq, sI_uI, sI_uJ, sI_uA, sI_uB, sJ_uI, sJ_uJ, sJ_uA, sJ_uB, sA_uI, sA_uJ, sA_uA, sA_uB, sB_uI, sB_uJ, sB_uA, sB_uB, sI_fA, sJ_fA, sA_fA, sB_fA, sI_z0, sJ_z0, sA_z0, sB_z0, Option.toList_some, Option.toList_none, List.cons_append, List.nil_append, true_and, and_true, false_and, and_false, or_false, false_or, or_true, true_or, not_true_eq_false, not_false_eq_true, ↓reduceIte, Nat.reduceAdd, Nat.reduceLeDiff, Nat.reduceEqDiff, Nat.reduceSub, Int32.reduceAdd, Int32.reduceSub, Int32.reduceMul, Int32.reduceToNatClampNeg, Int64.reduceAdd, Int64.reduceSub, Int64.reduceMul, Int64.reduceLT, Int32.reduceLT, Int32.reduceToInt, Nat.add_zero, Nat.zero_add, Nat.le_refl, eq_self, implies_true, ne_eq, g0, s0, g1, s1, g2, s2, g3, s3, g4, g5, g6, g7, g8, g9, g10, g11, g12, g13, g14, g15, g16, g17, g18, s18, g19, s19, g20, s20, g21, s21, g22, s22, g23, s23, ai1, aw1, ae1, as1, ai2, aw2, ae2, as2, ai3, aw3, ae3, as3, ai4, aw4, ain4, awn4, ae4, as4, ai5, aw5, ain5, awn5, ae5, as5, ai6, aw6, ae6, as6, ai7, aw7, ae7, as7, ai8, aw8, ae8, as8, ai9, aw9, ae9, as9, ai10, aw10, ain10, awn10, ae10, as10, ai11, aw11, ae11, as11, ai12, aw12, ae12, as12, ai13, aw13, ae13, as13, ai14, aw14, ae14, as14, h1, h3, e1, e2, eo]
theorem t30 {x : Int32} (hE : EOk s) : Cl (pj lw) 30 [.ref p, .int x] (ob H p s) Q ↔ Q none (ob H p (itF (tcS x) (sI s 18).toInt.toNat 0 s)) := by
  rw [c30]; simp +decide only [w30_0, w30_1, w30_3, w30_4, w30_7, w30_10, w30_11i, w30_11, w30_12, w30_13, w30_16, w30_17, w30_18, w30_19, w30_22, w30_23, w30_26, w30_27, w30_28i, w30_29, w30_32, w30_33, w30_36, w30_37, w30_38, w30_39, w30_42, w30_43, w30_46, w30_47, w30_48i, w30_49, w30_50, w30_53, w30_54, w30_57, w30_58, w30_59, w30_60, w30_63, w30_64, w30_67, w30_68, w30_69, w30_72, w30_73, w30_76, w30_77, w30_78, w30_81, w30_82, w30_83, w30_86, w30_87, w30_88, w30_89, w30_92, w30_95, zr_z0, zr_uI, zr_uJ, isO_put, isOw_put, put_fst, okv_int, okv_long, okv_ref, okv_bool, okv_byte, cat1_unset, cat1_int, cat1_ref, cs_nil, cs_int, cs_ref, cs_long, cmpL_lt, cmpL_gt, cmpL_eq, sI_uI, sI_uJ, sI_uA, sI_uB, sJ_uI, sJ_uJ, sJ_uA, sJ_uB, sA_uI, sA_uJ, sA_uA, sA_uB, sB_uI, sB_uJ, sB_uA, sB_uB, sI_fA, sJ_fA, sA_fA, sB_fA, sI_z0, sJ_z0, sA_z0, sB_z0, Option.toList_some, Option.toList_none, List.cons_append, List.nil_append, true_and, and_true, false_and, and_false, or_false, false_or, or_true, true_or, not_true_eq_false, not_false_eq_true, ↓reduceIte, Nat.reduceAdd, Nat.reduceLeDiff, Nat.reduceEqDiff, Nat.reduceSub, Int32.reduceAdd, Int32.reduceSub, Int32.reduceMul, Int32.reduceToNatClampNeg, Int64.reduceAdd, Int64.reduceSub, Int64.reduceMul, Int64.reduceLT, Int32.reduceLT, Int32.reduceToInt, Nat.add_zero, Nat.zero_add, Nat.le_refl, eq_self, implies_true, ne_eq]
  rw [l30 (sI s 18).toInt.toNat 0 s hE (by simp only [Int32.reduceToInt]; have := hE.2.1; omega) (by decide) .unset (Or.inl rfl)]
  simp only [Int32.reduceToNatClampNeg]
def toS (s : St) (x : Int32) : St :=
  if sA s 1 x.toNatClampNeg = 2 then itF (tcS x) (sI s 18).toInt.toNat 0 (uA (uA (uI (uI (uA s 5 x.toNatClampNeg 0) 20 (sI s 20 + 1)) 21 (sI s 21 + 1)) 4 x.toNatClampNeg 1) 3 x.toNatClampNeg (sI s 3))
  else uI (uA s 5 x.toNatClampNeg 0) 20 (sI s 20 + 1)
theorem t29 {x : Int32} (hE : EOk s) (hx : 0 ≤ x.toInt ∧ x.toInt < 128) : Cl (pj lw) 29 [.ref p, .int x] (ob H p s) Q ↔ Q none (ob H p (toS s x)) := by
  rw [c29]
  unfold toS
  by_cases e : sA s 1 x.toNatClampNeg = 2
  · simp +decide only [w29_0, w29_1, w29_4, w29_5, w29_6, w29_7, w29_8, w29_9, w29_12, w29_13, w29_14, w29_17, w29_18, w29_21, w29_22, w29_23, w29_24, w29_27, w29_28, w29_29, w29_30, w29_33, w29_34, w29_35, w29_38, w29_39, w29_42, w29_43, w29_44, w29_45, w29_46, w29_49, w29_50, w29_51, w29_54, w29_55, w29_56, w29_57, w29_60, zr_z0, zr_uI, zr_uJ, isO_put, isOw_put, put_fst, okv_int, okv_long, okv_ref, okv_bool, okv_byte, cat1_unset, cat1_int, cat1_ref, cs_nil, cs_int, cs_ref, cs_long, cmpL_lt, cmpL_gt, cmpL_eq, sI_uI, sI_uJ, sI_uA, sI_uB, sJ_uI, sJ_uJ, sJ_uA, sJ_uB, sA_uI, sA_uJ, sA_uA, sA_uB, sB_uI, sB_uJ, sB_uA, sB_uB, sI_fA, sJ_fA, sA_fA, sB_fA, sI_z0, sJ_z0, sA_z0, sB_z0, Option.toList_some, Option.toList_none, List.cons_append, List.nil_append, true_and, and_true, false_and, and_false, or_false, false_or, or_true, true_or, not_true_eq_false, not_false_eq_true, ↓reduceIte, Nat.reduceAdd, Nat.reduceLeDiff, Nat.reduceEqDiff, Nat.reduceSub, Int32.reduceAdd, Int32.reduceSub, Int32.reduceMul, Int32.reduceToNatClampNeg, Int64.reduceAdd, Int64.reduceSub, Int64.reduceMul, Int64.reduceLT, Int32.reduceLT, Int32.reduceToInt, Nat.add_zero, Nat.zero_add, Nat.le_refl, eq_self, implies_true, ne_eq, g0, s0, g1, s1, g2, s2, g3, s3, g4, g5, g6, g7, g8, g9, g10, g11, g12, g13, g14, g15, g16, g17, g18, s18, g19, s19, g20, s20, g21, s21, g22, s22, g23, s23, ai1, aw1, ae1, as1, ai2, aw2, ae2, as2, ai3, aw3, ae3, as3, ai4, aw4, ain4, awn4, ae4, as4, ai5, aw5, ain5, awn5, ae5, as5, ai6, aw6, ae6, as6, ai7, aw7, ae7, as7, ai8, aw8, ae8, as8, ai9, aw9, ae9, as9, ai10, aw10, ain10, awn10, ae10, as10, ai11, aw11, ae11, as11, ai12, aw12, ae12, as12, ai13, aw13, ae13, as13, ai14, aw14, ae14, as14, awn4, awn5, hx, e]
    rw [t30 (hE.of (by simp +decide only [zr_z0, zr_uI, zr_uJ, isO_put, isOw_put, put_fst, okv_int, okv_long, okv_ref, okv_bool, okv_byte, cat1_unset, cat1_int, cat1_ref, cs_nil, cs_int, cs_ref, cs_long, cmpL_lt, cmpL_gt, cmpL_eq, sI_uI, sI_uJ, sI_uA, sI_uB, sJ_uI, sJ_uJ, sJ_uA, sJ_uB, sA_uI, sA_uJ, sA_uA, sA_uB, sB_uI, sB_uJ, sB_uA, sB_uB, sI_fA, sJ_fA, sA_fA, sB_fA, sI_z0, sJ_z0, sA_z0, sB_z0, Option.toList_some, Option.toList_none, List.cons_append, List.nil_append, true_and, and_true, false_and, and_false, or_false, false_or, or_true, true_or, not_true_eq_false, not_false_eq_true, ↓reduceIte, Nat.reduceAdd, Nat.reduceLeDiff, Nat.reduceEqDiff, Nat.reduceSub, Int32.reduceAdd, Int32.reduceSub, Int32.reduceMul, Int32.reduceToNatClampNeg, Int64.reduceAdd, Int64.reduceSub, Int64.reduceMul, Int64.reduceLT, Int32.reduceLT, Int32.reduceToInt, Nat.add_zero, Nat.zero_add, Nat.le_refl, eq_self, implies_true, ne_eq]) (by simp +decide only [zr_z0, zr_uI, zr_uJ, isO_put, isOw_put, put_fst, okv_int, okv_long, okv_ref, okv_bool, okv_byte, cat1_unset, cat1_int, cat1_ref, cs_nil, cs_int, cs_ref, cs_long, cmpL_lt, cmpL_gt, cmpL_eq, sI_uI, sI_uJ, sI_uA, sI_uB, sJ_uI, sJ_uJ, sJ_uA, sJ_uB, sA_uI, sA_uJ, sA_uA, sA_uB, sB_uI, sB_uJ, sB_uA, sB_uB, sI_fA, sJ_fA, sA_fA, sB_fA, sI_z0, sJ_z0, sA_z0, sB_z0, Option.toList_some, Option.toList_none, List.cons_append, List.nil_append, true_and, and_true, false_and, and_false, or_false, false_or, or_true, true_or, not_true_eq_false, not_false_eq_true, ↓reduceIte, Nat.reduceAdd, Nat.reduceLeDiff, Nat.reduceEqDiff, Nat.reduceSub, Int32.reduceAdd, Int32.reduceSub, Int32.reduceMul, Int32.reduceToNatClampNeg, Int64.reduceAdd, Int64.reduceSub, Int64.reduceMul, Int64.reduceLT, Int32.reduceLT, Int32.reduceToInt, Nat.add_zero, Nat.zero_add, Nat.le_refl, eq_self, implies_true, ne_eq]) (fun k => by simp +decide only [zr_z0, zr_uI, zr_uJ, isO_put, isOw_put, put_fst, okv_int, okv_long, okv_ref, okv_bool, okv_byte, cat1_unset, cat1_int, cat1_ref, cs_nil, cs_int, cs_ref, cs_long, cmpL_lt, cmpL_gt, cmpL_eq, sI_uI, sI_uJ, sI_uA, sI_uB, sJ_uI, sJ_uJ, sJ_uA, sJ_uB, sA_uI, sA_uJ, sA_uA, sA_uB, sB_uI, sB_uJ, sB_uA, sB_uB, sI_fA, sJ_fA, sA_fA, sB_fA, sI_z0, sJ_z0, sA_z0, sB_z0, Option.toList_some, Option.toList_none, List.cons_append, List.nil_append, true_and, and_true, false_and, and_false, or_false, false_or, or_true, true_or, not_true_eq_false, not_false_eq_true, ↓reduceIte, Nat.reduceAdd, Nat.reduceLeDiff, Nat.reduceEqDiff, Nat.reduceSub, Int32.reduceAdd, Int32.reduceSub, Int32.reduceMul, Int32.reduceToNatClampNeg, Int64.reduceAdd, Int64.reduceSub, Int64.reduceMul, Int64.reduceLT, Int32.reduceLT, Int32.reduceToInt, Nat.add_zero, Nat.zero_add, Nat.le_refl, eq_self, implies_true, ne_eq]) (fun k => by simp +decide only [zr_z0, zr_uI, zr_uJ, isO_put, isOw_put, put_fst, okv_int, okv_long, okv_ref, okv_bool, okv_byte, cat1_unset, cat1_int, cat1_ref, cs_nil, cs_int, cs_ref, cs_long, cmpL_lt, cmpL_gt, cmpL_eq, sI_uI, sI_uJ, sI_uA, sI_uB, sJ_uI, sJ_uJ, sJ_uA, sJ_uB, sA_uI, sA_uJ, sA_uA, sA_uB, sB_uI, sB_uJ, sB_uA, sB_uB, sI_fA, sJ_fA, sA_fA, sB_fA, sI_z0, sJ_z0, sA_z0, sB_z0, Option.toList_some, Option.toList_none, List.cons_append, List.nil_append, true_and, and_true, false_and, and_false, or_false, false_or, or_true, true_or, not_true_eq_false, not_false_eq_true, ↓reduceIte, Nat.reduceAdd, Nat.reduceLeDiff, Nat.reduceEqDiff, Nat.reduceSub, Int32.reduceAdd, Int32.reduceSub, Int32.reduceMul, Int32.reduceToNatClampNeg, Int64.reduceAdd, Int64.reduceSub, Int64.reduceMul, Int64.reduceLT, Int32.reduceLT, Int32.reduceToInt, Nat.add_zero, Nat.zero_add, Nat.le_refl, eq_self, implies_true, ne_eq]))]
    simp +decide only [w29_0, w29_1, w29_4, w29_5, w29_6, w29_7, w29_8, w29_9, w29_12, w29_13, w29_14, w29_17, w29_18, w29_21, w29_22, w29_23, w29_24, w29_27, w29_28, w29_29, w29_30, w29_33, w29_34, w29_35, w29_38, w29_39, w29_42, w29_43, w29_44, w29_45, w29_46, w29_49, w29_50, w29_51, w29_54, w29_55, w29_56, w29_57, w29_60, zr_z0, zr_uI, zr_uJ, isO_put, isOw_put, put_fst, okv_int, okv_long, okv_ref, okv_bool, okv_byte, cat1_unset, cat1_int, cat1_ref, cs_nil, cs_int, cs_ref, cs_long, cmpL_lt, cmpL_gt, cmpL_eq, sI_uI, sI_uJ, sI_uA, sI_uB, sJ_uI, sJ_uJ, sJ_uA, sJ_uB, sA_uI, sA_uJ, sA_uA, sA_uB, sB_uI, sB_uJ, sB_uA, sB_uB, sI_fA, sJ_fA, sA_fA, sB_fA, sI_z0, sJ_z0, sA_z0, sB_z0, Option.toList_some, Option.toList_none, List.cons_append, List.nil_append, true_and, and_true, false_and, and_false, or_false, false_or, or_true, true_or, not_true_eq_false, not_false_eq_true, ↓reduceIte, Nat.reduceAdd, Nat.reduceLeDiff, Nat.reduceEqDiff, Nat.reduceSub, Int32.reduceAdd, Int32.reduceSub, Int32.reduceMul, Int32.reduceToNatClampNeg, Int64.reduceAdd, Int64.reduceSub, Int64.reduceMul, Int64.reduceLT, Int32.reduceLT, Int32.reduceToInt, Nat.add_zero, Nat.zero_add, Nat.le_refl, eq_self, implies_true, ne_eq, g0, s0, g1, s1, g2, s2, g3, s3, g4, g5, g6, g7, g8, g9, g10, g11, g12, g13, g14, g15, g16, g17, g18, s18, g19, s19, g20, s20, g21, s21, g22, s22, g23, s23, ai1, aw1, ae1, as1, ai2, aw2, ae2, as2, ai3, aw3, ae3, as3, ai4, aw4, ain4, awn4, ae4, as4, ai5, aw5, ain5, awn5, ae5, as5, ai6, aw6, ae6, as6, ai7, aw7, ae7, as7, ai8, aw8, ae8, as8, ai9, aw9, ae9, as9, ai10, aw10, ain10, awn10, ae10, as10, ai11, aw11, ae11, as11, ai12, aw12, ae12, as12, ai13, aw13, ae13, as13, ai14, aw14, ae14, as14]
  · simp +decide only [w29_0, w29_1, w29_4, w29_5, w29_6, w29_7, w29_8, w29_9, w29_12, w29_13, w29_14, w29_17, w29_18, w29_21, w29_22, w29_23, w29_24, w29_27, w29_28, w29_29, w29_30, w29_33, w29_34, w29_35, w29_38, w29_39, w29_42, w29_43, w29_44, w29_45, w29_46, w29_49, w29_50, w29_51, w29_54, w29_55, w29_56, w29_57, w29_60, zr_z0, zr_uI, zr_uJ, isO_put, isOw_put, put_fst, okv_int, okv_long, okv_ref, okv_bool, okv_byte, cat1_unset, cat1_int, cat1_ref, cs_nil, cs_int, cs_ref, cs_long, cmpL_lt, cmpL_gt, cmpL_eq, sI_uI, sI_uJ, sI_uA, sI_uB, sJ_uI, sJ_uJ, sJ_uA, sJ_uB, sA_uI, sA_uJ, sA_uA, sA_uB, sB_uI, sB_uJ, sB_uA, sB_uB, sI_fA, sJ_fA, sA_fA, sB_fA, sI_z0, sJ_z0, sA_z0, sB_z0, Option.toList_some, Option.toList_none, List.cons_append, List.nil_append, true_and, and_true, false_and, and_false, or_false, false_or, or_true, true_or, not_true_eq_false, not_false_eq_true, ↓reduceIte, Nat.reduceAdd, Nat.reduceLeDiff, Nat.reduceEqDiff, Nat.reduceSub, Int32.reduceAdd, Int32.reduceSub, Int32.reduceMul, Int32.reduceToNatClampNeg, Int64.reduceAdd, Int64.reduceSub, Int64.reduceMul, Int64.reduceLT, Int32.reduceLT, Int32.reduceToInt, Nat.add_zero, Nat.zero_add, Nat.le_refl, eq_self, implies_true, ne_eq, g0, s0, g1, s1, g2, s2, g3, s3, g4, g5, g6, g7, g8, g9, g10, g11, g12, g13, g14, g15, g16, g17, g18, s18, g19, s19, g20, s20, g21, s21, g22, s22, g23, s23, ai1, aw1, ae1, as1, ai2, aw2, ae2, as2, ai3, aw3, ae3, as3, ai4, aw4, ain4, awn4, ae4, as4, ai5, aw5, ain5, awn5, ae5, as5, ai6, aw6, ae6, as6, ai7, aw7, ae7, as7, ai8, aw8, ae8, as8, ai9, aw9, ae9, as9, ai10, aw10, ain10, awn10, ae10, as10, ai11, aw11, ae11, as11, ai12, aw12, ae12, as12, ai13, aw13, ae13, as13, ai14, aw14, ae14, as14, awn4, awn5, hx, e]
theorem toS_I {y : Nat} {x : Int32} (hy : y ≠ 20 ∧ y ≠ 21) : sI (toS s x) y = sI s y := by
  unfold toS; split
  · exact itF_inv (I := fun s' => sI s' y = sI s y) (fun s' e h => by rw [tcS_I]; exact h) _ _ _ (by simp only [sI_uA, sI_uI, hy.1, hy.2, if_false])
  · simp only [sI_uA, sI_uI, hy.1, if_false]
theorem toS_A {t u : Nat} {x : Int32} (ht : t ≠ 3 ∧ t ≠ 4 ∧ t ≠ 5) : sA (toS s x) t u = sA s t u := by
  unfold toS; split
  · exact itF_inv (I := fun s' => sA s' t u = sA s t u) (fun s' e h => by rw [tcS_A ⟨ht.1, ht.2.2⟩]; exact h) _ _ _ (by simp only [sA_uA, sA_uI, ht.1, ht.2.1, ht.2.2, false_and, if_false])
  · simp only [sA_uA, sA_uI, ht.2.2, false_and, if_false]
theorem toS_E {x : Int32} (h : EOk s) : EOk (toS s x) := h.of (toS_I (by decide)) (toS_I (by decide)) (fun k => toS_A (by decide)) (fun k => toS_A (by decide))
def slF : Nat → Int32 → Int32 → St → Int32 × St
  | 0, _, c, s => (c, s)
  | m + 1, i, c, s => if c < sI s 19 then (if sA s 5 i.toNatClampNeg = 0 then slF m (i + 1) c s else slF m (i + 1) (c + 1) (uA s 11 c.toNatClampNeg i)) else (c, s)
def tsS (s : St) (e : Nat) : St := toS s (sA s 11 e)
theorem tsS_I {y e : Nat} (hy : y ≠ 20 ∧ y ≠ 21) : sI (tsS s e) y = sI s y := toS_I hy
theorem tsS_A {t u e : Nat} (ht : t ≠ 3 ∧ t ≠ 4 ∧ t ≠ 5) : sA (tsS s e) t u = sA s t u := toS_A ht
theorem l28 (q : Nat) : ∀ (i c : Int32) (s : St), (sI s 0).toInt ≤ 128 → (sI s 19).toInt ≤ 16 → i.toInt = (sI s 0).toInt - q → 0 ≤ i.toInt → 0 ≤ c.toInt →
    (W (pj lw) 28 4 [.val (.ref p), .val (.int c), .val (.int i)] [] k n (ob H p s) Q ↔ W (pj lw) 28 47 [.val (.ref p), .val (.int (slF q i c s).1), .val (.int 0)] [] k n (ob H p (slF q i c s).2) Q) := by
  induction q with
  | zero =>
    intro i c s hn hc hi h0 hc0
    have h1 : ¬ i < sI s 0 := by rw [lt32]; omega
    rw [w28_4]; simp +decide only [w28_5, w28_6, w28_9, w28_12, w28_13, w28_14, w28_17, w28_20, w28_21, w28_24, w28_25, w28_26, w28_29, w28_30, w28_33, w28_34, w28_35, w28_36, w28_39, w28_42, w28_45, w28_46i, zr_z0, zr_uI, zr_uJ, isO_put, isOw_put, put_fst, okv_int, okv_long, okv_ref, okv_bool, okv_byte, cat1_unset, cat1_int, cat1_ref, cs_nil, cs_int, cs_ref, cs_long, cmpL_lt, cmpL_gt, cmpL_eq, sI_uI, sI_uJ, sI_uA, sI_uB, sJ_uI, sJ_uJ, sJ_uA, sJ_uB, sA_uI, sA_uJ, sA_uA, sA_uB, sB_uI, sB_uJ, sB_uA, sB_uB, sI_fA, sJ_fA, sA_fA, sB_fA, sI_z0, sJ_z0, sA_z0, sB_z0, Option.toList_some, Option.toList_none, List.cons_append, List.nil_append, true_and, and_true, false_and, and_false, or_false, false_or, or_true, true_or, not_true_eq_false, not_false_eq_true, ↓reduceIte, Nat.reduceAdd, Nat.reduceLeDiff, Nat.reduceEqDiff, Nat.reduceSub, Int32.reduceAdd, Int32.reduceSub, Int32.reduceMul, Int32.reduceToNatClampNeg, Int64.reduceAdd, Int64.reduceSub, Int64.reduceMul, Int64.reduceLT, Int32.reduceLT, Int32.reduceToInt, Nat.add_zero, Nat.zero_add, Nat.le_refl, eq_self, implies_true, ne_eq, g0, s0, g1, s1, g2, s2, g3, s3, g4, g5, g6, g7, g8, g9, g10, g11, g12, g13, g14, g15, g16, g17, g18, s18, g19, s19, g20, s20, g21, s21, g22, s22, g23, s23, ai1, aw1, ae1, as1, ai2, aw2, ae2, as2, ai3, aw3, ae3, as3, ai4, aw4, ain4, awn4, ae4, as4, ai5, aw5, ain5, awn5, ae5, as5, ai6, aw6, ae6, as6, ai7, aw7, ae7, as7, ai8, aw8, ae8, as8, ai9, aw9, ae9, as9, ai10, aw10, ain10, awn10, ae10, as10, ai11, aw11, ae11, as11, ai12, aw12, ae12, as12, ai13, aw13, ae13, as13, ai14, aw14, ae14, as14, h1, slF]
  | succ q ih =>
    intro i c s hn hc hi h0 hc0
    have h1 : i < sI s 0 := by rw [lt32]; omega
    have h2 : (i + 1).toInt = i.toInt + 1 := ia (by simp only [Int32.reduceToInt]; omega) (by simp only [Int32.reduceToInt]; omega)
    have h3 : 0 ≤ i.toInt ∧ i.toInt < 128 := by omega
    rw [slF, w28_4]
    by_cases e1 : c < sI s 19
    · have hc1 : c.toInt < (sI s 19).toInt := lt32.mp e1
      have h5 : 0 ≤ c.toInt ∧ c.toInt < 128 := by omega
      have h6 : (c + 1).toInt = c.toInt + 1 := ia (by simp only [Int32.reduceToInt]; omega) (by simp only [Int32.reduceToInt]; omega)
      rw [if_pos e1]
      by_cases e2 : sA s 5 i.toNatClampNeg = 0
      · rw [if_pos e2, ← ih (i + 1) c s hn hc (by omega) (by omega) hc0]
        simp +decide only [w28_5, w28_6, w28_9, w28_12, w28_13, w28_14, w28_17, w28_20, w28_21, w28_24, w28_25, w28_26, w28_29, w28_30, w28_33, w28_34, w28_35, w28_36, w28_39, w28_42, w28_45, w28_46i, zr_z0, zr_uI, zr_uJ, isO_put, isOw_put, put_fst, okv_int, okv_long, okv_ref, okv_bool, okv_byte, cat1_unset, cat1_int, cat1_ref, cs_nil, cs_int, cs_ref, cs_long, cmpL_lt, cmpL_gt, cmpL_eq, sI_uI, sI_uJ, sI_uA, sI_uB, sJ_uI, sJ_uJ, sJ_uA, sJ_uB, sA_uI, sA_uJ, sA_uA, sA_uB, sB_uI, sB_uJ, sB_uA, sB_uB, sI_fA, sJ_fA, sA_fA, sB_fA, sI_z0, sJ_z0, sA_z0, sB_z0, Option.toList_some, Option.toList_none, List.cons_append, List.nil_append, true_and, and_true, false_and, and_false, or_false, false_or, or_true, true_or, not_true_eq_false, not_false_eq_true, ↓reduceIte, Nat.reduceAdd, Nat.reduceLeDiff, Nat.reduceEqDiff, Nat.reduceSub, Int32.reduceAdd, Int32.reduceSub, Int32.reduceMul, Int32.reduceToNatClampNeg, Int64.reduceAdd, Int64.reduceSub, Int64.reduceMul, Int64.reduceLT, Int32.reduceLT, Int32.reduceToInt, Nat.add_zero, Nat.zero_add, Nat.le_refl, eq_self, implies_true, ne_eq, g0, s0, g1, s1, g2, s2, g3, s3, g4, g5, g6, g7, g8, g9, g10, g11, g12, g13, g14, g15, g16, g17, g18, s18, g19, s19, g20, s20, g21, s21, g22, s22, g23, s23, ai1, aw1, ae1, as1, ai2, aw2, ae2, as2, ai3, aw3, ae3, as3, ai4, aw4, ain4, awn4, ae4, as4, ai5, aw5, ain5, awn5, ae5, as5, ai6, aw6, ae6, as6, ai7, aw7, ae7, as7, ai8, aw8, ae8, as8, ai9, aw9, ae9, as9, ai10, aw10, ain10, awn10, ae10, as10, ai11, aw11, ae11, as11, ai12, aw12, ae12, as12, ai13, aw13, ae13, as13, ai14, aw14, ae14, as14, ain5, h1, h3, e1, e2]
      · rw [if_neg e2, ← ih (i + 1) (c + 1) (uA s 11 c.toNatClampNeg i) (by rw [sI_uA]; exact hn) (by rw [sI_uA]; exact hc) (by rw [sI_uA]; omega) (by omega) (by omega)]
        simp +decide only [w28_5, w28_6, w28_9, w28_12, w28_13, w28_14, w28_17, w28_20, w28_21, w28_24, w28_25, w28_26, w28_29, w28_30, w28_33, w28_34, w28_35, w28_36, w28_39, w28_42, w28_45, w28_46i, zr_z0, zr_uI, zr_uJ, isO_put, isOw_put, put_fst, okv_int, okv_long, okv_ref, okv_bool, okv_byte, cat1_unset, cat1_int, cat1_ref, cs_nil, cs_int, cs_ref, cs_long, cmpL_lt, cmpL_gt, cmpL_eq, sI_uI, sI_uJ, sI_uA, sI_uB, sJ_uI, sJ_uJ, sJ_uA, sJ_uB, sA_uI, sA_uJ, sA_uA, sA_uB, sB_uI, sB_uJ, sB_uA, sB_uB, sI_fA, sJ_fA, sA_fA, sB_fA, sI_z0, sJ_z0, sA_z0, sB_z0, Option.toList_some, Option.toList_none, List.cons_append, List.nil_append, true_and, and_true, false_and, and_false, or_false, false_or, or_true, true_or, not_true_eq_false, not_false_eq_true, ↓reduceIte, Nat.reduceAdd, Nat.reduceLeDiff, Nat.reduceEqDiff, Nat.reduceSub, Int32.reduceAdd, Int32.reduceSub, Int32.reduceMul, Int32.reduceToNatClampNeg, Int64.reduceAdd, Int64.reduceSub, Int64.reduceMul, Int64.reduceLT, Int32.reduceLT, Int32.reduceToInt, Nat.add_zero, Nat.zero_add, Nat.le_refl, eq_self, implies_true, ne_eq, g0, s0, g1, s1, g2, s2, g3, s3, g4, g5, g6, g7, g8, g9, g10, g11, g12, g13, g14, g15, g16, g17, g18, s18, g19, s19, g20, s20, g21, s21, g22, s22, g23, s23, ai1, aw1, ae1, as1, ai2, aw2, ae2, as2, ai3, aw3, ae3, as3, ai4, aw4, ain4, awn4, ae4, as4, ai5, aw5, ain5, awn5, ae5, as5, ai6, aw6, ae6, as6, ai7, aw7, ae7, as7, ai8, aw8, ae8, as8, ai9, aw9, ae9, as9, ai10, aw10, ain10, awn10, ae10, as10, ai11, aw11, ae11, as11, ai12, aw12, ae12, as12, ai13, aw13, ae13, as13, ai14, aw14, ae14, as14, ain5, h1, h3, h5, e1, e2]
    · rw [if_neg e1]
      simp +decide only [w28_5, w28_6, w28_9, w28_12, w28_13, w28_14, w28_17, w28_20, w28_21, w28_24, w28_25, w28_26, w28_29, w28_30, w28_33, w28_34, w28_35, w28_36, w28_39, w28_42, w28_45, w28_46i, zr_z0, zr_uI, zr_uJ, isO_put, isOw_put, put_fst, okv_int, okv_long, okv_ref, okv_bool, okv_byte, cat1_unset, cat1_int, cat1_ref, cs_nil, cs_int, cs_ref, cs_long, cmpL_lt, cmpL_gt, cmpL_eq, sI_uI, sI_uJ, sI_uA, sI_uB, sJ_uI, sJ_uJ, sJ_uA, sJ_uB, sA_uI, sA_uJ, sA_uA, sA_uB, sB_uI, sB_uJ, sB_uA, sB_uB, sI_fA, sJ_fA, sA_fA, sB_fA, sI_z0, sJ_z0, sA_z0, sB_z0, Option.toList_some, Option.toList_none, List.cons_append, List.nil_append, true_and, and_true, false_and, and_false, or_false, false_or, or_true, true_or, not_true_eq_false, not_false_eq_true, ↓reduceIte, Nat.reduceAdd, Nat.reduceLeDiff, Nat.reduceEqDiff, Nat.reduceSub, Int32.reduceAdd, Int32.reduceSub, Int32.reduceMul, Int32.reduceToNatClampNeg, Int64.reduceAdd, Int64.reduceSub, Int64.reduceMul, Int64.reduceLT, Int32.reduceLT, Int32.reduceToInt, Nat.add_zero, Nat.zero_add, Nat.le_refl, eq_self, implies_true, ne_eq, g0, s0, g1, s1, g2, s2, g3, s3, g4, g5, g6, g7, g8, g9, g10, g11, g12, g13, g14, g15, g16, g17, g18, s18, g19, s19, g20, s20, g21, s21, g22, s22, g23, s23, ai1, aw1, ae1, as1, ai2, aw2, ae2, as2, ai3, aw3, ae3, as3, ai4, aw4, ain4, awn4, ae4, as4, ai5, aw5, ain5, awn5, ae5, as5, ai6, aw6, ae6, as6, ai7, aw7, ae7, as7, ai8, aw8, ae8, as8, ai9, aw9, ae9, as9, ai10, aw10, ain10, awn10, ae10, as10, ai11, aw11, ae11, as11, ai12, aw12, ae12, as12, ai13, aw13, ae13, as13, ai14, aw14, ae14, as14, h1, e1]
theorem m28 {c : Int32} (q : Nat) : ∀ (i : Int32) (s : St), EOk s → (∀ j, j < c.toNatClampNeg → 0 ≤ (sA s 11 j).toInt ∧ (sA s 11 j).toInt < 128) → c.toInt ≤ 128 → i.toInt = c.toInt - q → 0 ≤ i.toInt →
    (W (pj lw) 28 47 [.val (.ref p), .val (.int c), .val (.int i)] [] k n (ob H p s) Q ↔ Q none (ob H p (itF tsS q i.toNatClampNeg s))) := by
  induction q with
  | zero =>
    intro i s hE hs hc hi h0
    have h1 : ¬ i < c := by rw [lt32]; omega
    rw [w28_47]; simp +decide only [w28_48, w28_49, w28_52, w28_53, w28_54, w28_57, w28_58, w28_59, w28_62, w28_65, w28_68, zr_z0, zr_uI, zr_uJ, isO_put, isOw_put, put_fst, okv_int, okv_long, okv_ref, okv_bool, okv_byte, cat1_unset, cat1_int, cat1_ref, cs_nil, cs_int, cs_ref, cs_long, cmpL_lt, cmpL_gt, cmpL_eq, sI_uI, sI_uJ, sI_uA, sI_uB, sJ_uI, sJ_uJ, sJ_uA, sJ_uB, sA_uI, sA_uJ, sA_uA, sA_uB, sB_uI, sB_uJ, sB_uA, sB_uB, sI_fA, sJ_fA, sA_fA, sB_fA, sI_z0, sJ_z0, sA_z0, sB_z0, Option.toList_some, Option.toList_none, List.cons_append, List.nil_append, true_and, and_true, false_and, and_false, or_false, false_or, or_true, true_or, not_true_eq_false, not_false_eq_true, ↓reduceIte, Nat.reduceAdd, Nat.reduceLeDiff, Nat.reduceEqDiff, Nat.reduceSub, Int32.reduceAdd, Int32.reduceSub, Int32.reduceMul, Int32.reduceToNatClampNeg, Int64.reduceAdd, Int64.reduceSub, Int64.reduceMul, Int64.reduceLT, Int32.reduceLT, Int32.reduceToInt, Nat.add_zero, Nat.zero_add, Nat.le_refl, eq_self, implies_true, ne_eq, g0, s0, g1, s1, g2, s2, g3, s3, g4, g5, g6, g7, g8, g9, g10, g11, g12, g13, g14, g15, g16, g17, g18, s18, g19, s19, g20, s20, g21, s21, g22, s22, g23, s23, ai1, aw1, ae1, as1, ai2, aw2, ae2, as2, ai3, aw3, ae3, as3, ai4, aw4, ain4, awn4, ae4, as4, ai5, aw5, ain5, awn5, ae5, as5, ai6, aw6, ae6, as6, ai7, aw7, ae7, as7, ai8, aw8, ae8, as8, ai9, aw9, ae9, as9, ai10, aw10, ain10, awn10, ae10, as10, ai11, aw11, ae11, as11, ai12, aw12, ae12, as12, ai13, aw13, ae13, as13, ai14, aw14, ae14, as14, h1, itF]
  | succ q ih =>
    intro i s hE hs hc hi h0
    have h1 : i < c := by rw [lt32]; omega
    have h2 : (i + 1).toInt = i.toInt + 1 := ia (by simp only [Int32.reduceToInt]; omega) (by simp only [Int32.reduceToInt]; omega)
    have h3 : 0 ≤ i.toInt ∧ i.toInt < 128 := by omega
    have h4 : (i + 1).toNatClampNeg = i.toNatClampNeg + 1 := by rw [cln, cln]; omega
    have hb := hs i.toNatClampNeg (by rw [cln, cln]; omega)
    rw [itF, ← h4, ← ih (i + 1) (tsS s i.toNatClampNeg) (toS_E hE) (fun j hj => by rw [tsS_A (by decide)]; exact hs j hj) hc (by omega) (by omega), w28_47]
    simp +decide only [w28_48, w28_49, w28_52, w28_53, w28_54, w28_57, w28_58, w28_59, w28_62, w28_65, w28_68, zr_z0, zr_uI, zr_uJ, isO_put, isOw_put, put_fst, okv_int, okv_long, okv_ref, okv_bool, okv_byte, cat1_unset, cat1_int, cat1_ref, cs_nil, cs_int, cs_ref, cs_long, cmpL_lt, cmpL_gt, cmpL_eq, sI_uI, sI_uJ, sI_uA, sI_uB, sJ_uI, sJ_uJ, sJ_uA, sJ_uB, sA_uI, sA_uJ, sA_uA, sA_uB, sB_uI, sB_uJ, sB_uA, sB_uB, sI_fA, sJ_fA, sA_fA, sB_fA, sI_z0, sJ_z0, sA_z0, sB_z0, Option.toList_some, Option.toList_none, List.cons_append, List.nil_append, true_and, and_true, false_and, and_false, or_false, false_or, or_true, true_or, not_true_eq_false, not_false_eq_true, ↓reduceIte, Nat.reduceAdd, Nat.reduceLeDiff, Nat.reduceEqDiff, Nat.reduceSub, Int32.reduceAdd, Int32.reduceSub, Int32.reduceMul, Int32.reduceToNatClampNeg, Int64.reduceAdd, Int64.reduceSub, Int64.reduceMul, Int64.reduceLT, Int32.reduceLT, Int32.reduceToInt, Nat.add_zero, Nat.zero_add, Nat.le_refl, eq_self, implies_true, ne_eq, g0, s0, g1, s1, g2, s2, g3, s3, g4, g5, g6, g7, g8, g9, g10, g11, g12, g13, g14, g15, g16, g17, g18, s18, g19, s19, g20, s20, g21, s21, g22, s22, g23, s23, ai1, aw1, ae1, as1, ai2, aw2, ae2, as2, ai3, aw3, ae3, as3, ai4, aw4, ain4, awn4, ae4, as4, ai5, aw5, ain5, awn5, ae5, as5, ai6, aw6, ae6, as6, ai7, aw7, ae7, as7, ai8, aw8, ae8, as8, ai9, aw9, ae9, as9, ai10, aw10, ain10, awn10, ae10, as10, ai11, aw11, ae11, as11, ai12, aw12, ae12, as12, ai13, aw13, ae13, as13, ai14, aw14, ae14, as14, h1, h3, t29 hE hb, tsS]
theorem slF_p (q : Nat) : ∀ (i c : Int32) (s : St), (sI s 0).toInt ≤ 128 → (sI s 19).toInt ≤ 16 → i.toInt = (sI s 0).toInt - q → 0 ≤ i.toInt → 0 ≤ c.toInt → c.toInt ≤ 16 → (∀ j, j < c.toNatClampNeg → 0 ≤ (sA s 11 j).toInt ∧ (sA s 11 j).toInt < 128) →
    (∀ x, sI (slF q i c s).2 x = sI s x) ∧ (∀ t u, t ≠ 11 → sA (slF q i c s).2 t u = sA s t u) ∧ 0 ≤ (slF q i c s).1.toInt ∧ (slF q i c s).1.toInt ≤ 16 ∧ ∀ j, j < (slF q i c s).1.toNatClampNeg → 0 ≤ (sA (slF q i c s).2 11 j).toInt ∧ (sA (slF q i c s).2 11 j).toInt < 128 := by
  induction q with
  | zero => intro i c s hn hc hi h0 hc0 hc1 hs; exact ⟨fun _ => rfl, fun _ _ _ => rfl, hc0, hc1, hs⟩
  | succ q ih =>
    intro i c s hn hc hi h0 hc0 hc1 hs
    have h2 : (i + 1).toInt = i.toInt + 1 := ia (by simp only [Int32.reduceToInt]; omega) (by simp only [Int32.reduceToInt]; omega)
    rw [slF]
    by_cases e1 : c < sI s 19
    · have hc2 : c.toInt < (sI s 19).toInt := lt32.mp e1
      have h6 : (c + 1).toInt = c.toInt + 1 := ia (by simp only [Int32.reduceToInt]; omega) (by simp only [Int32.reduceToInt]; omega)
      rw [if_pos e1]
      by_cases e2 : sA s 5 i.toNatClampNeg = 0
      · rw [if_pos e2]; exact ih (i + 1) c s hn hc (by omega) (by omega) hc0 hc1 hs
      · rw [if_neg e2]
        obtain ⟨r1, r2, r3, r4, r5⟩ := ih (i + 1) (c + 1) (uA s 11 c.toNatClampNeg i) (by rw [sI_uA]; exact hn) (by rw [sI_uA]; exact hc) (by rw [sI_uA]; omega) (by omega) (by omega) (by omega) (fun j hj => by
          rw [sA_uA]
          by_cases ej : j = c.toNatClampNeg
          · rw [if_pos ⟨rfl, ej⟩]; omega
          · rw [if_neg (fun u => ej u.2)]; exact hs j (by rw [cln] at *; omega))
        exact ⟨fun x => by rw [r1, sI_uA], fun t u ht => by rw [r2 t u ht, sA_uA, if_neg (fun w => ht w.1)], r3, r4, r5⟩
    · rw [if_neg e1]; exact ⟨fun _ => rfl, fun _ _ _ => rfl, hc0, hc1, hs⟩
def teS (s : St) : St := itF tsS (slF (sI s 0).toInt.toNat 0 0 s).1.toNatClampNeg 0 (slF (sI s 0).toInt.toNat 0 0 s).2
theorem t28 (hE : EOk s) (hc : (sI s 19).toInt ≤ 16) : Cl (pj lw) 28 [.ref p] (ob H p s) Q ↔ Q none (ob H p (teS s)) := by
  obtain ⟨r1, r2, r3, r4, r5⟩ := slF_p (sI s 0).toInt.toNat 0 0 s hE.1.2 hc (by simp only [Int32.reduceToInt]; have := hE.1; omega) (by decide) (by decide) (by decide) (fun j hj => absurd hj (by simp only [Int32.reduceToNatClampNeg]; omega))
  have hE2 : EOk (slF (sI s 0).toInt.toNat 0 0 s).2 := hE.of (r1 0) (r1 18) (fun k => r2 12 k (by decide)) (fun k => r2 13 k (by decide))
  rw [c28]; simp +decide only [w28_0, w28_1, w28_2, w28_3, w28_5, w28_6, w28_9, w28_12, w28_13, w28_14, w28_17, w28_20, w28_21, w28_24, w28_25, w28_26, w28_29, w28_30, w28_33, w28_34, w28_35, w28_36, w28_39, w28_42, w28_45, w28_46i, w28_48, w28_49, w28_52, w28_53, w28_54, w28_57, w28_58, w28_59, w28_62, w28_65, w28_68, zr_z0, zr_uI, zr_uJ, isO_put, isOw_put, put_fst, okv_int, okv_long, okv_ref, okv_bool, okv_byte, cat1_unset, cat1_int, cat1_ref, cs_nil, cs_int, cs_ref, cs_long, cmpL_lt, cmpL_gt, cmpL_eq, sI_uI, sI_uJ, sI_uA, sI_uB, sJ_uI, sJ_uJ, sJ_uA, sJ_uB, sA_uI, sA_uJ, sA_uA, sA_uB, sB_uI, sB_uJ, sB_uA, sB_uB, sI_fA, sJ_fA, sA_fA, sB_fA, sI_z0, sJ_z0, sA_z0, sB_z0, Option.toList_some, Option.toList_none, List.cons_append, List.nil_append, true_and, and_true, false_and, and_false, or_false, false_or, or_true, true_or, not_true_eq_false, not_false_eq_true, ↓reduceIte, Nat.reduceAdd, Nat.reduceLeDiff, Nat.reduceEqDiff, Nat.reduceSub, Int32.reduceAdd, Int32.reduceSub, Int32.reduceMul, Int32.reduceToNatClampNeg, Int64.reduceAdd, Int64.reduceSub, Int64.reduceMul, Int64.reduceLT, Int32.reduceLT, Int32.reduceToInt, Nat.add_zero, Nat.zero_add, Nat.le_refl, eq_self, implies_true, ne_eq]
  rw [l28 (sI s 0).toInt.toNat 0 0 s hE.1.2 hc (by simp only [Int32.reduceToInt]; have := hE.1; omega) (by decide) (by decide)]
  rw [m28 (slF (sI s 0).toInt.toNat 0 0 s).1.toNatClampNeg 0 _ hE2 r5 (by omega) (by rw [cln]; simp only [Int32.reduceToInt]; omega) (by decide)]
  simp only [Int32.reduceToNatClampNeg, teS]
def Iv (s : St) : Prop := EOk s ∧ (0 ≤ (sI s 19).toInt ∧ (sI s 19).toInt ≤ 16)
theorem Iv.of {s s' : St} (h : Iv s) (h0 : sI s' 0 = sI s 0) (h18 : sI s' 18 = sI s 18) (h19 : sI s' 19 = sI s 19) (h12 : ∀ k, sA s' 12 k = sA s 12 k) (h13 : ∀ k, sA s' 13 k = sA s 13 k) : Iv s' := ⟨h.1.of h0 h18 h12 h13, by rw [h19]; exact h.2⟩
theorem Iv_b (h : Iv s) : 0 ≤ (sI s 0).toInt ∧ (sI s 0).toInt ≤ 128 := ⟨by have := h.1.1; omega, h.1.1.2⟩
theorem snS_A {t u e : Nat} (ht : t ≠ 9 ∧ t ≠ 10) : sA (snS s e) t u = sA s t u := by simp only [snS, sA_uA, ht.1, ht.2, false_and, if_false]
theorem pgS_A {t u e : Nat} (ht : t ≠ 1 ∧ t ≠ 2) : sA (pgS s e) t u = sA s t u := by
  unfold pgS; (repeat' split) <;> simp only [sA_uA, ht.1, ht.2, false_and, if_false]
theorem qtS_A {t u e : Nat} (ht : t ≠ 3) : sA (qtS s e) t u = sA s t u := by
  unfold qtS; split <;> simp only [sA_uA, ht, false_and, if_false]
theorem Iv_sn (h : Iv s) (m e : Nat) : Iv (itF snS m e s) := itF_inv (fun s e h => h.of snS_I snS_I snS_I (fun k => snS_A (by decide)) (fun k => snS_A (by decide))) m e s h
theorem Iv_pg (h : Iv s) (m e : Nat) : Iv (itF pgS m e s) := itF_inv (fun s e h => h.of pgS_I pgS_I pgS_I (fun k => pgS_A (by decide)) (fun k => pgS_A (by decide))) m e s h
theorem Iv_qt (h : Iv s) (m e : Nat) : Iv (itF qtS m e s) := itF_inv (fun s e h => h.of qtS_I qtS_I qtS_I (fun k => qtS_A (by decide)) (fun k => qtS_A (by decide))) m e s h
theorem Iv_tr : ∀ (m e : Nat) (s : St), Iv s → Iv (trF m e s)
  | 0, _, _, h => h
  | m + 1, e, s, h => Iv_tr m (e + 1) (trS s e) (h.of (trS_I (by decide)) (trS_I (by decide)) (trS_I (by decide)) (fun k => trS_A (by decide)) (fun k => trS_A (by decide)))
theorem Iv_te (h : Iv s) : Iv (teS s) := by
  obtain ⟨r1, r2, -⟩ := slF_p (sI s 0).toInt.toNat 0 0 s h.1.1.2 h.2.2 (by simp only [Int32.reduceToInt]; have := h.1.1; omega) (by decide) (by decide) (by decide) (fun j hj => absurd hj (by simp only [Int32.reduceToNatClampNeg]; omega))
  exact itF_inv (fun s e h => h.of (tsS_I (by decide)) (tsS_I (by decide)) (tsS_I (by decide)) (fun k => tsS_A (by decide)) (fun k => tsS_A (by decide))) _ _ _ (h.of (r1 0) (r1 18) (r1 19) (fun k => r2 12 k (by decide)) (fun k => r2 13 k (by decide)))
def d1 (s : St) : St := itF snS (sI s 0).toInt.toNat 0 s
def d2 (s : St) : St := trF (sI (d1 s) 18).toInt.toNat 0 (d1 s)
def d3 (s : St) : St := itF pgS (sI (d2 s) 0).toInt.toNat 0 (d2 s)
def d4 (s : St) : St := itF qtS (sI (d3 s) 0).toInt.toNat 0 (d3 s)
theorem Iv_d1 (h : Iv s) : Iv (d1 s) := Iv_sn h _ _
theorem Iv_d2 (h : Iv s) : Iv (d2 s) := Iv_tr _ _ _ (Iv_d1 h)
theorem Iv_d3 (h : Iv s) : Iv (d3 s) := Iv_pg (Iv_d2 h) _ _
theorem Iv_d4 (h : Iv s) : Iv (d4 s) := Iv_qt (Iv_d3 h) _ _
theorem t22d (h : Iv s) : Cl (pj lw) 22 [.ref p] (ob H p s) Q ↔ Q none (ob H p (d1 s)) := t22 (Iv_b h)
theorem t24d (h : Iv s) : Cl (pj lw) 24 [.ref p] (ob H p (d1 s)) Q ↔ Q none (ob H p (d2 s)) := t24 (Iv_d1 h).1
theorem t26d (h : Iv s) : Cl (pj lw) 26 [.ref p] (ob H p (d2 s)) Q ↔ Q none (ob H p (d3 s)) := t26 (Iv_b (Iv_d2 h))
theorem t27d (h : Iv s) : Cl (pj lw) 27 [.ref p] (ob H p (d3 s)) Q ↔ Q none (ob H p (d4 s)) := t27 (Iv_b (Iv_d3 h))
def dayS (s : St) : St := uI (teS (d4 s)) 22 (sI (teS (d4 s)) 22 + 1)
theorem Iv_day (h : Iv s) : Iv (dayS s) := by
  unfold dayS
  exact (Iv_te (Iv_d4 h)).of (by simp +decide only [sI_uI, ↓reduceIte]) (by simp +decide only [sI_uI, ↓reduceIte]) (by simp +decide only [sI_uI, ↓reduceIte]) (fun k => by rw [sA_uI]) (fun k => by rw [sA_uI])
theorem t28d (h : Iv s) : Cl (pj lw) 28 [.ref p] (ob H p (d4 s)) Q ↔ Q none (ob H p (teS (d4 s))) := t28 (Iv_d4 h).1 (Iv_d4 h).2.2
theorem t21 (h : Iv s) : Cl (pj lw) 21 [.ref p] (ob H p s) Q ↔ Q none (ob H p (dayS s)) := by
  rw [c21]
  simp +decide only [w21_0, w21_1, w21_4, w21_5, w21_8, w21_9, w21_12, w21_13, w21_16, w21_17, w21_20, w21_21, w21_22, w21_25, w21_26, w21_27, w21_30, zr_z0, zr_uI, zr_uJ, isO_put, isOw_put, put_fst, okv_int, okv_long, okv_ref, okv_bool, okv_byte, cat1_unset, cat1_int, cat1_ref, cs_nil, cs_int, cs_ref, cs_long, cmpL_lt, cmpL_gt, cmpL_eq, sI_uI, sI_uJ, sI_uA, sI_uB, sJ_uI, sJ_uJ, sJ_uA, sJ_uB, sA_uI, sA_uJ, sA_uA, sA_uB, sB_uI, sB_uJ, sB_uA, sB_uB, sI_fA, sJ_fA, sA_fA, sB_fA, sI_z0, sJ_z0, sA_z0, sB_z0, Option.toList_some, Option.toList_none, List.cons_append, List.nil_append, true_and, and_true, false_and, and_false, or_false, false_or, or_true, true_or, not_true_eq_false, not_false_eq_true, ↓reduceIte, Nat.reduceAdd, Nat.reduceLeDiff, Nat.reduceEqDiff, Nat.reduceSub, Int32.reduceAdd, Int32.reduceSub, Int32.reduceMul, Int32.reduceToNatClampNeg, Int64.reduceAdd, Int64.reduceSub, Int64.reduceMul, Int64.reduceLT, Int32.reduceLT, Int32.reduceToInt, Nat.add_zero, Nat.zero_add, Nat.le_refl, eq_self, implies_true, ne_eq, g0, s0, g1, s1, g2, s2, g3, s3, g4, g5, g6, g7, g8, g9, g10, g11, g12, g13, g14, g15, g16, g17, g18, s18, g19, s19, g20, s20, g21, s21, g22, s22, g23, s23, ai1, aw1, ae1, as1, ai2, aw2, ae2, as2, ai3, aw3, ae3, as3, ai4, aw4, ain4, awn4, ae4, as4, ai5, aw5, ain5, awn5, ae5, as5, ai6, aw6, ae6, as6, ai7, aw7, ae7, as7, ai8, aw8, ae8, as8, ai9, aw9, ae9, as9, ai10, aw10, ain10, awn10, ae10, as10, ai11, aw11, ae11, as11, ai12, aw12, ae12, as12, ai13, aw13, ae13, as13, ai14, aw14, ae14, as14, t22d h, t24d h, t26d h, t27d h, t28d h, dayS]
end B

section C
variable {lw : LW} {H : AH} {p j : Nat} {s : St} {Q : Option Value → AH → Prop} {a b c d : Int32} {h : Nat → Cel} {k n : Nat}
def runF : Nat → St → St
  | 0, s => s
  | m + 1, s => runF m (dayS s)
theorem Iv_run : ∀ (m : Nat) (s : St), Iv s → Iv (runF m s)
  | 0, _, h => h
  | m + 1, s, h => Iv_run m (dayS s) (Iv_day h)
theorem l7 {e f : Int32} (q : Nat) : ∀ (i : Int32) (s : St), Iv s → i.toInt = e.toInt - q → 0 ≤ i.toInt → e.toInt ≤ 8 →
    (W (pj lw) 7 11 [.val (.ref p), .val (.int f), .val (.int e), .val (.int i)] [] k n (ob H p s) Q ↔ Q (some (.int (sI (runF q s) 22))) (ob H p (runF q s))) := by
  induction q with
  | zero =>
    intro i s hI hi h0 h8
    have h1 : ¬ i < e := by rw [lt32]; omega
    rw [w7_11]; simp +decide only [w7_0, w7_1, w7_2, w7_3, w7_5, w7_8, w7_9, w7_10, w7_12, w7_13, w7_16, w7_17, w7_20, w7_23, w7_26, w7_27, w7_30, zr_z0, zr_uI, zr_uJ, isO_put, isOw_put, put_fst, okv_int, okv_long, okv_ref, okv_bool, okv_byte, cat1_unset, cat1_int, cat1_ref, cs_nil, cs_int, cs_ref, cs_long, cmpL_lt, cmpL_gt, cmpL_eq, sI_uI, sI_uJ, sI_uA, sI_uB, sJ_uI, sJ_uJ, sJ_uA, sJ_uB, sA_uI, sA_uJ, sA_uA, sA_uB, sB_uI, sB_uJ, sB_uA, sB_uB, sI_fA, sJ_fA, sA_fA, sB_fA, sI_z0, sJ_z0, sA_z0, sB_z0, Option.toList_some, Option.toList_none, List.cons_append, List.nil_append, true_and, and_true, false_and, and_false, or_false, false_or, or_true, true_or, not_true_eq_false, not_false_eq_true, ↓reduceIte, Nat.reduceAdd, Nat.reduceLeDiff, Nat.reduceEqDiff, Nat.reduceSub, Int32.reduceAdd, Int32.reduceSub, Int32.reduceMul, Int32.reduceToNatClampNeg, Int64.reduceAdd, Int64.reduceSub, Int64.reduceMul, Int64.reduceLT, Int32.reduceLT, Int32.reduceToInt, Nat.add_zero, Nat.zero_add, Nat.le_refl, eq_self, implies_true, ne_eq, g0, s0, g1, s1, g2, s2, g3, s3, g4, g5, g6, g7, g8, g9, g10, g11, g12, g13, g14, g15, g16, g17, g18, s18, g19, s19, g20, s20, g21, s21, g22, s22, g23, s23, ai1, aw1, ae1, as1, ai2, aw2, ae2, as2, ai3, aw3, ae3, as3, ai4, aw4, ain4, awn4, ae4, as4, ai5, aw5, ain5, awn5, ae5, as5, ai6, aw6, ae6, as6, ai7, aw7, ae7, as7, ai8, aw8, ae8, as8, ai9, aw9, ae9, as9, ai10, aw10, ain10, awn10, ae10, as10, ai11, aw11, ae11, as11, ai12, aw12, ae12, as12, ai13, aw13, ae13, as13, ai14, aw14, ae14, as14, h1, runF]
  | succ q ih =>
    intro i s hI hi h0 h8
    have h1 : i < e := by rw [lt32]; omega
    have h2 : (i + 1).toInt = i.toInt + 1 := ia (by simp only [Int32.reduceToInt]; omega) (by simp only [Int32.reduceToInt]; omega)
    rw [w7_11]; simp +decide only [w7_0, w7_1, w7_2, w7_3, w7_5, w7_8, w7_9, w7_10, w7_12, w7_13, w7_16, w7_17, w7_20, w7_23, w7_26, w7_27, w7_30, zr_z0, zr_uI, zr_uJ, isO_put, isOw_put, put_fst, okv_int, okv_long, okv_ref, okv_bool, okv_byte, cat1_unset, cat1_int, cat1_ref, cs_nil, cs_int, cs_ref, cs_long, cmpL_lt, cmpL_gt, cmpL_eq, sI_uI, sI_uJ, sI_uA, sI_uB, sJ_uI, sJ_uJ, sJ_uA, sJ_uB, sA_uI, sA_uJ, sA_uA, sA_uB, sB_uI, sB_uJ, sB_uA, sB_uB, sI_fA, sJ_fA, sA_fA, sB_fA, sI_z0, sJ_z0, sA_z0, sB_z0, Option.toList_some, Option.toList_none, List.cons_append, List.nil_append, true_and, and_true, false_and, and_false, or_false, false_or, or_true, true_or, not_true_eq_false, not_false_eq_true, ↓reduceIte, Nat.reduceAdd, Nat.reduceLeDiff, Nat.reduceEqDiff, Nat.reduceSub, Int32.reduceAdd, Int32.reduceSub, Int32.reduceMul, Int32.reduceToNatClampNeg, Int64.reduceAdd, Int64.reduceSub, Int64.reduceMul, Int64.reduceLT, Int32.reduceLT, Int32.reduceToInt, Nat.add_zero, Nat.zero_add, Nat.le_refl, eq_self, implies_true, ne_eq, g0, s0, g1, s1, g2, s2, g3, s3, g4, g5, g6, g7, g8, g9, g10, g11, g12, g13, g14, g15, g16, g17, g18, s18, g19, s19, g20, s20, g21, s21, g22, s22, g23, s23, ai1, aw1, ae1, as1, ai2, aw2, ae2, as2, ai3, aw3, ae3, as3, ai4, aw4, ain4, awn4, ae4, as4, ai5, aw5, ain5, awn5, ae5, as5, ai6, aw6, ae6, as6, ai7, aw7, ae7, as7, ai8, aw8, ae8, as8, ai9, aw9, ae9, as9, ai10, aw10, ain10, awn10, ae10, as10, ai11, aw11, ae11, as11, ai12, aw12, ae12, as12, ai13, aw13, ae13, as13, ai14, aw14, ae14, as14, h1, t21 hI]
    rw [ih (i + 1) _ (Iv_day hI) (by omega) (by omega) h8, runF]
theorem t7 (hI : Iv s) : Cl (pj lw) 7 [.ref p, .int a] (ob H p s) Q ↔ Q (some (.int (sI (runF (cl 0 8 a).toInt.toNat s) 22))) (ob H p (runF (cl 0 8 a).toInt.toNat s)) := by
  rw [c7]; simp +decide only [w7_0, w7_1, w7_2, w7_3, w7_5, w7_8, w7_9, w7_10, w7_12, w7_13, w7_16, w7_17, w7_20, w7_23, w7_26, w7_27, w7_30, zr_z0, zr_uI, zr_uJ, isO_put, isOw_put, put_fst, okv_int, okv_long, okv_ref, okv_bool, okv_byte, cat1_unset, cat1_int, cat1_ref, cs_nil, cs_int, cs_ref, cs_long, cmpL_lt, cmpL_gt, cmpL_eq, sI_uI, sI_uJ, sI_uA, sI_uB, sJ_uI, sJ_uJ, sJ_uA, sJ_uB, sA_uI, sA_uJ, sA_uA, sA_uB, sB_uI, sB_uJ, sB_uA, sB_uB, sI_fA, sJ_fA, sA_fA, sB_fA, sI_z0, sJ_z0, sA_z0, sB_z0, Option.toList_some, Option.toList_none, List.cons_append, List.nil_append, true_and, and_true, false_and, and_false, or_false, false_or, or_true, true_or, not_true_eq_false, not_false_eq_true, ↓reduceIte, Nat.reduceAdd, Nat.reduceLeDiff, Nat.reduceEqDiff, Nat.reduceSub, Int32.reduceAdd, Int32.reduceSub, Int32.reduceMul, Int32.reduceToNatClampNeg, Int64.reduceAdd, Int64.reduceSub, Int64.reduceMul, Int64.reduceLT, Int32.reduceLT, Int32.reduceToInt, Nat.add_zero, Nat.zero_add, Nat.le_refl, eq_self, implies_true, ne_eq, g0, s0, g1, s1, g2, s2, g3, s3, g4, g5, g6, g7, g8, g9, g10, g11, g12, g13, g14, g15, g16, g17, g18, s18, g19, s19, g20, s20, g21, s21, g22, s22, g23, s23, ai1, aw1, ae1, as1, ai2, aw2, ae2, as2, ai3, aw3, ae3, as3, ai4, aw4, ain4, awn4, ae4, as4, ai5, aw5, ain5, awn5, ae5, as5, ai6, aw6, ae6, as6, ai7, aw7, ae7, as7, ai8, aw8, ae8, as8, ai9, aw9, ae9, as9, ai10, aw10, ain10, awn10, ae10, as10, ai11, aw11, ae11, as11, ai12, aw12, ae12, as12, ai13, aw13, ae13, as13, ai14, aw14, ae14, as14, t17]
  have hr := cl_rg (lo := 0) (hi := 8) a (by decide)
  simp only [Int32.reduceToInt] at hr
  rw [l7 (cl 0 8 a).toInt.toNat 0 s hI (by simp only [Int32.reduceToInt]; omega) (by decide) hr.2]
def exE (s : St) (a b : Int32) : Nat → Nat → Bool
  | 0, _ => false
  | q + 1, e => if (sA s 12 e = a ∧ sA s 13 e = b) ∨ (sA s 12 e = b ∧ sA s 13 e = a) then true else exE s a b q (e + 1)
def bz (x : Bool) : Int32 := if x = true then 1 else 0
theorem l20 (q : Nat) : ∀ (i : Int32), (sI s 18).toInt ≤ 256 → i.toInt = (sI s 18).toInt - q → 0 ≤ i.toInt → ∀ l4 l5 : Slot, (l4 = .unset ∧ l5 = .unset ∨ ∃ u v, l4 = .val (.int u) ∧ l5 = .val (.int v)) →
    (W (pj lw) 20 2 [.val (.ref p), .val (.int a), .val (.int b), .val (.int i), l4, l5] [] k n (ob H p s) Q ↔ Q (some (.int (bz (exE s a b q i.toNatClampNeg)))) (ob H p s)) := by
  induction q with
  | zero =>
    intro i hn hi h0 l4 l5 hl
    have h1 : ¬ i < sI s 18 := by rw [lt32]; omega
    rw [w20_2]; simp +decide only [w20_0, w20_1, w20_3, w20_4, w20_7, w20_10, w20_11, w20_14, w20_15, w20_16i, w20_16, w20_18, w20_19, w20_22, w20_23, w20_24i, w20_24, w20_26, w20_28, w20_29, w20_32, w20_34, w20_35, w20_38, w20_40, w20_41, w20_44, w20_46, w20_47, w20_50, w20_51, w20_52, w20_55, w20_58, w20_59, zr_z0, zr_uI, zr_uJ, isO_put, isOw_put, put_fst, okv_int, okv_long, okv_ref, okv_bool, okv_byte, cat1_unset, cat1_int, cat1_ref, cs_nil, cs_int, cs_ref, cs_long, cmpL_lt, cmpL_gt, cmpL_eq, sI_uI, sI_uJ, sI_uA, sI_uB, sJ_uI, sJ_uJ, sJ_uA, sJ_uB, sA_uI, sA_uJ, sA_uA, sA_uB, sB_uI, sB_uJ, sB_uA, sB_uB, sI_fA, sJ_fA, sA_fA, sB_fA, sI_z0, sJ_z0, sA_z0, sB_z0, Option.toList_some, Option.toList_none, List.cons_append, List.nil_append, true_and, and_true, false_and, and_false, or_false, false_or, or_true, true_or, not_true_eq_false, not_false_eq_true, ↓reduceIte, Nat.reduceAdd, Nat.reduceLeDiff, Nat.reduceEqDiff, Nat.reduceSub, Int32.reduceAdd, Int32.reduceSub, Int32.reduceMul, Int32.reduceToNatClampNeg, Int64.reduceAdd, Int64.reduceSub, Int64.reduceMul, Int64.reduceLT, Int32.reduceLT, Int32.reduceToInt, Nat.add_zero, Nat.zero_add, Nat.le_refl, eq_self, implies_true, ne_eq, g0, s0, g1, s1, g2, s2, g3, s3, g4, g5, g6, g7, g8, g9, g10, g11, g12, g13, g14, g15, g16, g17, g18, s18, g19, s19, g20, s20, g21, s21, g22, s22, g23, s23, ai1, aw1, ae1, as1, ai2, aw2, ae2, as2, ai3, aw3, ae3, as3, ai4, aw4, ain4, awn4, ae4, as4, ai5, aw5, ain5, awn5, ae5, as5, ai6, aw6, ae6, as6, ai7, aw7, ae7, as7, ai8, aw8, ae8, as8, ai9, aw9, ae9, as9, ai10, aw10, ain10, awn10, ae10, as10, ai11, aw11, ae11, as11, ai12, aw12, ae12, as12, ai13, aw13, ae13, as13, ai14, aw14, ae14, as14, h1, exE, bz]
  | succ q ih =>
    intro i hn hi h0 l4 l5 hl
    have h1 : i < sI s 18 := by rw [lt32]; omega
    have h2 : (i + 1).toInt = i.toInt + 1 := ia (by simp only [Int32.reduceToInt]; omega) (by simp only [Int32.reduceToInt]; omega)
    have h3 : 0 ≤ i.toInt ∧ i.toInt < 256 := by omega
    have h4 : (i + 1).toNatClampNeg = i.toNatClampNeg + 1 := by rw [cln, cln]; omega
    have key := ih (i + 1) hn (by omega) (by omega) (.val (.int (sA s 12 i.toNatClampNeg))) (.val (.int (sA s 13 i.toNatClampNeg))) (Or.inr ⟨_, _, rfl, rfl⟩)
    rw [h4] at key
    rw [exE, w20_2]
    rcases hl with ⟨rfl, rfl⟩ | ⟨u, v, rfl, rfl⟩
    all_goals
      rcases Classical.propComplete (sA s 12 i.toNatClampNeg = a) with e1 | e1 <;> rcases Classical.propComplete (sA s 13 i.toNatClampNeg = b) with e2 | e2 <;> rcases Classical.propComplete (sA s 12 i.toNatClampNeg = b) with e3 | e3 <;> rcases Classical.propComplete (sA s 13 i.toNatClampNeg = a) with e4 | e4 <;>
      simp +decide only [w20_0, w20_1, w20_3, w20_4, w20_7, w20_10, w20_11, w20_14, w20_15, w20_16i, w20_16, w20_18, w20_19, w20_22, w20_23, w20_24i, w20_24, w20_26, w20_28, w20_29, w20_32, w20_34, w20_35, w20_38, w20_40, w20_41, w20_44, w20_46, w20_47, w20_50, w20_51, w20_52, w20_55, w20_58, w20_59, zr_z0, zr_uI, zr_uJ, isO_put, isOw_put, put_fst, okv_int, okv_long, okv_ref, okv_bool, okv_byte, cat1_unset, cat1_int, cat1_ref, cs_nil, cs_int, cs_ref, cs_long, cmpL_lt, cmpL_gt, cmpL_eq, sI_uI, sI_uJ, sI_uA, sI_uB, sJ_uI, sJ_uJ, sJ_uA, sJ_uB, sA_uI, sA_uJ, sA_uA, sA_uB, sB_uI, sB_uJ, sB_uA, sB_uB, sI_fA, sJ_fA, sA_fA, sB_fA, sI_z0, sJ_z0, sA_z0, sB_z0, Option.toList_some, Option.toList_none, List.cons_append, List.nil_append, true_and, and_true, false_and, and_false, or_false, false_or, or_true, true_or, not_true_eq_false, not_false_eq_true, ↓reduceIte, Nat.reduceAdd, Nat.reduceLeDiff, Nat.reduceEqDiff, Nat.reduceSub, Int32.reduceAdd, Int32.reduceSub, Int32.reduceMul, Int32.reduceToNatClampNeg, Int64.reduceAdd, Int64.reduceSub, Int64.reduceMul, Int64.reduceLT, Int32.reduceLT, Int32.reduceToInt, Nat.add_zero, Nat.zero_add, Nat.le_refl, eq_self, implies_true, ne_eq, g0, s0, g1, s1, g2, s2, g3, s3, g4, g5, g6, g7, g8, g9, g10, g11, g12, g13, g14, g15, g16, g17, g18, s18, g19, s19, g20, s20, g21, s21, g22, s22, g23, s23, ai1, aw1, ae1, as1, ai2, aw2, ae2, as2, ai3, aw3, ae3, as3, ai4, aw4, ain4, awn4, ae4, as4, ai5, aw5, ain5, awn5, ae5, as5, ai6, aw6, ae6, as6, ai7, aw7, ae7, as7, ai8, aw8, ae8, as8, ai9, aw9, ae9, as9, ai10, aw10, ain10, awn10, ae10, as10, ai11, aw11, ae11, as11, ai12, aw12, ae12, as12, ai13, aw13, ae13, as13, ai14, aw14, ae14, as14, h1, h3, e1, e2, e3, e4, key, bz]
theorem t20 (hE : 0 ≤ (sI s 18).toInt ∧ (sI s 18).toInt ≤ 256) : Cl (pj lw) 20 [.ref p, .int a, .int b] (ob H p s) Q ↔ Q (some (.int (bz (exE s a b (sI s 18).toInt.toNat 0)))) (ob H p s) := by
  rw [c20]; simp +decide only [w20_0, w20_1, w20_3, w20_4, w20_7, w20_10, w20_11, w20_14, w20_15, w20_16i, w20_16, w20_18, w20_19, w20_22, w20_23, w20_24i, w20_24, w20_26, w20_28, w20_29, w20_32, w20_34, w20_35, w20_38, w20_40, w20_41, w20_44, w20_46, w20_47, w20_50, w20_51, w20_52, w20_55, w20_58, w20_59, zr_z0, zr_uI, zr_uJ, isO_put, isOw_put, put_fst, okv_int, okv_long, okv_ref, okv_bool, okv_byte, cat1_unset, cat1_int, cat1_ref, cs_nil, cs_int, cs_ref, cs_long, cmpL_lt, cmpL_gt, cmpL_eq, sI_uI, sI_uJ, sI_uA, sI_uB, sJ_uI, sJ_uJ, sJ_uA, sJ_uB, sA_uI, sA_uJ, sA_uA, sA_uB, sB_uI, sB_uJ, sB_uA, sB_uB, sI_fA, sJ_fA, sA_fA, sB_fA, sI_z0, sJ_z0, sA_z0, sB_z0, Option.toList_some, Option.toList_none, List.cons_append, List.nil_append, true_and, and_true, false_and, and_false, or_false, false_or, or_true, true_or, not_true_eq_false, not_false_eq_true, ↓reduceIte, Nat.reduceAdd, Nat.reduceLeDiff, Nat.reduceEqDiff, Nat.reduceSub, Int32.reduceAdd, Int32.reduceSub, Int32.reduceMul, Int32.reduceToNatClampNeg, Int64.reduceAdd, Int64.reduceSub, Int64.reduceMul, Int64.reduceLT, Int32.reduceLT, Int32.reduceToInt, Nat.add_zero, Nat.zero_add, Nat.le_refl, eq_self, implies_true, ne_eq]
  rw [l20 (sI s 18).toInt.toNat 0 hE.2 (by simp only [Int32.reduceToInt]; omega) (by decide) .unset .unset (Or.inl ⟨rfl, rfl⟩)]
  simp only [Int32.reduceToNatClampNeg]
theorem l31 {e : Int32} (m : Nat) : ∀ (j c : Int32), j.toInt = (sI s 0).toInt - m → 0 ≤ j.toInt → (sI s 0).toInt ≤ 128 → (W (pj lw) 31 4 [.val (.ref p), .val (.int e), .val (.int c), .val (.int j)] [] k n (ob H p s) Q ↔ Q (some (.int (c + Int32.ofNat (cnt (fun i => decide (sA s 1 i = e)) j.toNatClampNeg m)))) (ob H p s)) := by
  induction m with
  | zero =>
    intro j c hj h0 hn
    have h1 : ¬ j < sI s 0 := by rw [lt32]; omega
    rw [w31_4]; simp +decide only [w31_0, w31_1, w31_2, w31_3, w31_5, w31_6, w31_9, w31_12, w31_13, w31_16, w31_17, w31_18, w31_19, w31_22, w31_25, w31_28, w31_31, w31_32, zr_z0, zr_uI, zr_uJ, isO_put, isOw_put, put_fst, okv_int, okv_long, okv_ref, okv_bool, okv_byte, cat1_unset, cat1_int, cat1_ref, cs_nil, cs_int, cs_ref, cs_long, cmpL_lt, cmpL_gt, cmpL_eq, sI_uI, sI_uJ, sI_uA, sI_uB, sJ_uI, sJ_uJ, sJ_uA, sJ_uB, sA_uI, sA_uJ, sA_uA, sA_uB, sB_uI, sB_uJ, sB_uA, sB_uB, sI_fA, sJ_fA, sA_fA, sB_fA, sI_z0, sJ_z0, sA_z0, sB_z0, Option.toList_some, Option.toList_none, List.cons_append, List.nil_append, true_and, and_true, false_and, and_false, or_false, false_or, or_true, true_or, not_true_eq_false, not_false_eq_true, ↓reduceIte, Nat.reduceAdd, Nat.reduceLeDiff, Nat.reduceEqDiff, Nat.reduceSub, Int32.reduceAdd, Int32.reduceSub, Int32.reduceMul, Int32.reduceToNatClampNeg, Int64.reduceAdd, Int64.reduceSub, Int64.reduceMul, Int64.reduceLT, Int32.reduceLT, Int32.reduceToInt, Nat.add_zero, Nat.zero_add, Nat.le_refl, eq_self, implies_true, ne_eq, g0, s0, g1, s1, g2, s2, g3, s3, g4, g5, g6, g7, g8, g9, g10, g11, g12, g13, g14, g15, g16, g17, g18, s18, g19, s19, g20, s20, g21, s21, g22, s22, g23, s23, ai1, aw1, ae1, as1, ai2, aw2, ae2, as2, ai3, aw3, ae3, as3, ai4, aw4, ain4, awn4, ae4, as4, ai5, aw5, ain5, awn5, ae5, as5, ai6, aw6, ae6, as6, ai7, aw7, ae7, as7, ai8, aw8, ae8, as8, ai9, aw9, ae9, as9, ai10, aw10, ain10, awn10, ae10, as10, ai11, aw11, ae11, as11, ai12, aw12, ae12, as12, ai13, aw13, ae13, as13, ai14, aw14, ae14, as14, h1]
    rw [cnt, add_ofNat_zero]
  | succ m ih =>
    intro j c hj h0 hn
    have h1 : j < sI s 0 := by rw [lt32]; omega
    have h2 : (j + 1).toInt = j.toInt + 1 := ia (by simp only [Int32.reduceToInt]; omega) (by simp only [Int32.reduceToInt]; omega)
    have h3 : 0 ≤ j.toInt ∧ j.toInt < 128 := by omega
    have h4 : (j + 1).toNatClampNeg = j.toNatClampNeg + 1 := by rw [cln, cln]; omega
    rw [w31_4]
    rcases Classical.propComplete (sA s 1 j.toNatClampNeg = e) with h5 | h5
    · simp +decide only [w31_0, w31_1, w31_2, w31_3, w31_5, w31_6, w31_9, w31_12, w31_13, w31_16, w31_17, w31_18, w31_19, w31_22, w31_25, w31_28, w31_31, w31_32, zr_z0, zr_uI, zr_uJ, isO_put, isOw_put, put_fst, okv_int, okv_long, okv_ref, okv_bool, okv_byte, cat1_unset, cat1_int, cat1_ref, cs_nil, cs_int, cs_ref, cs_long, cmpL_lt, cmpL_gt, cmpL_eq, sI_uI, sI_uJ, sI_uA, sI_uB, sJ_uI, sJ_uJ, sJ_uA, sJ_uB, sA_uI, sA_uJ, sA_uA, sA_uB, sB_uI, sB_uJ, sB_uA, sB_uB, sI_fA, sJ_fA, sA_fA, sB_fA, sI_z0, sJ_z0, sA_z0, sB_z0, Option.toList_some, Option.toList_none, List.cons_append, List.nil_append, true_and, and_true, false_and, and_false, or_false, false_or, or_true, true_or, not_true_eq_false, not_false_eq_true, ↓reduceIte, Nat.reduceAdd, Nat.reduceLeDiff, Nat.reduceEqDiff, Nat.reduceSub, Int32.reduceAdd, Int32.reduceSub, Int32.reduceMul, Int32.reduceToNatClampNeg, Int64.reduceAdd, Int64.reduceSub, Int64.reduceMul, Int64.reduceLT, Int32.reduceLT, Int32.reduceToInt, Nat.add_zero, Nat.zero_add, Nat.le_refl, eq_self, implies_true, ne_eq, g0, s0, g1, s1, g2, s2, g3, s3, g4, g5, g6, g7, g8, g9, g10, g11, g12, g13, g14, g15, g16, g17, g18, s18, g19, s19, g20, s20, g21, s21, g22, s22, g23, s23, ai1, aw1, ae1, as1, ai2, aw2, ae2, as2, ai3, aw3, ae3, as3, ai4, aw4, ain4, awn4, ae4, as4, ai5, aw5, ain5, awn5, ae5, as5, ai6, aw6, ae6, as6, ai7, aw7, ae7, as7, ai8, aw8, ae8, as8, ai9, aw9, ae9, as9, ai10, aw10, ain10, awn10, ae10, as10, ai11, aw11, ae11, as11, ai12, aw12, ae12, as12, ai13, aw13, ae13, as13, ai14, aw14, ae14, as14, h1, h3, h5]
      rw [ih (j + 1) (c + 1) (by omega) (by omega) hn, h4, cnt, ofNat_one_add]
      simp [h5]
    · simp +decide only [w31_0, w31_1, w31_2, w31_3, w31_5, w31_6, w31_9, w31_12, w31_13, w31_16, w31_17, w31_18, w31_19, w31_22, w31_25, w31_28, w31_31, w31_32, zr_z0, zr_uI, zr_uJ, isO_put, isOw_put, put_fst, okv_int, okv_long, okv_ref, okv_bool, okv_byte, cat1_unset, cat1_int, cat1_ref, cs_nil, cs_int, cs_ref, cs_long, cmpL_lt, cmpL_gt, cmpL_eq, sI_uI, sI_uJ, sI_uA, sI_uB, sJ_uI, sJ_uJ, sJ_uA, sJ_uB, sA_uI, sA_uJ, sA_uA, sA_uB, sB_uI, sB_uJ, sB_uA, sB_uB, sI_fA, sJ_fA, sA_fA, sB_fA, sI_z0, sJ_z0, sA_z0, sB_z0, Option.toList_some, Option.toList_none, List.cons_append, List.nil_append, true_and, and_true, false_and, and_false, or_false, false_or, or_true, true_or, not_true_eq_false, not_false_eq_true, ↓reduceIte, Nat.reduceAdd, Nat.reduceLeDiff, Nat.reduceEqDiff, Nat.reduceSub, Int32.reduceAdd, Int32.reduceSub, Int32.reduceMul, Int32.reduceToNatClampNeg, Int64.reduceAdd, Int64.reduceSub, Int64.reduceMul, Int64.reduceLT, Int32.reduceLT, Int32.reduceToInt, Nat.add_zero, Nat.zero_add, Nat.le_refl, eq_self, implies_true, ne_eq, g0, s0, g1, s1, g2, s2, g3, s3, g4, g5, g6, g7, g8, g9, g10, g11, g12, g13, g14, g15, g16, g17, g18, s18, g19, s19, g20, s20, g21, s21, g22, s22, g23, s23, ai1, aw1, ae1, as1, ai2, aw2, ae2, as2, ai3, aw3, ae3, as3, ai4, aw4, ain4, awn4, ae4, as4, ai5, aw5, ain5, awn5, ae5, as5, ai6, aw6, ae6, as6, ai7, aw7, ae7, as7, ai8, aw8, ae8, as8, ai9, aw9, ae9, as9, ai10, aw10, ain10, awn10, ae10, as10, ai11, aw11, ae11, as11, ai12, aw12, ae12, as12, ai13, aw13, ae13, as13, ai14, aw14, ae14, as14, h1, h3, h5]
      rw [ih (j + 1) c (by omega) (by omega) hn, h4, cnt]
      simp [h5]
theorem t31 {e : Int32} (h0 : 0 ≤ (sI s 0).toInt ∧ (sI s 0).toInt ≤ 128) : Cl (pj lw) 31 [.ref p, .int e] (ob H p s) Q ↔ Q (some (.int (Int32.ofNat (cnt (fun i => decide (sA s 1 i = e)) 0 (sI s 0).toInt.toNat)))) (ob H p s) := by
  rw [c31]; simp +decide only [w31_0, w31_1, w31_2, w31_3, w31_5, w31_6, w31_9, w31_12, w31_13, w31_16, w31_17, w31_18, w31_19, w31_22, w31_25, w31_28, w31_31, w31_32, zr_z0, zr_uI, zr_uJ, isO_put, isOw_put, put_fst, okv_int, okv_long, okv_ref, okv_bool, okv_byte, cat1_unset, cat1_int, cat1_ref, cs_nil, cs_int, cs_ref, cs_long, cmpL_lt, cmpL_gt, cmpL_eq, sI_uI, sI_uJ, sI_uA, sI_uB, sJ_uI, sJ_uJ, sJ_uA, sJ_uB, sA_uI, sA_uJ, sA_uA, sA_uB, sB_uI, sB_uJ, sB_uA, sB_uB, sI_fA, sJ_fA, sA_fA, sB_fA, sI_z0, sJ_z0, sA_z0, sB_z0, Option.toList_some, Option.toList_none, List.cons_append, List.nil_append, true_and, and_true, false_and, and_false, or_false, false_or, or_true, true_or, not_true_eq_false, not_false_eq_true, ↓reduceIte, Nat.reduceAdd, Nat.reduceLeDiff, Nat.reduceEqDiff, Nat.reduceSub, Int32.reduceAdd, Int32.reduceSub, Int32.reduceMul, Int32.reduceToNatClampNeg, Int64.reduceAdd, Int64.reduceSub, Int64.reduceMul, Int64.reduceLT, Int32.reduceLT, Int32.reduceToInt, Nat.add_zero, Nat.zero_add, Nat.le_refl, eq_self, implies_true, ne_eq]
  rw [l31 (sI s 0).toInt.toNat 0 0 (by simp only [Int32.reduceToInt]; omega) (by decide) h0.2, Int32.zero_add]; rfl
theorem l32 (m : Nat) : ∀ (j c : Int32), j.toInt = (sI s 0).toInt - m → 0 ≤ j.toInt → (sI s 0).toInt ≤ 128 → (W (pj lw) 32 4 [.val (.ref p), .val (.int c), .val (.int j)] [] k n (ob H p s) Q ↔ Q (some (.int (c + Int32.ofNat (cnt (fun i => decide (0 < sA s 3 i)) j.toNatClampNeg m)))) (ob H p s)) := by
  induction m with
  | zero =>
    intro j c hj h0 hn
    have h1 : ¬ j < sI s 0 := by rw [lt32]; omega
    rw [w32_4]; simp +decide only [w32_0, w32_1, w32_2, w32_3, w32_5, w32_6, w32_9, w32_12, w32_13, w32_16, w32_17, w32_18, w32_21, w32_24, w32_27, w32_30, w32_31, zr_z0, zr_uI, zr_uJ, isO_put, isOw_put, put_fst, okv_int, okv_long, okv_ref, okv_bool, okv_byte, cat1_unset, cat1_int, cat1_ref, cs_nil, cs_int, cs_ref, cs_long, cmpL_lt, cmpL_gt, cmpL_eq, sI_uI, sI_uJ, sI_uA, sI_uB, sJ_uI, sJ_uJ, sJ_uA, sJ_uB, sA_uI, sA_uJ, sA_uA, sA_uB, sB_uI, sB_uJ, sB_uA, sB_uB, sI_fA, sJ_fA, sA_fA, sB_fA, sI_z0, sJ_z0, sA_z0, sB_z0, Option.toList_some, Option.toList_none, List.cons_append, List.nil_append, true_and, and_true, false_and, and_false, or_false, false_or, or_true, true_or, not_true_eq_false, not_false_eq_true, ↓reduceIte, Nat.reduceAdd, Nat.reduceLeDiff, Nat.reduceEqDiff, Nat.reduceSub, Int32.reduceAdd, Int32.reduceSub, Int32.reduceMul, Int32.reduceToNatClampNeg, Int64.reduceAdd, Int64.reduceSub, Int64.reduceMul, Int64.reduceLT, Int32.reduceLT, Int32.reduceToInt, Nat.add_zero, Nat.zero_add, Nat.le_refl, eq_self, implies_true, ne_eq, g0, s0, g1, s1, g2, s2, g3, s3, g4, g5, g6, g7, g8, g9, g10, g11, g12, g13, g14, g15, g16, g17, g18, s18, g19, s19, g20, s20, g21, s21, g22, s22, g23, s23, ai1, aw1, ae1, as1, ai2, aw2, ae2, as2, ai3, aw3, ae3, as3, ai4, aw4, ain4, awn4, ae4, as4, ai5, aw5, ain5, awn5, ae5, as5, ai6, aw6, ae6, as6, ai7, aw7, ae7, as7, ai8, aw8, ae8, as8, ai9, aw9, ae9, as9, ai10, aw10, ain10, awn10, ae10, as10, ai11, aw11, ae11, as11, ai12, aw12, ae12, as12, ai13, aw13, ae13, as13, ai14, aw14, ae14, as14, h1]
    rw [cnt, add_ofNat_zero]
  | succ m ih =>
    intro j c hj h0 hn
    have h1 : j < sI s 0 := by rw [lt32]; omega
    have h2 : (j + 1).toInt = j.toInt + 1 := ia (by simp only [Int32.reduceToInt]; omega) (by simp only [Int32.reduceToInt]; omega)
    have h3 : 0 ≤ j.toInt ∧ j.toInt < 128 := by omega
    have h4 : (j + 1).toNatClampNeg = j.toNatClampNeg + 1 := by rw [cln, cln]; omega
    rw [w32_4]
    rcases Classical.propComplete (0 < sA s 3 j.toNatClampNeg) with h5 | h5
    · simp +decide only [w32_0, w32_1, w32_2, w32_3, w32_5, w32_6, w32_9, w32_12, w32_13, w32_16, w32_17, w32_18, w32_21, w32_24, w32_27, w32_30, w32_31, zr_z0, zr_uI, zr_uJ, isO_put, isOw_put, put_fst, okv_int, okv_long, okv_ref, okv_bool, okv_byte, cat1_unset, cat1_int, cat1_ref, cs_nil, cs_int, cs_ref, cs_long, cmpL_lt, cmpL_gt, cmpL_eq, sI_uI, sI_uJ, sI_uA, sI_uB, sJ_uI, sJ_uJ, sJ_uA, sJ_uB, sA_uI, sA_uJ, sA_uA, sA_uB, sB_uI, sB_uJ, sB_uA, sB_uB, sI_fA, sJ_fA, sA_fA, sB_fA, sI_z0, sJ_z0, sA_z0, sB_z0, Option.toList_some, Option.toList_none, List.cons_append, List.nil_append, true_and, and_true, false_and, and_false, or_false, false_or, or_true, true_or, not_true_eq_false, not_false_eq_true, ↓reduceIte, Nat.reduceAdd, Nat.reduceLeDiff, Nat.reduceEqDiff, Nat.reduceSub, Int32.reduceAdd, Int32.reduceSub, Int32.reduceMul, Int32.reduceToNatClampNeg, Int64.reduceAdd, Int64.reduceSub, Int64.reduceMul, Int64.reduceLT, Int32.reduceLT, Int32.reduceToInt, Nat.add_zero, Nat.zero_add, Nat.le_refl, eq_self, implies_true, ne_eq, g0, s0, g1, s1, g2, s2, g3, s3, g4, g5, g6, g7, g8, g9, g10, g11, g12, g13, g14, g15, g16, g17, g18, s18, g19, s19, g20, s20, g21, s21, g22, s22, g23, s23, ai1, aw1, ae1, as1, ai2, aw2, ae2, as2, ai3, aw3, ae3, as3, ai4, aw4, ain4, awn4, ae4, as4, ai5, aw5, ain5, awn5, ae5, as5, ai6, aw6, ae6, as6, ai7, aw7, ae7, as7, ai8, aw8, ae8, as8, ai9, aw9, ae9, as9, ai10, aw10, ain10, awn10, ae10, as10, ai11, aw11, ae11, as11, ai12, aw12, ae12, as12, ai13, aw13, ae13, as13, ai14, aw14, ae14, as14, h1, h3, h5]
      rw [ih (j + 1) (c + 1) (by omega) (by omega) hn, h4, cnt, ofNat_one_add]
      simp [h5]
    · simp +decide only [w32_0, w32_1, w32_2, w32_3, w32_5, w32_6, w32_9, w32_12, w32_13, w32_16, w32_17, w32_18, w32_21, w32_24, w32_27, w32_30, w32_31, zr_z0, zr_uI, zr_uJ, isO_put, isOw_put, put_fst, okv_int, okv_long, okv_ref, okv_bool, okv_byte, cat1_unset, cat1_int, cat1_ref, cs_nil, cs_int, cs_ref, cs_long, cmpL_lt, cmpL_gt, cmpL_eq, sI_uI, sI_uJ, sI_uA, sI_uB, sJ_uI, sJ_uJ, sJ_uA, sJ_uB, sA_uI, sA_uJ, sA_uA, sA_uB, sB_uI, sB_uJ, sB_uA, sB_uB, sI_fA, sJ_fA, sA_fA, sB_fA, sI_z0, sJ_z0, sA_z0, sB_z0, Option.toList_some, Option.toList_none, List.cons_append, List.nil_append, true_and, and_true, false_and, and_false, or_false, false_or, or_true, true_or, not_true_eq_false, not_false_eq_true, ↓reduceIte, Nat.reduceAdd, Nat.reduceLeDiff, Nat.reduceEqDiff, Nat.reduceSub, Int32.reduceAdd, Int32.reduceSub, Int32.reduceMul, Int32.reduceToNatClampNeg, Int64.reduceAdd, Int64.reduceSub, Int64.reduceMul, Int64.reduceLT, Int32.reduceLT, Int32.reduceToInt, Nat.add_zero, Nat.zero_add, Nat.le_refl, eq_self, implies_true, ne_eq, g0, s0, g1, s1, g2, s2, g3, s3, g4, g5, g6, g7, g8, g9, g10, g11, g12, g13, g14, g15, g16, g17, g18, s18, g19, s19, g20, s20, g21, s21, g22, s22, g23, s23, ai1, aw1, ae1, as1, ai2, aw2, ae2, as2, ai3, aw3, ae3, as3, ai4, aw4, ain4, awn4, ae4, as4, ai5, aw5, ain5, awn5, ae5, as5, ai6, aw6, ae6, as6, ai7, aw7, ae7, as7, ai8, aw8, ae8, as8, ai9, aw9, ae9, as9, ai10, aw10, ain10, awn10, ae10, as10, ai11, aw11, ae11, as11, ai12, aw12, ae12, as12, ai13, aw13, ae13, as13, ai14, aw14, ae14, as14, h1, h3, h5]
      rw [ih (j + 1) c (by omega) (by omega) hn, h4, cnt]
      simp [h5]
theorem t32 (h0 : 0 ≤ (sI s 0).toInt ∧ (sI s 0).toInt ≤ 128) : Cl (pj lw) 32 [.ref p] (ob H p s) Q ↔ Q (some (.int (Int32.ofNat (cnt (fun i => decide (0 < sA s 3 i)) 0 (sI s 0).toInt.toNat)))) (ob H p s) := by
  rw [c32]; simp +decide only [w32_0, w32_1, w32_2, w32_3, w32_5, w32_6, w32_9, w32_12, w32_13, w32_16, w32_17, w32_18, w32_21, w32_24, w32_27, w32_30, w32_31, zr_z0, zr_uI, zr_uJ, isO_put, isOw_put, put_fst, okv_int, okv_long, okv_ref, okv_bool, okv_byte, cat1_unset, cat1_int, cat1_ref, cs_nil, cs_int, cs_ref, cs_long, cmpL_lt, cmpL_gt, cmpL_eq, sI_uI, sI_uJ, sI_uA, sI_uB, sJ_uI, sJ_uJ, sJ_uA, sJ_uB, sA_uI, sA_uJ, sA_uA, sA_uB, sB_uI, sB_uJ, sB_uA, sB_uB, sI_fA, sJ_fA, sA_fA, sB_fA, sI_z0, sJ_z0, sA_z0, sB_z0, Option.toList_some, Option.toList_none, List.cons_append, List.nil_append, true_and, and_true, false_and, and_false, or_false, false_or, or_true, true_or, not_true_eq_false, not_false_eq_true, ↓reduceIte, Nat.reduceAdd, Nat.reduceLeDiff, Nat.reduceEqDiff, Nat.reduceSub, Int32.reduceAdd, Int32.reduceSub, Int32.reduceMul, Int32.reduceToNatClampNeg, Int64.reduceAdd, Int64.reduceSub, Int64.reduceMul, Int64.reduceLT, Int32.reduceLT, Int32.reduceToInt, Nat.add_zero, Nat.zero_add, Nat.le_refl, eq_self, implies_true, ne_eq]
  rw [l32 (sI s 0).toInt.toNat 0 0 (by simp only [Int32.reduceToInt]; omega) (by decide) h0.2, Int32.zero_add]; rfl
theorem l33a (m : Nat) : ∀ (j c : Int32), j.toInt = (sI s 0).toInt - m → 0 ≤ j.toInt → (sI s 0).toInt ≤ 128 → ∀ l4 : Slot, (l4 = .unset ∨ ∃ v, l4 = .val (.int v)) → (W (pj lw) 33 4 [.val (.ref p), .val (.int 1), .val (.int c), .val (.int j), l4] [] k n (ob H p s) Q ↔ Q (some (.int (c + Int32.ofNat (cnt (fun i => decide (¬ sA s 4 i = 0)) j.toNatClampNeg m)))) (ob H p s)) := by
  induction m with
  | zero =>
    intro j c hj h0 hn l4 hl
    have h1 : ¬ j < sI s 0 := by rw [lt32]; omega
    rw [w33_4]; simp +decide only [w33_0, w33_1, w33_2, w33_3, w33_5, w33_6, w33_9, w33_12, w33_13, w33_16, w33_17, w33_20, w33_21, w33_22, w33_25, w33_26, w33_29, w33_30, w33_31i, w33_31, w33_33, w33_35, w33_38, w33_41, w33_44, w33_47, w33_48, zr_z0, zr_uI, zr_uJ, isO_put, isOw_put, put_fst, okv_int, okv_long, okv_ref, okv_bool, okv_byte, cat1_unset, cat1_int, cat1_ref, cs_nil, cs_int, cs_ref, cs_long, cmpL_lt, cmpL_gt, cmpL_eq, sI_uI, sI_uJ, sI_uA, sI_uB, sJ_uI, sJ_uJ, sJ_uA, sJ_uB, sA_uI, sA_uJ, sA_uA, sA_uB, sB_uI, sB_uJ, sB_uA, sB_uB, sI_fA, sJ_fA, sA_fA, sB_fA, sI_z0, sJ_z0, sA_z0, sB_z0, Option.toList_some, Option.toList_none, List.cons_append, List.nil_append, true_and, and_true, false_and, and_false, or_false, false_or, or_true, true_or, not_true_eq_false, not_false_eq_true, ↓reduceIte, Nat.reduceAdd, Nat.reduceLeDiff, Nat.reduceEqDiff, Nat.reduceSub, Int32.reduceAdd, Int32.reduceSub, Int32.reduceMul, Int32.reduceToNatClampNeg, Int64.reduceAdd, Int64.reduceSub, Int64.reduceMul, Int64.reduceLT, Int32.reduceLT, Int32.reduceToInt, Nat.add_zero, Nat.zero_add, Nat.le_refl, eq_self, implies_true, ne_eq, g0, s0, g1, s1, g2, s2, g3, s3, g4, g5, g6, g7, g8, g9, g10, g11, g12, g13, g14, g15, g16, g17, g18, s18, g19, s19, g20, s20, g21, s21, g22, s22, g23, s23, ai1, aw1, ae1, as1, ai2, aw2, ae2, as2, ai3, aw3, ae3, as3, ai4, aw4, ain4, awn4, ae4, as4, ai5, aw5, ain5, awn5, ae5, as5, ai6, aw6, ae6, as6, ai7, aw7, ae7, as7, ai8, aw8, ae8, as8, ai9, aw9, ae9, as9, ai10, aw10, ain10, awn10, ae10, as10, ai11, aw11, ae11, as11, ai12, aw12, ae12, as12, ai13, aw13, ae13, as13, ai14, aw14, ae14, as14, h1]
    rw [cnt, add_ofNat_zero]
  | succ m ih =>
    intro j c hj h0 hn l4 hl
    have h1 : j < sI s 0 := by rw [lt32]; omega
    have h2 : (j + 1).toInt = j.toInt + 1 := ia (by simp only [Int32.reduceToInt]; omega) (by simp only [Int32.reduceToInt]; omega)
    have h3 : 0 ≤ j.toInt ∧ j.toInt < 128 := by omega
    have h4 : (j + 1).toNatClampNeg = j.toNatClampNeg + 1 := by rw [cln, cln]; omega
    rw [w33_4]
    rcases hl with rfl | ⟨v, rfl⟩
    all_goals
      rcases Classical.propComplete (sA s 4 j.toNatClampNeg = 0) with h5 | h5
      · simp +decide only [w33_0, w33_1, w33_2, w33_3, w33_5, w33_6, w33_9, w33_12, w33_13, w33_16, w33_17, w33_20, w33_21, w33_22, w33_25, w33_26, w33_29, w33_30, w33_31i, w33_31, w33_33, w33_35, w33_38, w33_41, w33_44, w33_47, w33_48, zr_z0, zr_uI, zr_uJ, isO_put, isOw_put, put_fst, okv_int, okv_long, okv_ref, okv_bool, okv_byte, cat1_unset, cat1_int, cat1_ref, cs_nil, cs_int, cs_ref, cs_long, cmpL_lt, cmpL_gt, cmpL_eq, sI_uI, sI_uJ, sI_uA, sI_uB, sJ_uI, sJ_uJ, sJ_uA, sJ_uB, sA_uI, sA_uJ, sA_uA, sA_uB, sB_uI, sB_uJ, sB_uA, sB_uB, sI_fA, sJ_fA, sA_fA, sB_fA, sI_z0, sJ_z0, sA_z0, sB_z0, Option.toList_some, Option.toList_none, List.cons_append, List.nil_append, true_and, and_true, false_and, and_false, or_false, false_or, or_true, true_or, not_true_eq_false, not_false_eq_true, ↓reduceIte, Nat.reduceAdd, Nat.reduceLeDiff, Nat.reduceEqDiff, Nat.reduceSub, Int32.reduceAdd, Int32.reduceSub, Int32.reduceMul, Int32.reduceToNatClampNeg, Int64.reduceAdd, Int64.reduceSub, Int64.reduceMul, Int64.reduceLT, Int32.reduceLT, Int32.reduceToInt, Nat.add_zero, Nat.zero_add, Nat.le_refl, eq_self, implies_true, ne_eq, g0, s0, g1, s1, g2, s2, g3, s3, g4, g5, g6, g7, g8, g9, g10, g11, g12, g13, g14, g15, g16, g17, g18, s18, g19, s19, g20, s20, g21, s21, g22, s22, g23, s23, ai1, aw1, ae1, as1, ai2, aw2, ae2, as2, ai3, aw3, ae3, as3, ai4, aw4, ain4, awn4, ae4, as4, ai5, aw5, ain5, awn5, ae5, as5, ai6, aw6, ae6, as6, ai7, aw7, ae7, as7, ai8, aw8, ae8, as8, ai9, aw9, ae9, as9, ai10, aw10, ain10, awn10, ae10, as10, ai11, aw11, ae11, as11, ai12, aw12, ae12, as12, ai13, aw13, ae13, as13, ai14, aw14, ae14, as14, ain4, h1, h3, h5]
        rw [ih (j + 1) c (by omega) (by omega) hn (.val (.int _)) (Or.inr ⟨_, rfl⟩), h4, cnt]
        simp [h5]
      · simp +decide only [w33_0, w33_1, w33_2, w33_3, w33_5, w33_6, w33_9, w33_12, w33_13, w33_16, w33_17, w33_20, w33_21, w33_22, w33_25, w33_26, w33_29, w33_30, w33_31i, w33_31, w33_33, w33_35, w33_38, w33_41, w33_44, w33_47, w33_48, zr_z0, zr_uI, zr_uJ, isO_put, isOw_put, put_fst, okv_int, okv_long, okv_ref, okv_bool, okv_byte, cat1_unset, cat1_int, cat1_ref, cs_nil, cs_int, cs_ref, cs_long, cmpL_lt, cmpL_gt, cmpL_eq, sI_uI, sI_uJ, sI_uA, sI_uB, sJ_uI, sJ_uJ, sJ_uA, sJ_uB, sA_uI, sA_uJ, sA_uA, sA_uB, sB_uI, sB_uJ, sB_uA, sB_uB, sI_fA, sJ_fA, sA_fA, sB_fA, sI_z0, sJ_z0, sA_z0, sB_z0, Option.toList_some, Option.toList_none, List.cons_append, List.nil_append, true_and, and_true, false_and, and_false, or_false, false_or, or_true, true_or, not_true_eq_false, not_false_eq_true, ↓reduceIte, Nat.reduceAdd, Nat.reduceLeDiff, Nat.reduceEqDiff, Nat.reduceSub, Int32.reduceAdd, Int32.reduceSub, Int32.reduceMul, Int32.reduceToNatClampNeg, Int64.reduceAdd, Int64.reduceSub, Int64.reduceMul, Int64.reduceLT, Int32.reduceLT, Int32.reduceToInt, Nat.add_zero, Nat.zero_add, Nat.le_refl, eq_self, implies_true, ne_eq, g0, s0, g1, s1, g2, s2, g3, s3, g4, g5, g6, g7, g8, g9, g10, g11, g12, g13, g14, g15, g16, g17, g18, s18, g19, s19, g20, s20, g21, s21, g22, s22, g23, s23, ai1, aw1, ae1, as1, ai2, aw2, ae2, as2, ai3, aw3, ae3, as3, ai4, aw4, ain4, awn4, ae4, as4, ai5, aw5, ain5, awn5, ae5, as5, ai6, aw6, ae6, as6, ai7, aw7, ae7, as7, ai8, aw8, ae8, as8, ai9, aw9, ae9, as9, ai10, aw10, ain10, awn10, ae10, as10, ai11, aw11, ae11, as11, ai12, aw12, ae12, as12, ai13, aw13, ae13, as13, ai14, aw14, ae14, as14, ain4, h1, h3, h5]
        rw [ih (j + 1) (c + 1) (by omega) (by omega) hn (.val (.int _)) (Or.inr ⟨_, rfl⟩), h4, cnt, ofNat_one_add]
        simp [h5]
theorem t33a (h0 : 0 ≤ (sI s 0).toInt ∧ (sI s 0).toInt ≤ 128) : Cl (pj lw) 33 [.ref p, .int 1] (ob H p s) Q ↔ Q (some (.int (Int32.ofNat (cnt (fun i => decide (¬ sA s 4 i = 0)) 0 (sI s 0).toInt.toNat)))) (ob H p s) := by
  rw [c33]; simp +decide only [w33_0, w33_1, w33_2, w33_3, w33_5, w33_6, w33_9, w33_12, w33_13, w33_16, w33_17, w33_20, w33_21, w33_22, w33_25, w33_26, w33_29, w33_30, w33_31i, w33_31, w33_33, w33_35, w33_38, w33_41, w33_44, w33_47, w33_48, zr_z0, zr_uI, zr_uJ, isO_put, isOw_put, put_fst, okv_int, okv_long, okv_ref, okv_bool, okv_byte, cat1_unset, cat1_int, cat1_ref, cs_nil, cs_int, cs_ref, cs_long, cmpL_lt, cmpL_gt, cmpL_eq, sI_uI, sI_uJ, sI_uA, sI_uB, sJ_uI, sJ_uJ, sJ_uA, sJ_uB, sA_uI, sA_uJ, sA_uA, sA_uB, sB_uI, sB_uJ, sB_uA, sB_uB, sI_fA, sJ_fA, sA_fA, sB_fA, sI_z0, sJ_z0, sA_z0, sB_z0, Option.toList_some, Option.toList_none, List.cons_append, List.nil_append, true_and, and_true, false_and, and_false, or_false, false_or, or_true, true_or, not_true_eq_false, not_false_eq_true, ↓reduceIte, Nat.reduceAdd, Nat.reduceLeDiff, Nat.reduceEqDiff, Nat.reduceSub, Int32.reduceAdd, Int32.reduceSub, Int32.reduceMul, Int32.reduceToNatClampNeg, Int64.reduceAdd, Int64.reduceSub, Int64.reduceMul, Int64.reduceLT, Int32.reduceLT, Int32.reduceToInt, Nat.add_zero, Nat.zero_add, Nat.le_refl, eq_self, implies_true, ne_eq]
  rw [l33a (sI s 0).toInt.toNat 0 0 (by simp only [Int32.reduceToInt]; omega) (by decide) h0.2 .unset (Or.inl rfl), Int32.zero_add]; rfl
theorem l33b (m : Nat) : ∀ (j c : Int32), j.toInt = (sI s 0).toInt - m → 0 ≤ j.toInt → (sI s 0).toInt ≤ 128 → ∀ l4 : Slot, (l4 = .unset ∨ ∃ v, l4 = .val (.int v)) → (W (pj lw) 33 4 [.val (.ref p), .val (.int 0), .val (.int c), .val (.int j), l4] [] k n (ob H p s) Q ↔ Q (some (.int (c + Int32.ofNat (cnt (fun i => decide (¬ sA s 5 i = 0)) j.toNatClampNeg m)))) (ob H p s)) := by
  induction m with
  | zero =>
    intro j c hj h0 hn l4 hl
    have h1 : ¬ j < sI s 0 := by rw [lt32]; omega
    rw [w33_4]; simp +decide only [w33_0, w33_1, w33_2, w33_3, w33_5, w33_6, w33_9, w33_12, w33_13, w33_16, w33_17, w33_20, w33_21, w33_22, w33_25, w33_26, w33_29, w33_30, w33_31i, w33_31, w33_33, w33_35, w33_38, w33_41, w33_44, w33_47, w33_48, zr_z0, zr_uI, zr_uJ, isO_put, isOw_put, put_fst, okv_int, okv_long, okv_ref, okv_bool, okv_byte, cat1_unset, cat1_int, cat1_ref, cs_nil, cs_int, cs_ref, cs_long, cmpL_lt, cmpL_gt, cmpL_eq, sI_uI, sI_uJ, sI_uA, sI_uB, sJ_uI, sJ_uJ, sJ_uA, sJ_uB, sA_uI, sA_uJ, sA_uA, sA_uB, sB_uI, sB_uJ, sB_uA, sB_uB, sI_fA, sJ_fA, sA_fA, sB_fA, sI_z0, sJ_z0, sA_z0, sB_z0, Option.toList_some, Option.toList_none, List.cons_append, List.nil_append, true_and, and_true, false_and, and_false, or_false, false_or, or_true, true_or, not_true_eq_false, not_false_eq_true, ↓reduceIte, Nat.reduceAdd, Nat.reduceLeDiff, Nat.reduceEqDiff, Nat.reduceSub, Int32.reduceAdd, Int32.reduceSub, Int32.reduceMul, Int32.reduceToNatClampNeg, Int64.reduceAdd, Int64.reduceSub, Int64.reduceMul, Int64.reduceLT, Int32.reduceLT, Int32.reduceToInt, Nat.add_zero, Nat.zero_add, Nat.le_refl, eq_self, implies_true, ne_eq, g0, s0, g1, s1, g2, s2, g3, s3, g4, g5, g6, g7, g8, g9, g10, g11, g12, g13, g14, g15, g16, g17, g18, s18, g19, s19, g20, s20, g21, s21, g22, s22, g23, s23, ai1, aw1, ae1, as1, ai2, aw2, ae2, as2, ai3, aw3, ae3, as3, ai4, aw4, ain4, awn4, ae4, as4, ai5, aw5, ain5, awn5, ae5, as5, ai6, aw6, ae6, as6, ai7, aw7, ae7, as7, ai8, aw8, ae8, as8, ai9, aw9, ae9, as9, ai10, aw10, ain10, awn10, ae10, as10, ai11, aw11, ae11, as11, ai12, aw12, ae12, as12, ai13, aw13, ae13, as13, ai14, aw14, ae14, as14, h1]
    rw [cnt, add_ofNat_zero]
  | succ m ih =>
    intro j c hj h0 hn l4 hl
    have h1 : j < sI s 0 := by rw [lt32]; omega
    have h2 : (j + 1).toInt = j.toInt + 1 := ia (by simp only [Int32.reduceToInt]; omega) (by simp only [Int32.reduceToInt]; omega)
    have h3 : 0 ≤ j.toInt ∧ j.toInt < 128 := by omega
    have h4 : (j + 1).toNatClampNeg = j.toNatClampNeg + 1 := by rw [cln, cln]; omega
    rw [w33_4]
    rcases hl with rfl | ⟨v, rfl⟩
    all_goals
      rcases Classical.propComplete (sA s 5 j.toNatClampNeg = 0) with h5 | h5
      · simp +decide only [w33_0, w33_1, w33_2, w33_3, w33_5, w33_6, w33_9, w33_12, w33_13, w33_16, w33_17, w33_20, w33_21, w33_22, w33_25, w33_26, w33_29, w33_30, w33_31i, w33_31, w33_33, w33_35, w33_38, w33_41, w33_44, w33_47, w33_48, zr_z0, zr_uI, zr_uJ, isO_put, isOw_put, put_fst, okv_int, okv_long, okv_ref, okv_bool, okv_byte, cat1_unset, cat1_int, cat1_ref, cs_nil, cs_int, cs_ref, cs_long, cmpL_lt, cmpL_gt, cmpL_eq, sI_uI, sI_uJ, sI_uA, sI_uB, sJ_uI, sJ_uJ, sJ_uA, sJ_uB, sA_uI, sA_uJ, sA_uA, sA_uB, sB_uI, sB_uJ, sB_uA, sB_uB, sI_fA, sJ_fA, sA_fA, sB_fA, sI_z0, sJ_z0, sA_z0, sB_z0, Option.toList_some, Option.toList_none, List.cons_append, List.nil_append, true_and, and_true, false_and, and_false, or_false, false_or, or_true, true_or, not_true_eq_false, not_false_eq_true, ↓reduceIte, Nat.reduceAdd, Nat.reduceLeDiff, Nat.reduceEqDiff, Nat.reduceSub, Int32.reduceAdd, Int32.reduceSub, Int32.reduceMul, Int32.reduceToNatClampNeg, Int64.reduceAdd, Int64.reduceSub, Int64.reduceMul, Int64.reduceLT, Int32.reduceLT, Int32.reduceToInt, Nat.add_zero, Nat.zero_add, Nat.le_refl, eq_self, implies_true, ne_eq, g0, s0, g1, s1, g2, s2, g3, s3, g4, g5, g6, g7, g8, g9, g10, g11, g12, g13, g14, g15, g16, g17, g18, s18, g19, s19, g20, s20, g21, s21, g22, s22, g23, s23, ai1, aw1, ae1, as1, ai2, aw2, ae2, as2, ai3, aw3, ae3, as3, ai4, aw4, ain4, awn4, ae4, as4, ai5, aw5, ain5, awn5, ae5, as5, ai6, aw6, ae6, as6, ai7, aw7, ae7, as7, ai8, aw8, ae8, as8, ai9, aw9, ae9, as9, ai10, aw10, ain10, awn10, ae10, as10, ai11, aw11, ae11, as11, ai12, aw12, ae12, as12, ai13, aw13, ae13, as13, ai14, aw14, ae14, as14, ain5, h1, h3, h5]
        rw [ih (j + 1) c (by omega) (by omega) hn (.val (.int _)) (Or.inr ⟨_, rfl⟩), h4, cnt]
        simp [h5]
      · simp +decide only [w33_0, w33_1, w33_2, w33_3, w33_5, w33_6, w33_9, w33_12, w33_13, w33_16, w33_17, w33_20, w33_21, w33_22, w33_25, w33_26, w33_29, w33_30, w33_31i, w33_31, w33_33, w33_35, w33_38, w33_41, w33_44, w33_47, w33_48, zr_z0, zr_uI, zr_uJ, isO_put, isOw_put, put_fst, okv_int, okv_long, okv_ref, okv_bool, okv_byte, cat1_unset, cat1_int, cat1_ref, cs_nil, cs_int, cs_ref, cs_long, cmpL_lt, cmpL_gt, cmpL_eq, sI_uI, sI_uJ, sI_uA, sI_uB, sJ_uI, sJ_uJ, sJ_uA, sJ_uB, sA_uI, sA_uJ, sA_uA, sA_uB, sB_uI, sB_uJ, sB_uA, sB_uB, sI_fA, sJ_fA, sA_fA, sB_fA, sI_z0, sJ_z0, sA_z0, sB_z0, Option.toList_some, Option.toList_none, List.cons_append, List.nil_append, true_and, and_true, false_and, and_false, or_false, false_or, or_true, true_or, not_true_eq_false, not_false_eq_true, ↓reduceIte, Nat.reduceAdd, Nat.reduceLeDiff, Nat.reduceEqDiff, Nat.reduceSub, Int32.reduceAdd, Int32.reduceSub, Int32.reduceMul, Int32.reduceToNatClampNeg, Int64.reduceAdd, Int64.reduceSub, Int64.reduceMul, Int64.reduceLT, Int32.reduceLT, Int32.reduceToInt, Nat.add_zero, Nat.zero_add, Nat.le_refl, eq_self, implies_true, ne_eq, g0, s0, g1, s1, g2, s2, g3, s3, g4, g5, g6, g7, g8, g9, g10, g11, g12, g13, g14, g15, g16, g17, g18, s18, g19, s19, g20, s20, g21, s21, g22, s22, g23, s23, ai1, aw1, ae1, as1, ai2, aw2, ae2, as2, ai3, aw3, ae3, as3, ai4, aw4, ain4, awn4, ae4, as4, ai5, aw5, ain5, awn5, ae5, as5, ai6, aw6, ae6, as6, ai7, aw7, ae7, as7, ai8, aw8, ae8, as8, ai9, aw9, ae9, as9, ai10, aw10, ain10, awn10, ae10, as10, ai11, aw11, ae11, as11, ai12, aw12, ae12, as12, ai13, aw13, ae13, as13, ai14, aw14, ae14, as14, ain5, h1, h3, h5]
        rw [ih (j + 1) (c + 1) (by omega) (by omega) hn (.val (.int _)) (Or.inr ⟨_, rfl⟩), h4, cnt, ofNat_one_add]
        simp [h5]
theorem t33b (h0 : 0 ≤ (sI s 0).toInt ∧ (sI s 0).toInt ≤ 128) : Cl (pj lw) 33 [.ref p, .int 0] (ob H p s) Q ↔ Q (some (.int (Int32.ofNat (cnt (fun i => decide (¬ sA s 5 i = 0)) 0 (sI s 0).toInt.toNat)))) (ob H p s) := by
  rw [c33]; simp +decide only [w33_0, w33_1, w33_2, w33_3, w33_5, w33_6, w33_9, w33_12, w33_13, w33_16, w33_17, w33_20, w33_21, w33_22, w33_25, w33_26, w33_29, w33_30, w33_31i, w33_31, w33_33, w33_35, w33_38, w33_41, w33_44, w33_47, w33_48, zr_z0, zr_uI, zr_uJ, isO_put, isOw_put, put_fst, okv_int, okv_long, okv_ref, okv_bool, okv_byte, cat1_unset, cat1_int, cat1_ref, cs_nil, cs_int, cs_ref, cs_long, cmpL_lt, cmpL_gt, cmpL_eq, sI_uI, sI_uJ, sI_uA, sI_uB, sJ_uI, sJ_uJ, sJ_uA, sJ_uB, sA_uI, sA_uJ, sA_uA, sA_uB, sB_uI, sB_uJ, sB_uA, sB_uB, sI_fA, sJ_fA, sA_fA, sB_fA, sI_z0, sJ_z0, sA_z0, sB_z0, Option.toList_some, Option.toList_none, List.cons_append, List.nil_append, true_and, and_true, false_and, and_false, or_false, false_or, or_true, true_or, not_true_eq_false, not_false_eq_true, ↓reduceIte, Nat.reduceAdd, Nat.reduceLeDiff, Nat.reduceEqDiff, Nat.reduceSub, Int32.reduceAdd, Int32.reduceSub, Int32.reduceMul, Int32.reduceToNatClampNeg, Int64.reduceAdd, Int64.reduceSub, Int64.reduceMul, Int64.reduceLT, Int32.reduceLT, Int32.reduceToInt, Nat.add_zero, Nat.zero_add, Nat.le_refl, eq_self, implies_true, ne_eq]
  rw [l33b (sI s 0).toInt.toNat 0 0 (by simp only [Int32.reduceToInt]; omega) (by decide) h0.2 .unset (Or.inl rfl), Int32.zero_add]; rfl
theorem l15 {e : Int32} (m : Nat) : ∀ (j c : Int32), j.toInt = (sI s 0).toInt - m → 0 ≤ j.toInt → (sI s 0).toInt ≤ 128 → (W (pj lw) 15 14 [.val (.ref p), .val (.int e), .val (.int c), .val (.int j)] [] k n (ob H p s) Q ↔ Q (some (.int (c + Int32.ofNat (cnt (fun i => decide (sA s 6 i = e)) j.toNatClampNeg m)))) (ob H p s)) := by
  induction m with
  | zero =>
    intro j c hj h0 hn
    have h1 : ¬ j < sI s 0 := by rw [lt32]; omega
    rw [w15_14]; simp +decide only [w15_0, w15_1, w15_2, w15_5, w15_8, w15_9, w15_10, w15_11, w15_12, w15_13, w15_15, w15_16, w15_19, w15_22, w15_23, w15_26, w15_27, w15_28, w15_29, w15_32, w15_35, w15_38, w15_41, w15_42, zr_z0, zr_uI, zr_uJ, isO_put, isOw_put, put_fst, okv_int, okv_long, okv_ref, okv_bool, okv_byte, cat1_unset, cat1_int, cat1_ref, cs_nil, cs_int, cs_ref, cs_long, cmpL_lt, cmpL_gt, cmpL_eq, sI_uI, sI_uJ, sI_uA, sI_uB, sJ_uI, sJ_uJ, sJ_uA, sJ_uB, sA_uI, sA_uJ, sA_uA, sA_uB, sB_uI, sB_uJ, sB_uA, sB_uB, sI_fA, sJ_fA, sA_fA, sB_fA, sI_z0, sJ_z0, sA_z0, sB_z0, Option.toList_some, Option.toList_none, List.cons_append, List.nil_append, true_and, and_true, false_and, and_false, or_false, false_or, or_true, true_or, not_true_eq_false, not_false_eq_true, ↓reduceIte, Nat.reduceAdd, Nat.reduceLeDiff, Nat.reduceEqDiff, Nat.reduceSub, Int32.reduceAdd, Int32.reduceSub, Int32.reduceMul, Int32.reduceToNatClampNeg, Int64.reduceAdd, Int64.reduceSub, Int64.reduceMul, Int64.reduceLT, Int32.reduceLT, Int32.reduceToInt, Nat.add_zero, Nat.zero_add, Nat.le_refl, eq_self, implies_true, ne_eq, g0, s0, g1, s1, g2, s2, g3, s3, g4, g5, g6, g7, g8, g9, g10, g11, g12, g13, g14, g15, g16, g17, g18, s18, g19, s19, g20, s20, g21, s21, g22, s22, g23, s23, ai1, aw1, ae1, as1, ai2, aw2, ae2, as2, ai3, aw3, ae3, as3, ai4, aw4, ain4, awn4, ae4, as4, ai5, aw5, ain5, awn5, ae5, as5, ai6, aw6, ae6, as6, ai7, aw7, ae7, as7, ai8, aw8, ae8, as8, ai9, aw9, ae9, as9, ai10, aw10, ain10, awn10, ae10, as10, ai11, aw11, ae11, as11, ai12, aw12, ae12, as12, ai13, aw13, ae13, as13, ai14, aw14, ae14, as14, h1]
    rw [cnt, add_ofNat_zero]
  | succ m ih =>
    intro j c hj h0 hn
    have h1 : j < sI s 0 := by rw [lt32]; omega
    have h2 : (j + 1).toInt = j.toInt + 1 := ia (by simp only [Int32.reduceToInt]; omega) (by simp only [Int32.reduceToInt]; omega)
    have h3 : 0 ≤ j.toInt ∧ j.toInt < 128 := by omega
    have h4 : (j + 1).toNatClampNeg = j.toNatClampNeg + 1 := by rw [cln, cln]; omega
    rw [w15_14]
    rcases Classical.propComplete (sA s 6 j.toNatClampNeg = e) with h5 | h5
    · simp +decide only [w15_0, w15_1, w15_2, w15_5, w15_8, w15_9, w15_10, w15_11, w15_12, w15_13, w15_15, w15_16, w15_19, w15_22, w15_23, w15_26, w15_27, w15_28, w15_29, w15_32, w15_35, w15_38, w15_41, w15_42, zr_z0, zr_uI, zr_uJ, isO_put, isOw_put, put_fst, okv_int, okv_long, okv_ref, okv_bool, okv_byte, cat1_unset, cat1_int, cat1_ref, cs_nil, cs_int, cs_ref, cs_long, cmpL_lt, cmpL_gt, cmpL_eq, sI_uI, sI_uJ, sI_uA, sI_uB, sJ_uI, sJ_uJ, sJ_uA, sJ_uB, sA_uI, sA_uJ, sA_uA, sA_uB, sB_uI, sB_uJ, sB_uA, sB_uB, sI_fA, sJ_fA, sA_fA, sB_fA, sI_z0, sJ_z0, sA_z0, sB_z0, Option.toList_some, Option.toList_none, List.cons_append, List.nil_append, true_and, and_true, false_and, and_false, or_false, false_or, or_true, true_or, not_true_eq_false, not_false_eq_true, ↓reduceIte, Nat.reduceAdd, Nat.reduceLeDiff, Nat.reduceEqDiff, Nat.reduceSub, Int32.reduceAdd, Int32.reduceSub, Int32.reduceMul, Int32.reduceToNatClampNeg, Int64.reduceAdd, Int64.reduceSub, Int64.reduceMul, Int64.reduceLT, Int32.reduceLT, Int32.reduceToInt, Nat.add_zero, Nat.zero_add, Nat.le_refl, eq_self, implies_true, ne_eq, g0, s0, g1, s1, g2, s2, g3, s3, g4, g5, g6, g7, g8, g9, g10, g11, g12, g13, g14, g15, g16, g17, g18, s18, g19, s19, g20, s20, g21, s21, g22, s22, g23, s23, ai1, aw1, ae1, as1, ai2, aw2, ae2, as2, ai3, aw3, ae3, as3, ai4, aw4, ain4, awn4, ae4, as4, ai5, aw5, ain5, awn5, ae5, as5, ai6, aw6, ae6, as6, ai7, aw7, ae7, as7, ai8, aw8, ae8, as8, ai9, aw9, ae9, as9, ai10, aw10, ain10, awn10, ae10, as10, ai11, aw11, ae11, as11, ai12, aw12, ae12, as12, ai13, aw13, ae13, as13, ai14, aw14, ae14, as14, h1, h3, h5]
      rw [ih (j + 1) (c + 1) (by omega) (by omega) hn, h4, cnt, ofNat_one_add]
      simp [h5]
    · simp +decide only [w15_0, w15_1, w15_2, w15_5, w15_8, w15_9, w15_10, w15_11, w15_12, w15_13, w15_15, w15_16, w15_19, w15_22, w15_23, w15_26, w15_27, w15_28, w15_29, w15_32, w15_35, w15_38, w15_41, w15_42, zr_z0, zr_uI, zr_uJ, isO_put, isOw_put, put_fst, okv_int, okv_long, okv_ref, okv_bool, okv_byte, cat1_unset, cat1_int, cat1_ref, cs_nil, cs_int, cs_ref, cs_long, cmpL_lt, cmpL_gt, cmpL_eq, sI_uI, sI_uJ, sI_uA, sI_uB, sJ_uI, sJ_uJ, sJ_uA, sJ_uB, sA_uI, sA_uJ, sA_uA, sA_uB, sB_uI, sB_uJ, sB_uA, sB_uB, sI_fA, sJ_fA, sA_fA, sB_fA, sI_z0, sJ_z0, sA_z0, sB_z0, Option.toList_some, Option.toList_none, List.cons_append, List.nil_append, true_and, and_true, false_and, and_false, or_false, false_or, or_true, true_or, not_true_eq_false, not_false_eq_true, ↓reduceIte, Nat.reduceAdd, Nat.reduceLeDiff, Nat.reduceEqDiff, Nat.reduceSub, Int32.reduceAdd, Int32.reduceSub, Int32.reduceMul, Int32.reduceToNatClampNeg, Int64.reduceAdd, Int64.reduceSub, Int64.reduceMul, Int64.reduceLT, Int32.reduceLT, Int32.reduceToInt, Nat.add_zero, Nat.zero_add, Nat.le_refl, eq_self, implies_true, ne_eq, g0, s0, g1, s1, g2, s2, g3, s3, g4, g5, g6, g7, g8, g9, g10, g11, g12, g13, g14, g15, g16, g17, g18, s18, g19, s19, g20, s20, g21, s21, g22, s22, g23, s23, ai1, aw1, ae1, as1, ai2, aw2, ae2, as2, ai3, aw3, ae3, as3, ai4, aw4, ain4, awn4, ae4, as4, ai5, aw5, ain5, awn5, ae5, as5, ai6, aw6, ae6, as6, ai7, aw7, ae7, as7, ai8, aw8, ae8, as8, ai9, aw9, ae9, as9, ai10, aw10, ain10, awn10, ae10, as10, ai11, aw11, ae11, as11, ai12, aw12, ae12, as12, ai13, aw13, ae13, as13, ai14, aw14, ae14, as14, h1, h3, h5]
      rw [ih (j + 1) c (by omega) (by omega) hn, h4, cnt]
      simp [h5]
theorem t15 {e : Int32} (h0 : 0 ≤ (sI s 0).toInt ∧ (sI s 0).toInt ≤ 128) : Cl (pj lw) 15 [.ref p, .int e] (ob H p s) Q ↔ Q (some (.int (if ¬ e < 0 ∧ e < sI s 0 then Int32.ofNat (cnt (fun i => decide (sA s 6 i = e)) 0 (sI s 0).toInt.toNat) else -1))) (ob H p s) := by
  rw [c15]
  by_cases e1 : e < 0 <;> by_cases e2 : e < sI s 0 <;> simp +decide only [w15_0, w15_1, w15_2, w15_5, w15_8, w15_9, w15_10, w15_11, w15_12, w15_13, w15_15, w15_16, w15_19, w15_22, w15_23, w15_26, w15_27, w15_28, w15_29, w15_32, w15_35, w15_38, w15_41, w15_42, zr_z0, zr_uI, zr_uJ, isO_put, isOw_put, put_fst, okv_int, okv_long, okv_ref, okv_bool, okv_byte, cat1_unset, cat1_int, cat1_ref, cs_nil, cs_int, cs_ref, cs_long, cmpL_lt, cmpL_gt, cmpL_eq, sI_uI, sI_uJ, sI_uA, sI_uB, sJ_uI, sJ_uJ, sJ_uA, sJ_uB, sA_uI, sA_uJ, sA_uA, sA_uB, sB_uI, sB_uJ, sB_uA, sB_uB, sI_fA, sJ_fA, sA_fA, sB_fA, sI_z0, sJ_z0, sA_z0, sB_z0, Option.toList_some, Option.toList_none, List.cons_append, List.nil_append, true_and, and_true, false_and, and_false, or_false, false_or, or_true, true_or, not_true_eq_false, not_false_eq_true, ↓reduceIte, Nat.reduceAdd, Nat.reduceLeDiff, Nat.reduceEqDiff, Nat.reduceSub, Int32.reduceAdd, Int32.reduceSub, Int32.reduceMul, Int32.reduceToNatClampNeg, Int64.reduceAdd, Int64.reduceSub, Int64.reduceMul, Int64.reduceLT, Int32.reduceLT, Int32.reduceToInt, Nat.add_zero, Nat.zero_add, Nat.le_refl, eq_self, implies_true, ne_eq, g0, s0, g1, s1, g2, s2, g3, s3, g4, g5, g6, g7, g8, g9, g10, g11, g12, g13, g14, g15, g16, g17, g18, s18, g19, s19, g20, s20, g21, s21, g22, s22, g23, s23, ai1, aw1, ae1, as1, ai2, aw2, ae2, as2, ai3, aw3, ae3, as3, ai4, aw4, ain4, awn4, ae4, as4, ai5, aw5, ain5, awn5, ae5, as5, ai6, aw6, ae6, as6, ai7, aw7, ae7, as7, ai8, aw8, ae8, as8, ai9, aw9, ae9, as9, ai10, aw10, ain10, awn10, ae10, as10, ai11, aw11, ae11, as11, ai12, aw12, ae12, as12, ai13, aw13, ae13, as13, ai14, aw14, ae14, as14, c18, w18_0, w18_1, w18_4, w18_5, w18_6, w18_9, w18_12, w18_13, w18_16, w18_17, e1, e2]
  rw [l15 (sI s 0).toInt.toNat 0 0 (by simp only [Int32.reduceToInt]; omega) (by decide) h0.2, Int32.zero_add]; rfl
def aeOk (s : St) (a b w : Int32) : Bool := decide (((¬ a < 0 ∧ a < sI s 0) ∧ (¬ b < 0 ∧ b < sI s 0)) ∧ ¬ a = b ∧ (¬ w < 1 ∧ ¬ 1000 < w) ∧ exE s a b (sI s 18).toInt.toNat 0 = false ∧ sI s 18 < 256)
def aeS (s : St) (a b w : Int32) : St := uI (uA (uA (uA s 12 (sI s 18).toNatClampNeg a) 13 (sI s 18).toNatClampNeg b) 14 (sI s 18).toNatClampNeg w) 18 (sI s 18 + 1)
theorem t4 {w : Int32} (hE : 0 ≤ (sI s 18).toInt ∧ (sI s 18).toInt ≤ 256) : Cl (pj lw) 4 [.ref p, .int a, .int b, .int w] (ob H p s) Q ↔ if aeOk s a b w = true then Q (some (.int (sI s 18))) (ob H p (aeS s a b w)) else Q (some (.int (-1))) (ob H p s) := by
  rw [c4]; simp only [aeOk, aeS, decide_eq_true_eq]
  by_cases e0 : ((¬ a < 0 ∧ a < sI s 0) ∧ (¬ b < 0 ∧ b < sI s 0))
  · obtain ⟨⟨e1, e2⟩, e3, e4⟩ := e0
    rcases Classical.propComplete (a = b) with e5 | e5
    · simp +decide only [w4_0, w4_1, w4_2, w4_5, w4_8, w4_9, w4_10, w4_13, w4_16, w4_17, w4_18, w4_19, w4_20, w4_23, w4_24, w4_25, w4_26, w4_27, w4_30, w4_31, w4_34, w4_37, w4_38, w4_39, w4_40, w4_41, w4_42, w4_45, w4_48, w4_49, w4_50, w4_51, w4_54, w4_57, w4_60, w4_61, w4_62, w4_63, w4_66, w4_68, w4_69, w4_72, w4_74, w4_75, w4_76, w4_77, w4_80, w4_82, w4_83, w4_84, w4_85, w4_88, w4_90, w4_91, w4_92, w4_93, w4_95, w4_96, w4_97, w4_100, w4_102, zr_z0, zr_uI, zr_uJ, isO_put, isOw_put, put_fst, okv_int, okv_long, okv_ref, okv_bool, okv_byte, cat1_unset, cat1_int, cat1_ref, cs_nil, cs_int, cs_ref, cs_long, cmpL_lt, cmpL_gt, cmpL_eq, sI_uI, sI_uJ, sI_uA, sI_uB, sJ_uI, sJ_uJ, sJ_uA, sJ_uB, sA_uI, sA_uJ, sA_uA, sA_uB, sB_uI, sB_uJ, sB_uA, sB_uB, sI_fA, sJ_fA, sA_fA, sB_fA, sI_z0, sJ_z0, sA_z0, sB_z0, Option.toList_some, Option.toList_none, List.cons_append, List.nil_append, true_and, and_true, false_and, and_false, or_false, false_or, or_true, true_or, not_true_eq_false, not_false_eq_true, ↓reduceIte, Nat.reduceAdd, Nat.reduceLeDiff, Nat.reduceEqDiff, Nat.reduceSub, Int32.reduceAdd, Int32.reduceSub, Int32.reduceMul, Int32.reduceToNatClampNeg, Int64.reduceAdd, Int64.reduceSub, Int64.reduceMul, Int64.reduceLT, Int32.reduceLT, Int32.reduceToInt, Nat.add_zero, Nat.zero_add, Nat.le_refl, eq_self, implies_true, ne_eq, g0, s0, g1, s1, g2, s2, g3, s3, g4, g5, g6, g7, g8, g9, g10, g11, g12, g13, g14, g15, g16, g17, g18, s18, g19, s19, g20, s20, g21, s21, g22, s22, g23, s23, ai1, aw1, ae1, as1, ai2, aw2, ae2, as2, ai3, aw3, ae3, as3, ai4, aw4, ain4, awn4, ae4, as4, ai5, aw5, ain5, awn5, ae5, as5, ai6, aw6, ae6, as6, ai7, aw7, ae7, as7, ai8, aw8, ae8, as8, ai9, aw9, ae9, as9, ai10, aw10, ain10, awn10, ae10, as10, ai11, aw11, ae11, as11, ai12, aw12, ae12, as12, ai13, aw13, ae13, as13, ai14, aw14, ae14, as14, c18, w18_0, w18_1, w18_4, w18_5, w18_6, w18_9, w18_12, w18_13, w18_16, w18_17, e1, e2, e3, e4, e5]
    · by_cases e6 : w < 1
      · simp +decide only [w4_0, w4_1, w4_2, w4_5, w4_8, w4_9, w4_10, w4_13, w4_16, w4_17, w4_18, w4_19, w4_20, w4_23, w4_24, w4_25, w4_26, w4_27, w4_30, w4_31, w4_34, w4_37, w4_38, w4_39, w4_40, w4_41, w4_42, w4_45, w4_48, w4_49, w4_50, w4_51, w4_54, w4_57, w4_60, w4_61, w4_62, w4_63, w4_66, w4_68, w4_69, w4_72, w4_74, w4_75, w4_76, w4_77, w4_80, w4_82, w4_83, w4_84, w4_85, w4_88, w4_90, w4_91, w4_92, w4_93, w4_95, w4_96, w4_97, w4_100, w4_102, zr_z0, zr_uI, zr_uJ, isO_put, isOw_put, put_fst, okv_int, okv_long, okv_ref, okv_bool, okv_byte, cat1_unset, cat1_int, cat1_ref, cs_nil, cs_int, cs_ref, cs_long, cmpL_lt, cmpL_gt, cmpL_eq, sI_uI, sI_uJ, sI_uA, sI_uB, sJ_uI, sJ_uJ, sJ_uA, sJ_uB, sA_uI, sA_uJ, sA_uA, sA_uB, sB_uI, sB_uJ, sB_uA, sB_uB, sI_fA, sJ_fA, sA_fA, sB_fA, sI_z0, sJ_z0, sA_z0, sB_z0, Option.toList_some, Option.toList_none, List.cons_append, List.nil_append, true_and, and_true, false_and, and_false, or_false, false_or, or_true, true_or, not_true_eq_false, not_false_eq_true, ↓reduceIte, Nat.reduceAdd, Nat.reduceLeDiff, Nat.reduceEqDiff, Nat.reduceSub, Int32.reduceAdd, Int32.reduceSub, Int32.reduceMul, Int32.reduceToNatClampNeg, Int64.reduceAdd, Int64.reduceSub, Int64.reduceMul, Int64.reduceLT, Int32.reduceLT, Int32.reduceToInt, Nat.add_zero, Nat.zero_add, Nat.le_refl, eq_self, implies_true, ne_eq, g0, s0, g1, s1, g2, s2, g3, s3, g4, g5, g6, g7, g8, g9, g10, g11, g12, g13, g14, g15, g16, g17, g18, s18, g19, s19, g20, s20, g21, s21, g22, s22, g23, s23, ai1, aw1, ae1, as1, ai2, aw2, ae2, as2, ai3, aw3, ae3, as3, ai4, aw4, ain4, awn4, ae4, as4, ai5, aw5, ain5, awn5, ae5, as5, ai6, aw6, ae6, as6, ai7, aw7, ae7, as7, ai8, aw8, ae8, as8, ai9, aw9, ae9, as9, ai10, aw10, ain10, awn10, ae10, as10, ai11, aw11, ae11, as11, ai12, aw12, ae12, as12, ai13, aw13, ae13, as13, ai14, aw14, ae14, as14, c18, w18_0, w18_1, w18_4, w18_5, w18_6, w18_9, w18_12, w18_13, w18_16, w18_17, e1, e2, e3, e4, e5, e6]
      · by_cases e7 : 1000 < w
        · simp +decide only [w4_0, w4_1, w4_2, w4_5, w4_8, w4_9, w4_10, w4_13, w4_16, w4_17, w4_18, w4_19, w4_20, w4_23, w4_24, w4_25, w4_26, w4_27, w4_30, w4_31, w4_34, w4_37, w4_38, w4_39, w4_40, w4_41, w4_42, w4_45, w4_48, w4_49, w4_50, w4_51, w4_54, w4_57, w4_60, w4_61, w4_62, w4_63, w4_66, w4_68, w4_69, w4_72, w4_74, w4_75, w4_76, w4_77, w4_80, w4_82, w4_83, w4_84, w4_85, w4_88, w4_90, w4_91, w4_92, w4_93, w4_95, w4_96, w4_97, w4_100, w4_102, zr_z0, zr_uI, zr_uJ, isO_put, isOw_put, put_fst, okv_int, okv_long, okv_ref, okv_bool, okv_byte, cat1_unset, cat1_int, cat1_ref, cs_nil, cs_int, cs_ref, cs_long, cmpL_lt, cmpL_gt, cmpL_eq, sI_uI, sI_uJ, sI_uA, sI_uB, sJ_uI, sJ_uJ, sJ_uA, sJ_uB, sA_uI, sA_uJ, sA_uA, sA_uB, sB_uI, sB_uJ, sB_uA, sB_uB, sI_fA, sJ_fA, sA_fA, sB_fA, sI_z0, sJ_z0, sA_z0, sB_z0, Option.toList_some, Option.toList_none, List.cons_append, List.nil_append, true_and, and_true, false_and, and_false, or_false, false_or, or_true, true_or, not_true_eq_false, not_false_eq_true, ↓reduceIte, Nat.reduceAdd, Nat.reduceLeDiff, Nat.reduceEqDiff, Nat.reduceSub, Int32.reduceAdd, Int32.reduceSub, Int32.reduceMul, Int32.reduceToNatClampNeg, Int64.reduceAdd, Int64.reduceSub, Int64.reduceMul, Int64.reduceLT, Int32.reduceLT, Int32.reduceToInt, Nat.add_zero, Nat.zero_add, Nat.le_refl, eq_self, implies_true, ne_eq, g0, s0, g1, s1, g2, s2, g3, s3, g4, g5, g6, g7, g8, g9, g10, g11, g12, g13, g14, g15, g16, g17, g18, s18, g19, s19, g20, s20, g21, s21, g22, s22, g23, s23, ai1, aw1, ae1, as1, ai2, aw2, ae2, as2, ai3, aw3, ae3, as3, ai4, aw4, ain4, awn4, ae4, as4, ai5, aw5, ain5, awn5, ae5, as5, ai6, aw6, ae6, as6, ai7, aw7, ae7, as7, ai8, aw8, ae8, as8, ai9, aw9, ae9, as9, ai10, aw10, ain10, awn10, ae10, as10, ai11, aw11, ae11, as11, ai12, aw12, ae12, as12, ai13, aw13, ae13, as13, ai14, aw14, ae14, as14, c18, w18_0, w18_1, w18_4, w18_5, w18_6, w18_9, w18_12, w18_13, w18_16, w18_17, e1, e2, e3, e4, e5, e6, e7]
        · by_cases e8 : exE s a b (sI s 18).toInt.toNat 0 = true
          · simp +decide only [w4_0, w4_1, w4_2, w4_5, w4_8, w4_9, w4_10, w4_13, w4_16, w4_17, w4_18, w4_19, w4_20, w4_23, w4_24, w4_25, w4_26, w4_27, w4_30, w4_31, w4_34, w4_37, w4_38, w4_39, w4_40, w4_41, w4_42, w4_45, w4_48, w4_49, w4_50, w4_51, w4_54, w4_57, w4_60, w4_61, w4_62, w4_63, w4_66, w4_68, w4_69, w4_72, w4_74, w4_75, w4_76, w4_77, w4_80, w4_82, w4_83, w4_84, w4_85, w4_88, w4_90, w4_91, w4_92, w4_93, w4_95, w4_96, w4_97, w4_100, w4_102, zr_z0, zr_uI, zr_uJ, isO_put, isOw_put, put_fst, okv_int, okv_long, okv_ref, okv_bool, okv_byte, cat1_unset, cat1_int, cat1_ref, cs_nil, cs_int, cs_ref, cs_long, cmpL_lt, cmpL_gt, cmpL_eq, sI_uI, sI_uJ, sI_uA, sI_uB, sJ_uI, sJ_uJ, sJ_uA, sJ_uB, sA_uI, sA_uJ, sA_uA, sA_uB, sB_uI, sB_uJ, sB_uA, sB_uB, sI_fA, sJ_fA, sA_fA, sB_fA, sI_z0, sJ_z0, sA_z0, sB_z0, Option.toList_some, Option.toList_none, List.cons_append, List.nil_append, true_and, and_true, false_and, and_false, or_false, false_or, or_true, true_or, not_true_eq_false, not_false_eq_true, ↓reduceIte, Nat.reduceAdd, Nat.reduceLeDiff, Nat.reduceEqDiff, Nat.reduceSub, Int32.reduceAdd, Int32.reduceSub, Int32.reduceMul, Int32.reduceToNatClampNeg, Int64.reduceAdd, Int64.reduceSub, Int64.reduceMul, Int64.reduceLT, Int32.reduceLT, Int32.reduceToInt, Nat.add_zero, Nat.zero_add, Nat.le_refl, eq_self, implies_true, ne_eq, g0, s0, g1, s1, g2, s2, g3, s3, g4, g5, g6, g7, g8, g9, g10, g11, g12, g13, g14, g15, g16, g17, g18, s18, g19, s19, g20, s20, g21, s21, g22, s22, g23, s23, ai1, aw1, ae1, as1, ai2, aw2, ae2, as2, ai3, aw3, ae3, as3, ai4, aw4, ain4, awn4, ae4, as4, ai5, aw5, ain5, awn5, ae5, as5, ai6, aw6, ae6, as6, ai7, aw7, ae7, as7, ai8, aw8, ae8, as8, ai9, aw9, ae9, as9, ai10, aw10, ain10, awn10, ae10, as10, ai11, aw11, ae11, as11, ai12, aw12, ae12, as12, ai13, aw13, ae13, as13, ai14, aw14, ae14, as14, c18, w18_0, w18_1, w18_4, w18_5, w18_6, w18_9, w18_12, w18_13, w18_16, w18_17, t20 hE, bz, e1, e2, e3, e4, e5, e6, e7, e8]
          · replace e8 : exE s a b (sI s 18).toInt.toNat 0 = false := by simpa using e8
            by_cases e9 : sI s 18 < 256
            · have h9 : 0 ≤ (sI s 18).toInt ∧ (sI s 18).toInt < 256 := ⟨hE.1, by rw [lt32] at e9; exact e9⟩
              simp +decide only [w4_0, w4_1, w4_2, w4_5, w4_8, w4_9, w4_10, w4_13, w4_16, w4_17, w4_18, w4_19, w4_20, w4_23, w4_24, w4_25, w4_26, w4_27, w4_30, w4_31, w4_34, w4_37, w4_38, w4_39, w4_40, w4_41, w4_42, w4_45, w4_48, w4_49, w4_50, w4_51, w4_54, w4_57, w4_60, w4_61, w4_62, w4_63, w4_66, w4_68, w4_69, w4_72, w4_74, w4_75, w4_76, w4_77, w4_80, w4_82, w4_83, w4_84, w4_85, w4_88, w4_90, w4_91, w4_92, w4_93, w4_95, w4_96, w4_97, w4_100, w4_102, zr_z0, zr_uI, zr_uJ, isO_put, isOw_put, put_fst, okv_int, okv_long, okv_ref, okv_bool, okv_byte, cat1_unset, cat1_int, cat1_ref, cs_nil, cs_int, cs_ref, cs_long, cmpL_lt, cmpL_gt, cmpL_eq, sI_uI, sI_uJ, sI_uA, sI_uB, sJ_uI, sJ_uJ, sJ_uA, sJ_uB, sA_uI, sA_uJ, sA_uA, sA_uB, sB_uI, sB_uJ, sB_uA, sB_uB, sI_fA, sJ_fA, sA_fA, sB_fA, sI_z0, sJ_z0, sA_z0, sB_z0, Option.toList_some, Option.toList_none, List.cons_append, List.nil_append, true_and, and_true, false_and, and_false, or_false, false_or, or_true, true_or, not_true_eq_false, not_false_eq_true, ↓reduceIte, Nat.reduceAdd, Nat.reduceLeDiff, Nat.reduceEqDiff, Nat.reduceSub, Int32.reduceAdd, Int32.reduceSub, Int32.reduceMul, Int32.reduceToNatClampNeg, Int64.reduceAdd, Int64.reduceSub, Int64.reduceMul, Int64.reduceLT, Int32.reduceLT, Int32.reduceToInt, Nat.add_zero, Nat.zero_add, Nat.le_refl, eq_self, implies_true, ne_eq, g0, s0, g1, s1, g2, s2, g3, s3, g4, g5, g6, g7, g8, g9, g10, g11, g12, g13, g14, g15, g16, g17, g18, s18, g19, s19, g20, s20, g21, s21, g22, s22, g23, s23, ai1, aw1, ae1, as1, ai2, aw2, ae2, as2, ai3, aw3, ae3, as3, ai4, aw4, ain4, awn4, ae4, as4, ai5, aw5, ain5, awn5, ae5, as5, ai6, aw6, ae6, as6, ai7, aw7, ae7, as7, ai8, aw8, ae8, as8, ai9, aw9, ae9, as9, ai10, aw10, ain10, awn10, ae10, as10, ai11, aw11, ae11, as11, ai12, aw12, ae12, as12, ai13, aw13, ae13, as13, ai14, aw14, ae14, as14, c18, w18_0, w18_1, w18_4, w18_5, w18_6, w18_9, w18_12, w18_13, w18_16, w18_17, t20 hE, bz, e1, e2, e3, e4, e5, e6, e7, e8, e9, h9]
            · simp +decide only [w4_0, w4_1, w4_2, w4_5, w4_8, w4_9, w4_10, w4_13, w4_16, w4_17, w4_18, w4_19, w4_20, w4_23, w4_24, w4_25, w4_26, w4_27, w4_30, w4_31, w4_34, w4_37, w4_38, w4_39, w4_40, w4_41, w4_42, w4_45, w4_48, w4_49, w4_50, w4_51, w4_54, w4_57, w4_60, w4_61, w4_62, w4_63, w4_66, w4_68, w4_69, w4_72, w4_74, w4_75, w4_76, w4_77, w4_80, w4_82, w4_83, w4_84, w4_85, w4_88, w4_90, w4_91, w4_92, w4_93, w4_95, w4_96, w4_97, w4_100, w4_102, zr_z0, zr_uI, zr_uJ, isO_put, isOw_put, put_fst, okv_int, okv_long, okv_ref, okv_bool, okv_byte, cat1_unset, cat1_int, cat1_ref, cs_nil, cs_int, cs_ref, cs_long, cmpL_lt, cmpL_gt, cmpL_eq, sI_uI, sI_uJ, sI_uA, sI_uB, sJ_uI, sJ_uJ, sJ_uA, sJ_uB, sA_uI, sA_uJ, sA_uA, sA_uB, sB_uI, sB_uJ, sB_uA, sB_uB, sI_fA, sJ_fA, sA_fA, sB_fA, sI_z0, sJ_z0, sA_z0, sB_z0, Option.toList_some, Option.toList_none, List.cons_append, List.nil_append, true_and, and_true, false_and, and_false, or_false, false_or, or_true, true_or, not_true_eq_false, not_false_eq_true, ↓reduceIte, Nat.reduceAdd, Nat.reduceLeDiff, Nat.reduceEqDiff, Nat.reduceSub, Int32.reduceAdd, Int32.reduceSub, Int32.reduceMul, Int32.reduceToNatClampNeg, Int64.reduceAdd, Int64.reduceSub, Int64.reduceMul, Int64.reduceLT, Int32.reduceLT, Int32.reduceToInt, Nat.add_zero, Nat.zero_add, Nat.le_refl, eq_self, implies_true, ne_eq, g0, s0, g1, s1, g2, s2, g3, s3, g4, g5, g6, g7, g8, g9, g10, g11, g12, g13, g14, g15, g16, g17, g18, s18, g19, s19, g20, s20, g21, s21, g22, s22, g23, s23, ai1, aw1, ae1, as1, ai2, aw2, ae2, as2, ai3, aw3, ae3, as3, ai4, aw4, ain4, awn4, ae4, as4, ai5, aw5, ain5, awn5, ae5, as5, ai6, aw6, ae6, as6, ai7, aw7, ae7, as7, ai8, aw8, ae8, as8, ai9, aw9, ae9, as9, ai10, aw10, ain10, awn10, ae10, as10, ai11, aw11, ae11, as11, ai12, aw12, ae12, as12, ai13, aw13, ae13, as13, ai14, aw14, ae14, as14, c18, w18_0, w18_1, w18_4, w18_5, w18_6, w18_9, w18_12, w18_13, w18_16, w18_17, t20 hE, bz, e1, e2, e3, e4, e5, e6, e7, e8, e9]
  · rw [if_neg (fun u => e0 u.1)]
    by_cases e1 : a < 0 <;> by_cases e2 : a < sI s 0 <;> by_cases e3 : b < 0 <;> by_cases e4 : b < sI s 0 <;> first | (simp +decide only [w4_0, w4_1, w4_2, w4_5, w4_8, w4_9, w4_10, w4_13, w4_16, w4_17, w4_18, w4_19, w4_20, w4_23, w4_24, w4_25, w4_26, w4_27, w4_30, w4_31, w4_34, w4_37, w4_38, w4_39, w4_40, w4_41, w4_42, w4_45, w4_48, w4_49, w4_50, w4_51, w4_54, w4_57, w4_60, w4_61, w4_62, w4_63, w4_66, w4_68, w4_69, w4_72, w4_74, w4_75, w4_76, w4_77, w4_80, w4_82, w4_83, w4_84, w4_85, w4_88, w4_90, w4_91, w4_92, w4_93, w4_95, w4_96, w4_97, w4_100, w4_102, zr_z0, zr_uI, zr_uJ, isO_put, isOw_put, put_fst, okv_int, okv_long, okv_ref, okv_bool, okv_byte, cat1_unset, cat1_int, cat1_ref, cs_nil, cs_int, cs_ref, cs_long, cmpL_lt, cmpL_gt, cmpL_eq, sI_uI, sI_uJ, sI_uA, sI_uB, sJ_uI, sJ_uJ, sJ_uA, sJ_uB, sA_uI, sA_uJ, sA_uA, sA_uB, sB_uI, sB_uJ, sB_uA, sB_uB, sI_fA, sJ_fA, sA_fA, sB_fA, sI_z0, sJ_z0, sA_z0, sB_z0, Option.toList_some, Option.toList_none, List.cons_append, List.nil_append, true_and, and_true, false_and, and_false, or_false, false_or, or_true, true_or, not_true_eq_false, not_false_eq_true, ↓reduceIte, Nat.reduceAdd, Nat.reduceLeDiff, Nat.reduceEqDiff, Nat.reduceSub, Int32.reduceAdd, Int32.reduceSub, Int32.reduceMul, Int32.reduceToNatClampNeg, Int64.reduceAdd, Int64.reduceSub, Int64.reduceMul, Int64.reduceLT, Int32.reduceLT, Int32.reduceToInt, Nat.add_zero, Nat.zero_add, Nat.le_refl, eq_self, implies_true, ne_eq, g0, s0, g1, s1, g2, s2, g3, s3, g4, g5, g6, g7, g8, g9, g10, g11, g12, g13, g14, g15, g16, g17, g18, s18, g19, s19, g20, s20, g21, s21, g22, s22, g23, s23, ai1, aw1, ae1, as1, ai2, aw2, ae2, as2, ai3, aw3, ae3, as3, ai4, aw4, ain4, awn4, ae4, as4, ai5, aw5, ain5, awn5, ae5, as5, ai6, aw6, ae6, as6, ai7, aw7, ae7, as7, ai8, aw8, ae8, as8, ai9, aw9, ae9, as9, ai10, aw10, ain10, awn10, ae10, as10, ai11, aw11, ae11, as11, ai12, aw12, ae12, as12, ai13, aw13, ae13, as13, ai14, aw14, ae14, as14, c18, w18_0, w18_1, w18_4, w18_5, w18_6, w18_9, w18_12, w18_13, w18_16, w18_17, e1, e2, e3, e4]; done) | exact absurd ⟨⟨e1, e2⟩, e3, e4⟩ e0
def inOk (s : St) (a : Int32) : Bool := decide ((¬ a < 0 ∧ a < sI s 0) ∧ sA s 1 a.toNatClampNeg = 0)
def inS (s : St) (a : Int32) : St := uA (uA (uA (uA (uA s 1 a.toNatClampNeg 2) 2 a.toNatClampNeg (sI s 2)) 6 a.toNatClampNeg (-1)) 7 a.toNatClampNeg (sI s 22)) 8 a.toNatClampNeg 0
theorem vix {a : Int32} {N : Int} (h0 : (sI s 0).toInt ≤ N) (e1 : ¬ a < 0) (e2 : a < sI s 0) : 0 ≤ a.toInt ∧ a.toInt < N := by
  rw [lt32] at e1 e2; simp only [Int32.reduceToInt] at e1; omega
theorem t5 (h0 : (sI s 0).toInt ≤ 128) : Cl (pj lw) 5 [.ref p, .int a] (ob H p s) Q ↔ if inOk s a = true then Q (some (.int 1)) (ob H p (inS s a)) else Q (some (.int 0)) (ob H p s) := by
  rw [c5]; simp only [inOk, inS, decide_eq_true_eq]
  by_cases e1 : a < 0 <;> by_cases e2 : a < sI s 0
  · simp +decide only [w5_0, w5_1, w5_2, w5_5, w5_8, w5_9, w5_10, w5_11, w5_14, w5_15, w5_16, w5_19, w5_20, w5_21, w5_22, w5_25, w5_26, w5_27, w5_28, w5_29, w5_32, w5_33, w5_34, w5_37, w5_38, w5_39, w5_42, w5_43, w5_44, w5_45, w5_46, w5_49, w5_50, w5_51, w5_54, w5_55, w5_56, w5_59, w5_60, w5_61, w5_62, w5_63, zr_z0, zr_uI, zr_uJ, isO_put, isOw_put, put_fst, okv_int, okv_long, okv_ref, okv_bool, okv_byte, cat1_unset, cat1_int, cat1_ref, cs_nil, cs_int, cs_ref, cs_long, cmpL_lt, cmpL_gt, cmpL_eq, sI_uI, sI_uJ, sI_uA, sI_uB, sJ_uI, sJ_uJ, sJ_uA, sJ_uB, sA_uI, sA_uJ, sA_uA, sA_uB, sB_uI, sB_uJ, sB_uA, sB_uB, sI_fA, sJ_fA, sA_fA, sB_fA, sI_z0, sJ_z0, sA_z0, sB_z0, Option.toList_some, Option.toList_none, List.cons_append, List.nil_append, true_and, and_true, false_and, and_false, or_false, false_or, or_true, true_or, not_true_eq_false, not_false_eq_true, ↓reduceIte, Nat.reduceAdd, Nat.reduceLeDiff, Nat.reduceEqDiff, Nat.reduceSub, Int32.reduceAdd, Int32.reduceSub, Int32.reduceMul, Int32.reduceToNatClampNeg, Int64.reduceAdd, Int64.reduceSub, Int64.reduceMul, Int64.reduceLT, Int32.reduceLT, Int32.reduceToInt, Nat.add_zero, Nat.zero_add, Nat.le_refl, eq_self, implies_true, ne_eq, g0, s0, g1, s1, g2, s2, g3, s3, g4, g5, g6, g7, g8, g9, g10, g11, g12, g13, g14, g15, g16, g17, g18, s18, g19, s19, g20, s20, g21, s21, g22, s22, g23, s23, ai1, aw1, ae1, as1, ai2, aw2, ae2, as2, ai3, aw3, ae3, as3, ai4, aw4, ain4, awn4, ae4, as4, ai5, aw5, ain5, awn5, ae5, as5, ai6, aw6, ae6, as6, ai7, aw7, ae7, as7, ai8, aw8, ae8, as8, ai9, aw9, ae9, as9, ai10, aw10, ain10, awn10, ae10, as10, ai11, aw11, ae11, as11, ai12, aw12, ae12, as12, ai13, aw13, ae13, as13, ai14, aw14, ae14, as14, c18, w18_0, w18_1, w18_4, w18_5, w18_6, w18_9, w18_12, w18_13, w18_16, w18_17, e1, e2]
  · simp +decide only [w5_0, w5_1, w5_2, w5_5, w5_8, w5_9, w5_10, w5_11, w5_14, w5_15, w5_16, w5_19, w5_20, w5_21, w5_22, w5_25, w5_26, w5_27, w5_28, w5_29, w5_32, w5_33, w5_34, w5_37, w5_38, w5_39, w5_42, w5_43, w5_44, w5_45, w5_46, w5_49, w5_50, w5_51, w5_54, w5_55, w5_56, w5_59, w5_60, w5_61, w5_62, w5_63, zr_z0, zr_uI, zr_uJ, isO_put, isOw_put, put_fst, okv_int, okv_long, okv_ref, okv_bool, okv_byte, cat1_unset, cat1_int, cat1_ref, cs_nil, cs_int, cs_ref, cs_long, cmpL_lt, cmpL_gt, cmpL_eq, sI_uI, sI_uJ, sI_uA, sI_uB, sJ_uI, sJ_uJ, sJ_uA, sJ_uB, sA_uI, sA_uJ, sA_uA, sA_uB, sB_uI, sB_uJ, sB_uA, sB_uB, sI_fA, sJ_fA, sA_fA, sB_fA, sI_z0, sJ_z0, sA_z0, sB_z0, Option.toList_some, Option.toList_none, List.cons_append, List.nil_append, true_and, and_true, false_and, and_false, or_false, false_or, or_true, true_or, not_true_eq_false, not_false_eq_true, ↓reduceIte, Nat.reduceAdd, Nat.reduceLeDiff, Nat.reduceEqDiff, Nat.reduceSub, Int32.reduceAdd, Int32.reduceSub, Int32.reduceMul, Int32.reduceToNatClampNeg, Int64.reduceAdd, Int64.reduceSub, Int64.reduceMul, Int64.reduceLT, Int32.reduceLT, Int32.reduceToInt, Nat.add_zero, Nat.zero_add, Nat.le_refl, eq_self, implies_true, ne_eq, g0, s0, g1, s1, g2, s2, g3, s3, g4, g5, g6, g7, g8, g9, g10, g11, g12, g13, g14, g15, g16, g17, g18, s18, g19, s19, g20, s20, g21, s21, g22, s22, g23, s23, ai1, aw1, ae1, as1, ai2, aw2, ae2, as2, ai3, aw3, ae3, as3, ai4, aw4, ain4, awn4, ae4, as4, ai5, aw5, ain5, awn5, ae5, as5, ai6, aw6, ae6, as6, ai7, aw7, ae7, as7, ai8, aw8, ae8, as8, ai9, aw9, ae9, as9, ai10, aw10, ain10, awn10, ae10, as10, ai11, aw11, ae11, as11, ai12, aw12, ae12, as12, ai13, aw13, ae13, as13, ai14, aw14, ae14, as14, c18, w18_0, w18_1, w18_4, w18_5, w18_6, w18_9, w18_12, w18_13, w18_16, w18_17, e1, e2]
  · have h3 := vix h0 e1 e2
    by_cases e3 : sA s 1 a.toNatClampNeg = 0 <;> simp +decide only [w5_0, w5_1, w5_2, w5_5, w5_8, w5_9, w5_10, w5_11, w5_14, w5_15, w5_16, w5_19, w5_20, w5_21, w5_22, w5_25, w5_26, w5_27, w5_28, w5_29, w5_32, w5_33, w5_34, w5_37, w5_38, w5_39, w5_42, w5_43, w5_44, w5_45, w5_46, w5_49, w5_50, w5_51, w5_54, w5_55, w5_56, w5_59, w5_60, w5_61, w5_62, w5_63, zr_z0, zr_uI, zr_uJ, isO_put, isOw_put, put_fst, okv_int, okv_long, okv_ref, okv_bool, okv_byte, cat1_unset, cat1_int, cat1_ref, cs_nil, cs_int, cs_ref, cs_long, cmpL_lt, cmpL_gt, cmpL_eq, sI_uI, sI_uJ, sI_uA, sI_uB, sJ_uI, sJ_uJ, sJ_uA, sJ_uB, sA_uI, sA_uJ, sA_uA, sA_uB, sB_uI, sB_uJ, sB_uA, sB_uB, sI_fA, sJ_fA, sA_fA, sB_fA, sI_z0, sJ_z0, sA_z0, sB_z0, Option.toList_some, Option.toList_none, List.cons_append, List.nil_append, true_and, and_true, false_and, and_false, or_false, false_or, or_true, true_or, not_true_eq_false, not_false_eq_true, ↓reduceIte, Nat.reduceAdd, Nat.reduceLeDiff, Nat.reduceEqDiff, Nat.reduceSub, Int32.reduceAdd, Int32.reduceSub, Int32.reduceMul, Int32.reduceToNatClampNeg, Int64.reduceAdd, Int64.reduceSub, Int64.reduceMul, Int64.reduceLT, Int32.reduceLT, Int32.reduceToInt, Nat.add_zero, Nat.zero_add, Nat.le_refl, eq_self, implies_true, ne_eq, g0, s0, g1, s1, g2, s2, g3, s3, g4, g5, g6, g7, g8, g9, g10, g11, g12, g13, g14, g15, g16, g17, g18, s18, g19, s19, g20, s20, g21, s21, g22, s22, g23, s23, ai1, aw1, ae1, as1, ai2, aw2, ae2, as2, ai3, aw3, ae3, as3, ai4, aw4, ain4, awn4, ae4, as4, ai5, aw5, ain5, awn5, ae5, as5, ai6, aw6, ae6, as6, ai7, aw7, ae7, as7, ai8, aw8, ae8, as8, ai9, aw9, ae9, as9, ai10, aw10, ain10, awn10, ae10, as10, ai11, aw11, ae11, as11, ai12, aw12, ae12, as12, ai13, aw13, ae13, as13, ai14, aw14, ae14, as14, c18, w18_0, w18_1, w18_4, w18_5, w18_6, w18_9, w18_12, w18_13, w18_16, w18_17, e1, e2, e3, h3]
  · simp +decide only [w5_0, w5_1, w5_2, w5_5, w5_8, w5_9, w5_10, w5_11, w5_14, w5_15, w5_16, w5_19, w5_20, w5_21, w5_22, w5_25, w5_26, w5_27, w5_28, w5_29, w5_32, w5_33, w5_34, w5_37, w5_38, w5_39, w5_42, w5_43, w5_44, w5_45, w5_46, w5_49, w5_50, w5_51, w5_54, w5_55, w5_56, w5_59, w5_60, w5_61, w5_62, w5_63, zr_z0, zr_uI, zr_uJ, isO_put, isOw_put, put_fst, okv_int, okv_long, okv_ref, okv_bool, okv_byte, cat1_unset, cat1_int, cat1_ref, cs_nil, cs_int, cs_ref, cs_long, cmpL_lt, cmpL_gt, cmpL_eq, sI_uI, sI_uJ, sI_uA, sI_uB, sJ_uI, sJ_uJ, sJ_uA, sJ_uB, sA_uI, sA_uJ, sA_uA, sA_uB, sB_uI, sB_uJ, sB_uA, sB_uB, sI_fA, sJ_fA, sA_fA, sB_fA, sI_z0, sJ_z0, sA_z0, sB_z0, Option.toList_some, Option.toList_none, List.cons_append, List.nil_append, true_and, and_true, false_and, and_false, or_false, false_or, or_true, true_or, not_true_eq_false, not_false_eq_true, ↓reduceIte, Nat.reduceAdd, Nat.reduceLeDiff, Nat.reduceEqDiff, Nat.reduceSub, Int32.reduceAdd, Int32.reduceSub, Int32.reduceMul, Int32.reduceToNatClampNeg, Int64.reduceAdd, Int64.reduceSub, Int64.reduceMul, Int64.reduceLT, Int32.reduceLT, Int32.reduceToInt, Nat.add_zero, Nat.zero_add, Nat.le_refl, eq_self, implies_true, ne_eq, g0, s0, g1, s1, g2, s2, g3, s3, g4, g5, g6, g7, g8, g9, g10, g11, g12, g13, g14, g15, g16, g17, g18, s18, g19, s19, g20, s20, g21, s21, g22, s22, g23, s23, ai1, aw1, ae1, as1, ai2, aw2, ae2, as2, ai3, aw3, ae3, as3, ai4, aw4, ain4, awn4, ae4, as4, ai5, aw5, ain5, awn5, ae5, as5, ai6, aw6, ae6, as6, ai7, aw7, ae7, as7, ai8, aw8, ae8, as8, ai9, aw9, ae9, as9, ai10, aw10, ain10, awn10, ae10, as10, ai11, aw11, ae11, as11, ai12, aw12, ae12, as12, ai13, aw13, ae13, as13, ai14, aw14, ae14, as14, c18, w18_0, w18_1, w18_4, w18_5, w18_6, w18_9, w18_12, w18_13, w18_16, w18_17, e1, e2]
def rqOk (s : St) (a : Int32) : Bool := decide ((¬ a < 0 ∧ a < sI s 0) ∧ sA s 4 a.toNatClampNeg = 0 ∧ sA s 5 a.toNatClampNeg = 0)
def rqS (s : St) (a : Int32) : St := uA s 5 a.toNatClampNeg 1
theorem t6 (h0 : (sI s 0).toInt ≤ 128) : Cl (pj lw) 6 [.ref p, .int a] (ob H p s) Q ↔ if rqOk s a = true then Q (some (.int 1)) (ob H p (rqS s a)) else Q (some (.int 0)) (ob H p s) := by
  rw [c6]; simp only [rqOk, rqS, decide_eq_true_eq]
  by_cases e1 : a < 0 <;> by_cases e2 : a < sI s 0
  · simp +decide only [w6_0, w6_1, w6_2, w6_5, w6_8, w6_9, w6_10, w6_11, w6_14, w6_15, w6_16, w6_19, w6_20, w6_23, w6_24, w6_25, w6_28, w6_29, w6_30, w6_31, w6_34, w6_35, w6_36, w6_37, w6_38, zr_z0, zr_uI, zr_uJ, isO_put, isOw_put, put_fst, okv_int, okv_long, okv_ref, okv_bool, okv_byte, cat1_unset, cat1_int, cat1_ref, cs_nil, cs_int, cs_ref, cs_long, cmpL_lt, cmpL_gt, cmpL_eq, sI_uI, sI_uJ, sI_uA, sI_uB, sJ_uI, sJ_uJ, sJ_uA, sJ_uB, sA_uI, sA_uJ, sA_uA, sA_uB, sB_uI, sB_uJ, sB_uA, sB_uB, sI_fA, sJ_fA, sA_fA, sB_fA, sI_z0, sJ_z0, sA_z0, sB_z0, Option.toList_some, Option.toList_none, List.cons_append, List.nil_append, true_and, and_true, false_and, and_false, or_false, false_or, or_true, true_or, not_true_eq_false, not_false_eq_true, ↓reduceIte, Nat.reduceAdd, Nat.reduceLeDiff, Nat.reduceEqDiff, Nat.reduceSub, Int32.reduceAdd, Int32.reduceSub, Int32.reduceMul, Int32.reduceToNatClampNeg, Int64.reduceAdd, Int64.reduceSub, Int64.reduceMul, Int64.reduceLT, Int32.reduceLT, Int32.reduceToInt, Nat.add_zero, Nat.zero_add, Nat.le_refl, eq_self, implies_true, ne_eq, g0, s0, g1, s1, g2, s2, g3, s3, g4, g5, g6, g7, g8, g9, g10, g11, g12, g13, g14, g15, g16, g17, g18, s18, g19, s19, g20, s20, g21, s21, g22, s22, g23, s23, ai1, aw1, ae1, as1, ai2, aw2, ae2, as2, ai3, aw3, ae3, as3, ai4, aw4, ain4, awn4, ae4, as4, ai5, aw5, ain5, awn5, ae5, as5, ai6, aw6, ae6, as6, ai7, aw7, ae7, as7, ai8, aw8, ae8, as8, ai9, aw9, ae9, as9, ai10, aw10, ain10, awn10, ae10, as10, ai11, aw11, ae11, as11, ai12, aw12, ae12, as12, ai13, aw13, ae13, as13, ai14, aw14, ae14, as14, c18, w18_0, w18_1, w18_4, w18_5, w18_6, w18_9, w18_12, w18_13, w18_16, w18_17, e1, e2]
  · simp +decide only [w6_0, w6_1, w6_2, w6_5, w6_8, w6_9, w6_10, w6_11, w6_14, w6_15, w6_16, w6_19, w6_20, w6_23, w6_24, w6_25, w6_28, w6_29, w6_30, w6_31, w6_34, w6_35, w6_36, w6_37, w6_38, zr_z0, zr_uI, zr_uJ, isO_put, isOw_put, put_fst, okv_int, okv_long, okv_ref, okv_bool, okv_byte, cat1_unset, cat1_int, cat1_ref, cs_nil, cs_int, cs_ref, cs_long, cmpL_lt, cmpL_gt, cmpL_eq, sI_uI, sI_uJ, sI_uA, sI_uB, sJ_uI, sJ_uJ, sJ_uA, sJ_uB, sA_uI, sA_uJ, sA_uA, sA_uB, sB_uI, sB_uJ, sB_uA, sB_uB, sI_fA, sJ_fA, sA_fA, sB_fA, sI_z0, sJ_z0, sA_z0, sB_z0, Option.toList_some, Option.toList_none, List.cons_append, List.nil_append, true_and, and_true, false_and, and_false, or_false, false_or, or_true, true_or, not_true_eq_false, not_false_eq_true, ↓reduceIte, Nat.reduceAdd, Nat.reduceLeDiff, Nat.reduceEqDiff, Nat.reduceSub, Int32.reduceAdd, Int32.reduceSub, Int32.reduceMul, Int32.reduceToNatClampNeg, Int64.reduceAdd, Int64.reduceSub, Int64.reduceMul, Int64.reduceLT, Int32.reduceLT, Int32.reduceToInt, Nat.add_zero, Nat.zero_add, Nat.le_refl, eq_self, implies_true, ne_eq, g0, s0, g1, s1, g2, s2, g3, s3, g4, g5, g6, g7, g8, g9, g10, g11, g12, g13, g14, g15, g16, g17, g18, s18, g19, s19, g20, s20, g21, s21, g22, s22, g23, s23, ai1, aw1, ae1, as1, ai2, aw2, ae2, as2, ai3, aw3, ae3, as3, ai4, aw4, ain4, awn4, ae4, as4, ai5, aw5, ain5, awn5, ae5, as5, ai6, aw6, ae6, as6, ai7, aw7, ae7, as7, ai8, aw8, ae8, as8, ai9, aw9, ae9, as9, ai10, aw10, ain10, awn10, ae10, as10, ai11, aw11, ae11, as11, ai12, aw12, ae12, as12, ai13, aw13, ae13, as13, ai14, aw14, ae14, as14, c18, w18_0, w18_1, w18_4, w18_5, w18_6, w18_9, w18_12, w18_13, w18_16, w18_17, e1, e2]
  · have h3 : 0 ≤ a.toInt ∧ a.toInt < 128 := by rw [lt32] at e1 e2; simp only [Int32.reduceToInt] at e1; omega
    by_cases e3 : sA s 4 a.toNatClampNeg = 0 <;> by_cases e4 : sA s 5 a.toNatClampNeg = 0 <;> simp +decide only [w6_0, w6_1, w6_2, w6_5, w6_8, w6_9, w6_10, w6_11, w6_14, w6_15, w6_16, w6_19, w6_20, w6_23, w6_24, w6_25, w6_28, w6_29, w6_30, w6_31, w6_34, w6_35, w6_36, w6_37, w6_38, zr_z0, zr_uI, zr_uJ, isO_put, isOw_put, put_fst, okv_int, okv_long, okv_ref, okv_bool, okv_byte, cat1_unset, cat1_int, cat1_ref, cs_nil, cs_int, cs_ref, cs_long, cmpL_lt, cmpL_gt, cmpL_eq, sI_uI, sI_uJ, sI_uA, sI_uB, sJ_uI, sJ_uJ, sJ_uA, sJ_uB, sA_uI, sA_uJ, sA_uA, sA_uB, sB_uI, sB_uJ, sB_uA, sB_uB, sI_fA, sJ_fA, sA_fA, sB_fA, sI_z0, sJ_z0, sA_z0, sB_z0, Option.toList_some, Option.toList_none, List.cons_append, List.nil_append, true_and, and_true, false_and, and_false, or_false, false_or, or_true, true_or, not_true_eq_false, not_false_eq_true, ↓reduceIte, Nat.reduceAdd, Nat.reduceLeDiff, Nat.reduceEqDiff, Nat.reduceSub, Int32.reduceAdd, Int32.reduceSub, Int32.reduceMul, Int32.reduceToNatClampNeg, Int64.reduceAdd, Int64.reduceSub, Int64.reduceMul, Int64.reduceLT, Int32.reduceLT, Int32.reduceToInt, Nat.add_zero, Nat.zero_add, Nat.le_refl, eq_self, implies_true, ne_eq, g0, s0, g1, s1, g2, s2, g3, s3, g4, g5, g6, g7, g8, g9, g10, g11, g12, g13, g14, g15, g16, g17, g18, s18, g19, s19, g20, s20, g21, s21, g22, s22, g23, s23, ai1, aw1, ae1, as1, ai2, aw2, ae2, as2, ai3, aw3, ae3, as3, ai4, aw4, ain4, awn4, ae4, as4, ai5, aw5, ain5, awn5, ae5, as5, ai6, aw6, ae6, as6, ai7, aw7, ae7, as7, ai8, aw8, ae8, as8, ai9, aw9, ae9, as9, ai10, aw10, ain10, awn10, ae10, as10, ai11, aw11, ae11, as11, ai12, aw12, ae12, as12, ai13, aw13, ae13, as13, ai14, aw14, ae14, as14, ain4, ain5, awn5, c18, w18_0, w18_1, w18_4, w18_5, w18_6, w18_9, w18_12, w18_13, w18_16, w18_17, e1, e2, e3, e4, h3]
  · simp +decide only [w6_0, w6_1, w6_2, w6_5, w6_8, w6_9, w6_10, w6_11, w6_14, w6_15, w6_16, w6_19, w6_20, w6_23, w6_24, w6_25, w6_28, w6_29, w6_30, w6_31, w6_34, w6_35, w6_36, w6_37, w6_38, zr_z0, zr_uI, zr_uJ, isO_put, isOw_put, put_fst, okv_int, okv_long, okv_ref, okv_bool, okv_byte, cat1_unset, cat1_int, cat1_ref, cs_nil, cs_int, cs_ref, cs_long, cmpL_lt, cmpL_gt, cmpL_eq, sI_uI, sI_uJ, sI_uA, sI_uB, sJ_uI, sJ_uJ, sJ_uA, sJ_uB, sA_uI, sA_uJ, sA_uA, sA_uB, sB_uI, sB_uJ, sB_uA, sB_uB, sI_fA, sJ_fA, sA_fA, sB_fA, sI_z0, sJ_z0, sA_z0, sB_z0, Option.toList_some, Option.toList_none, List.cons_append, List.nil_append, true_and, and_true, false_and, and_false, or_false, false_or, or_true, true_or, not_true_eq_false, not_false_eq_true, ↓reduceIte, Nat.reduceAdd, Nat.reduceLeDiff, Nat.reduceEqDiff, Nat.reduceSub, Int32.reduceAdd, Int32.reduceSub, Int32.reduceMul, Int32.reduceToNatClampNeg, Int64.reduceAdd, Int64.reduceSub, Int64.reduceMul, Int64.reduceLT, Int32.reduceLT, Int32.reduceToInt, Nat.add_zero, Nat.zero_add, Nat.le_refl, eq_self, implies_true, ne_eq, g0, s0, g1, s1, g2, s2, g3, s3, g4, g5, g6, g7, g8, g9, g10, g11, g12, g13, g14, g15, g16, g17, g18, s18, g19, s19, g20, s20, g21, s21, g22, s22, g23, s23, ai1, aw1, ae1, as1, ai2, aw2, ae2, as2, ai3, aw3, ae3, as3, ai4, aw4, ain4, awn4, ae4, as4, ai5, aw5, ain5, awn5, ae5, as5, ai6, aw6, ae6, as6, ai7, aw7, ae7, as7, ai8, aw8, ae8, as8, ai9, aw9, ae9, as9, ai10, aw10, ain10, awn10, ae10, as10, ai11, aw11, ae11, as11, ai12, aw12, ae12, as12, ai13, aw13, ae13, as13, ai14, aw14, ae14, as14, c18, w18_0, w18_1, w18_4, w18_5, w18_6, w18_9, w18_12, w18_13, w18_16, w18_17, e1, e2]
end C

section D
variable {lw : LW} {H : AH} {p q : Nat} {s s' : St} {Q : Option Value → AH → Prop} {a b c d : Int32} {h : Nat → Cel} {k n : Nat}
def gt (s : St) (t : Nat) (z a : Int32) : Int32 := if ¬ a < 0 ∧ a < sI s 0 then sA s t a.toNatClampNeg else z
theorem t8 (h0 : (sI s 0).toInt ≤ 128) : Cl (pj lw) 8 [.ref p, .int a] (ob H p s) Q ↔ Q (some (.int (gt s 1 (-1) a))) (ob H p s) := by
  rw [c8]; unfold gt
  by_cases e1 : a < 0 <;> by_cases e2 : a < sI s 0
  · simp +decide only [w8_0, w8_1, w8_2, w8_5, w8_8, w8_9, w8_12, w8_13, w8_14, w8_17, w8_18, zr_z0, zr_uI, zr_uJ, isO_put, isOw_put, put_fst, okv_int, okv_long, okv_ref, okv_bool, okv_byte, cat1_unset, cat1_int, cat1_ref, cs_nil, cs_int, cs_ref, cs_long, cmpL_lt, cmpL_gt, cmpL_eq, sI_uI, sI_uJ, sI_uA, sI_uB, sJ_uI, sJ_uJ, sJ_uA, sJ_uB, sA_uI, sA_uJ, sA_uA, sA_uB, sB_uI, sB_uJ, sB_uA, sB_uB, sI_fA, sJ_fA, sA_fA, sB_fA, sI_z0, sJ_z0, sA_z0, sB_z0, Option.toList_some, Option.toList_none, List.cons_append, List.nil_append, true_and, and_true, false_and, and_false, or_false, false_or, or_true, true_or, not_true_eq_false, not_false_eq_true, ↓reduceIte, Nat.reduceAdd, Nat.reduceLeDiff, Nat.reduceEqDiff, Nat.reduceSub, Int32.reduceAdd, Int32.reduceSub, Int32.reduceMul, Int32.reduceToNatClampNeg, Int64.reduceAdd, Int64.reduceSub, Int64.reduceMul, Int64.reduceLT, Int32.reduceLT, Int32.reduceToInt, Nat.add_zero, Nat.zero_add, Nat.le_refl, eq_self, implies_true, ne_eq, g0, s0, g1, s1, g2, s2, g3, s3, g4, g5, g6, g7, g8, g9, g10, g11, g12, g13, g14, g15, g16, g17, g18, s18, g19, s19, g20, s20, g21, s21, g22, s22, g23, s23, ai1, aw1, ae1, as1, ai2, aw2, ae2, as2, ai3, aw3, ae3, as3, ai4, aw4, ain4, awn4, ae4, as4, ai5, aw5, ain5, awn5, ae5, as5, ai6, aw6, ae6, as6, ai7, aw7, ae7, as7, ai8, aw8, ae8, as8, ai9, aw9, ae9, as9, ai10, aw10, ain10, awn10, ae10, as10, ai11, aw11, ae11, as11, ai12, aw12, ae12, as12, ai13, aw13, ae13, as13, ai14, aw14, ae14, as14, c18, w18_0, w18_1, w18_4, w18_5, w18_6, w18_9, w18_12, w18_13, w18_16, w18_17, e1, e2]
  · simp +decide only [w8_0, w8_1, w8_2, w8_5, w8_8, w8_9, w8_12, w8_13, w8_14, w8_17, w8_18, zr_z0, zr_uI, zr_uJ, isO_put, isOw_put, put_fst, okv_int, okv_long, okv_ref, okv_bool, okv_byte, cat1_unset, cat1_int, cat1_ref, cs_nil, cs_int, cs_ref, cs_long, cmpL_lt, cmpL_gt, cmpL_eq, sI_uI, sI_uJ, sI_uA, sI_uB, sJ_uI, sJ_uJ, sJ_uA, sJ_uB, sA_uI, sA_uJ, sA_uA, sA_uB, sB_uI, sB_uJ, sB_uA, sB_uB, sI_fA, sJ_fA, sA_fA, sB_fA, sI_z0, sJ_z0, sA_z0, sB_z0, Option.toList_some, Option.toList_none, List.cons_append, List.nil_append, true_and, and_true, false_and, and_false, or_false, false_or, or_true, true_or, not_true_eq_false, not_false_eq_true, ↓reduceIte, Nat.reduceAdd, Nat.reduceLeDiff, Nat.reduceEqDiff, Nat.reduceSub, Int32.reduceAdd, Int32.reduceSub, Int32.reduceMul, Int32.reduceToNatClampNeg, Int64.reduceAdd, Int64.reduceSub, Int64.reduceMul, Int64.reduceLT, Int32.reduceLT, Int32.reduceToInt, Nat.add_zero, Nat.zero_add, Nat.le_refl, eq_self, implies_true, ne_eq, g0, s0, g1, s1, g2, s2, g3, s3, g4, g5, g6, g7, g8, g9, g10, g11, g12, g13, g14, g15, g16, g17, g18, s18, g19, s19, g20, s20, g21, s21, g22, s22, g23, s23, ai1, aw1, ae1, as1, ai2, aw2, ae2, as2, ai3, aw3, ae3, as3, ai4, aw4, ain4, awn4, ae4, as4, ai5, aw5, ain5, awn5, ae5, as5, ai6, aw6, ae6, as6, ai7, aw7, ae7, as7, ai8, aw8, ae8, as8, ai9, aw9, ae9, as9, ai10, aw10, ain10, awn10, ae10, as10, ai11, aw11, ae11, as11, ai12, aw12, ae12, as12, ai13, aw13, ae13, as13, ai14, aw14, ae14, as14, c18, w18_0, w18_1, w18_4, w18_5, w18_6, w18_9, w18_12, w18_13, w18_16, w18_17, e1, e2]
  · have h3 : 0 ≤ a.toInt ∧ a.toInt < 128 := by rw [lt32] at e1 e2; simp only [Int32.reduceToInt] at e1; omega
    simp +decide only [w8_0, w8_1, w8_2, w8_5, w8_8, w8_9, w8_12, w8_13, w8_14, w8_17, w8_18, zr_z0, zr_uI, zr_uJ, isO_put, isOw_put, put_fst, okv_int, okv_long, okv_ref, okv_bool, okv_byte, cat1_unset, cat1_int, cat1_ref, cs_nil, cs_int, cs_ref, cs_long, cmpL_lt, cmpL_gt, cmpL_eq, sI_uI, sI_uJ, sI_uA, sI_uB, sJ_uI, sJ_uJ, sJ_uA, sJ_uB, sA_uI, sA_uJ, sA_uA, sA_uB, sB_uI, sB_uJ, sB_uA, sB_uB, sI_fA, sJ_fA, sA_fA, sB_fA, sI_z0, sJ_z0, sA_z0, sB_z0, Option.toList_some, Option.toList_none, List.cons_append, List.nil_append, true_and, and_true, false_and, and_false, or_false, false_or, or_true, true_or, not_true_eq_false, not_false_eq_true, ↓reduceIte, Nat.reduceAdd, Nat.reduceLeDiff, Nat.reduceEqDiff, Nat.reduceSub, Int32.reduceAdd, Int32.reduceSub, Int32.reduceMul, Int32.reduceToNatClampNeg, Int64.reduceAdd, Int64.reduceSub, Int64.reduceMul, Int64.reduceLT, Int32.reduceLT, Int32.reduceToInt, Nat.add_zero, Nat.zero_add, Nat.le_refl, eq_self, implies_true, ne_eq, g0, s0, g1, s1, g2, s2, g3, s3, g4, g5, g6, g7, g8, g9, g10, g11, g12, g13, g14, g15, g16, g17, g18, s18, g19, s19, g20, s20, g21, s21, g22, s22, g23, s23, ai1, aw1, ae1, as1, ai2, aw2, ae2, as2, ai3, aw3, ae3, as3, ai4, aw4, ain4, awn4, ae4, as4, ai5, aw5, ain5, awn5, ae5, as5, ai6, aw6, ae6, as6, ai7, aw7, ae7, as7, ai8, aw8, ae8, as8, ai9, aw9, ae9, as9, ai10, aw10, ain10, awn10, ae10, as10, ai11, aw11, ae11, as11, ai12, aw12, ae12, as12, ai13, aw13, ae13, as13, ai14, aw14, ae14, as14, c18, w18_0, w18_1, w18_4, w18_5, w18_6, w18_9, w18_12, w18_13, w18_16, w18_17, e1, e2, h3]
  · simp +decide only [w8_0, w8_1, w8_2, w8_5, w8_8, w8_9, w8_12, w8_13, w8_14, w8_17, w8_18, zr_z0, zr_uI, zr_uJ, isO_put, isOw_put, put_fst, okv_int, okv_long, okv_ref, okv_bool, okv_byte, cat1_unset, cat1_int, cat1_ref, cs_nil, cs_int, cs_ref, cs_long, cmpL_lt, cmpL_gt, cmpL_eq, sI_uI, sI_uJ, sI_uA, sI_uB, sJ_uI, sJ_uJ, sJ_uA, sJ_uB, sA_uI, sA_uJ, sA_uA, sA_uB, sB_uI, sB_uJ, sB_uA, sB_uB, sI_fA, sJ_fA, sA_fA, sB_fA, sI_z0, sJ_z0, sA_z0, sB_z0, Option.toList_some, Option.toList_none, List.cons_append, List.nil_append, true_and, and_true, false_and, and_false, or_false, false_or, or_true, true_or, not_true_eq_false, not_false_eq_true, ↓reduceIte, Nat.reduceAdd, Nat.reduceLeDiff, Nat.reduceEqDiff, Nat.reduceSub, Int32.reduceAdd, Int32.reduceSub, Int32.reduceMul, Int32.reduceToNatClampNeg, Int64.reduceAdd, Int64.reduceSub, Int64.reduceMul, Int64.reduceLT, Int32.reduceLT, Int32.reduceToInt, Nat.add_zero, Nat.zero_add, Nat.le_refl, eq_self, implies_true, ne_eq, g0, s0, g1, s1, g2, s2, g3, s3, g4, g5, g6, g7, g8, g9, g10, g11, g12, g13, g14, g15, g16, g17, g18, s18, g19, s19, g20, s20, g21, s21, g22, s22, g23, s23, ai1, aw1, ae1, as1, ai2, aw2, ae2, as2, ai3, aw3, ae3, as3, ai4, aw4, ain4, awn4, ae4, as4, ai5, aw5, ain5, awn5, ae5, as5, ai6, aw6, ae6, as6, ai7, aw7, ae7, as7, ai8, aw8, ae8, as8, ai9, aw9, ae9, as9, ai10, aw10, ain10, awn10, ae10, as10, ai11, aw11, ae11, as11, ai12, aw12, ae12, as12, ai13, aw13, ae13, as13, ai14, aw14, ae14, as14, c18, w18_0, w18_1, w18_4, w18_5, w18_6, w18_9, w18_12, w18_13, w18_16, w18_17, e1, e2]
theorem t9 (h0 : (sI s 0).toInt ≤ 128) : Cl (pj lw) 9 [.ref p, .int a] (ob H p s) Q ↔ Q (some (.int (gt s 2 (-1) a))) (ob H p s) := by
  rw [c9]; unfold gt
  by_cases e1 : a < 0 <;> by_cases e2 : a < sI s 0
  · simp +decide only [w9_0, w9_1, w9_2, w9_5, w9_8, w9_9, w9_12, w9_13, w9_14, w9_17, w9_18, zr_z0, zr_uI, zr_uJ, isO_put, isOw_put, put_fst, okv_int, okv_long, okv_ref, okv_bool, okv_byte, cat1_unset, cat1_int, cat1_ref, cs_nil, cs_int, cs_ref, cs_long, cmpL_lt, cmpL_gt, cmpL_eq, sI_uI, sI_uJ, sI_uA, sI_uB, sJ_uI, sJ_uJ, sJ_uA, sJ_uB, sA_uI, sA_uJ, sA_uA, sA_uB, sB_uI, sB_uJ, sB_uA, sB_uB, sI_fA, sJ_fA, sA_fA, sB_fA, sI_z0, sJ_z0, sA_z0, sB_z0, Option.toList_some, Option.toList_none, List.cons_append, List.nil_append, true_and, and_true, false_and, and_false, or_false, false_or, or_true, true_or, not_true_eq_false, not_false_eq_true, ↓reduceIte, Nat.reduceAdd, Nat.reduceLeDiff, Nat.reduceEqDiff, Nat.reduceSub, Int32.reduceAdd, Int32.reduceSub, Int32.reduceMul, Int32.reduceToNatClampNeg, Int64.reduceAdd, Int64.reduceSub, Int64.reduceMul, Int64.reduceLT, Int32.reduceLT, Int32.reduceToInt, Nat.add_zero, Nat.zero_add, Nat.le_refl, eq_self, implies_true, ne_eq, g0, s0, g1, s1, g2, s2, g3, s3, g4, g5, g6, g7, g8, g9, g10, g11, g12, g13, g14, g15, g16, g17, g18, s18, g19, s19, g20, s20, g21, s21, g22, s22, g23, s23, ai1, aw1, ae1, as1, ai2, aw2, ae2, as2, ai3, aw3, ae3, as3, ai4, aw4, ain4, awn4, ae4, as4, ai5, aw5, ain5, awn5, ae5, as5, ai6, aw6, ae6, as6, ai7, aw7, ae7, as7, ai8, aw8, ae8, as8, ai9, aw9, ae9, as9, ai10, aw10, ain10, awn10, ae10, as10, ai11, aw11, ae11, as11, ai12, aw12, ae12, as12, ai13, aw13, ae13, as13, ai14, aw14, ae14, as14, c18, w18_0, w18_1, w18_4, w18_5, w18_6, w18_9, w18_12, w18_13, w18_16, w18_17, e1, e2]
  · simp +decide only [w9_0, w9_1, w9_2, w9_5, w9_8, w9_9, w9_12, w9_13, w9_14, w9_17, w9_18, zr_z0, zr_uI, zr_uJ, isO_put, isOw_put, put_fst, okv_int, okv_long, okv_ref, okv_bool, okv_byte, cat1_unset, cat1_int, cat1_ref, cs_nil, cs_int, cs_ref, cs_long, cmpL_lt, cmpL_gt, cmpL_eq, sI_uI, sI_uJ, sI_uA, sI_uB, sJ_uI, sJ_uJ, sJ_uA, sJ_uB, sA_uI, sA_uJ, sA_uA, sA_uB, sB_uI, sB_uJ, sB_uA, sB_uB, sI_fA, sJ_fA, sA_fA, sB_fA, sI_z0, sJ_z0, sA_z0, sB_z0, Option.toList_some, Option.toList_none, List.cons_append, List.nil_append, true_and, and_true, false_and, and_false, or_false, false_or, or_true, true_or, not_true_eq_false, not_false_eq_true, ↓reduceIte, Nat.reduceAdd, Nat.reduceLeDiff, Nat.reduceEqDiff, Nat.reduceSub, Int32.reduceAdd, Int32.reduceSub, Int32.reduceMul, Int32.reduceToNatClampNeg, Int64.reduceAdd, Int64.reduceSub, Int64.reduceMul, Int64.reduceLT, Int32.reduceLT, Int32.reduceToInt, Nat.add_zero, Nat.zero_add, Nat.le_refl, eq_self, implies_true, ne_eq, g0, s0, g1, s1, g2, s2, g3, s3, g4, g5, g6, g7, g8, g9, g10, g11, g12, g13, g14, g15, g16, g17, g18, s18, g19, s19, g20, s20, g21, s21, g22, s22, g23, s23, ai1, aw1, ae1, as1, ai2, aw2, ae2, as2, ai3, aw3, ae3, as3, ai4, aw4, ain4, awn4, ae4, as4, ai5, aw5, ain5, awn5, ae5, as5, ai6, aw6, ae6, as6, ai7, aw7, ae7, as7, ai8, aw8, ae8, as8, ai9, aw9, ae9, as9, ai10, aw10, ain10, awn10, ae10, as10, ai11, aw11, ae11, as11, ai12, aw12, ae12, as12, ai13, aw13, ae13, as13, ai14, aw14, ae14, as14, c18, w18_0, w18_1, w18_4, w18_5, w18_6, w18_9, w18_12, w18_13, w18_16, w18_17, e1, e2]
  · have h3 : 0 ≤ a.toInt ∧ a.toInt < 128 := by rw [lt32] at e1 e2; simp only [Int32.reduceToInt] at e1; omega
    simp +decide only [w9_0, w9_1, w9_2, w9_5, w9_8, w9_9, w9_12, w9_13, w9_14, w9_17, w9_18, zr_z0, zr_uI, zr_uJ, isO_put, isOw_put, put_fst, okv_int, okv_long, okv_ref, okv_bool, okv_byte, cat1_unset, cat1_int, cat1_ref, cs_nil, cs_int, cs_ref, cs_long, cmpL_lt, cmpL_gt, cmpL_eq, sI_uI, sI_uJ, sI_uA, sI_uB, sJ_uI, sJ_uJ, sJ_uA, sJ_uB, sA_uI, sA_uJ, sA_uA, sA_uB, sB_uI, sB_uJ, sB_uA, sB_uB, sI_fA, sJ_fA, sA_fA, sB_fA, sI_z0, sJ_z0, sA_z0, sB_z0, Option.toList_some, Option.toList_none, List.cons_append, List.nil_append, true_and, and_true, false_and, and_false, or_false, false_or, or_true, true_or, not_true_eq_false, not_false_eq_true, ↓reduceIte, Nat.reduceAdd, Nat.reduceLeDiff, Nat.reduceEqDiff, Nat.reduceSub, Int32.reduceAdd, Int32.reduceSub, Int32.reduceMul, Int32.reduceToNatClampNeg, Int64.reduceAdd, Int64.reduceSub, Int64.reduceMul, Int64.reduceLT, Int32.reduceLT, Int32.reduceToInt, Nat.add_zero, Nat.zero_add, Nat.le_refl, eq_self, implies_true, ne_eq, g0, s0, g1, s1, g2, s2, g3, s3, g4, g5, g6, g7, g8, g9, g10, g11, g12, g13, g14, g15, g16, g17, g18, s18, g19, s19, g20, s20, g21, s21, g22, s22, g23, s23, ai1, aw1, ae1, as1, ai2, aw2, ae2, as2, ai3, aw3, ae3, as3, ai4, aw4, ain4, awn4, ae4, as4, ai5, aw5, ain5, awn5, ae5, as5, ai6, aw6, ae6, as6, ai7, aw7, ae7, as7, ai8, aw8, ae8, as8, ai9, aw9, ae9, as9, ai10, aw10, ain10, awn10, ae10, as10, ai11, aw11, ae11, as11, ai12, aw12, ae12, as12, ai13, aw13, ae13, as13, ai14, aw14, ae14, as14, c18, w18_0, w18_1, w18_4, w18_5, w18_6, w18_9, w18_12, w18_13, w18_16, w18_17, e1, e2, h3]
  · simp +decide only [w9_0, w9_1, w9_2, w9_5, w9_8, w9_9, w9_12, w9_13, w9_14, w9_17, w9_18, zr_z0, zr_uI, zr_uJ, isO_put, isOw_put, put_fst, okv_int, okv_long, okv_ref, okv_bool, okv_byte, cat1_unset, cat1_int, cat1_ref, cs_nil, cs_int, cs_ref, cs_long, cmpL_lt, cmpL_gt, cmpL_eq, sI_uI, sI_uJ, sI_uA, sI_uB, sJ_uI, sJ_uJ, sJ_uA, sJ_uB, sA_uI, sA_uJ, sA_uA, sA_uB, sB_uI, sB_uJ, sB_uA, sB_uB, sI_fA, sJ_fA, sA_fA, sB_fA, sI_z0, sJ_z0, sA_z0, sB_z0, Option.toList_some, Option.toList_none, List.cons_append, List.nil_append, true_and, and_true, false_and, and_false, or_false, false_or, or_true, true_or, not_true_eq_false, not_false_eq_true, ↓reduceIte, Nat.reduceAdd, Nat.reduceLeDiff, Nat.reduceEqDiff, Nat.reduceSub, Int32.reduceAdd, Int32.reduceSub, Int32.reduceMul, Int32.reduceToNatClampNeg, Int64.reduceAdd, Int64.reduceSub, Int64.reduceMul, Int64.reduceLT, Int32.reduceLT, Int32.reduceToInt, Nat.add_zero, Nat.zero_add, Nat.le_refl, eq_self, implies_true, ne_eq, g0, s0, g1, s1, g2, s2, g3, s3, g4, g5, g6, g7, g8, g9, g10, g11, g12, g13, g14, g15, g16, g17, g18, s18, g19, s19, g20, s20, g21, s21, g22, s22, g23, s23, ai1, aw1, ae1, as1, ai2, aw2, ae2, as2, ai3, aw3, ae3, as3, ai4, aw4, ain4, awn4, ae4, as4, ai5, aw5, ain5, awn5, ae5, as5, ai6, aw6, ae6, as6, ai7, aw7, ae7, as7, ai8, aw8, ae8, as8, ai9, aw9, ae9, as9, ai10, aw10, ain10, awn10, ae10, as10, ai11, aw11, ae11, as11, ai12, aw12, ae12, as12, ai13, aw13, ae13, as13, ai14, aw14, ae14, as14, c18, w18_0, w18_1, w18_4, w18_5, w18_6, w18_9, w18_12, w18_13, w18_16, w18_17, e1, e2]
theorem t10 (h0 : (sI s 0).toInt ≤ 128) : Cl (pj lw) 10 [.ref p, .int a] (ob H p s) Q ↔ Q (some (.int (gt s 3 (-1) a))) (ob H p s) := by
  rw [c10]; unfold gt
  by_cases e1 : a < 0 <;> by_cases e2 : a < sI s 0
  · simp +decide only [w10_0, w10_1, w10_2, w10_5, w10_8, w10_9, w10_12, w10_13, w10_14, w10_17, w10_18, zr_z0, zr_uI, zr_uJ, isO_put, isOw_put, put_fst, okv_int, okv_long, okv_ref, okv_bool, okv_byte, cat1_unset, cat1_int, cat1_ref, cs_nil, cs_int, cs_ref, cs_long, cmpL_lt, cmpL_gt, cmpL_eq, sI_uI, sI_uJ, sI_uA, sI_uB, sJ_uI, sJ_uJ, sJ_uA, sJ_uB, sA_uI, sA_uJ, sA_uA, sA_uB, sB_uI, sB_uJ, sB_uA, sB_uB, sI_fA, sJ_fA, sA_fA, sB_fA, sI_z0, sJ_z0, sA_z0, sB_z0, Option.toList_some, Option.toList_none, List.cons_append, List.nil_append, true_and, and_true, false_and, and_false, or_false, false_or, or_true, true_or, not_true_eq_false, not_false_eq_true, ↓reduceIte, Nat.reduceAdd, Nat.reduceLeDiff, Nat.reduceEqDiff, Nat.reduceSub, Int32.reduceAdd, Int32.reduceSub, Int32.reduceMul, Int32.reduceToNatClampNeg, Int64.reduceAdd, Int64.reduceSub, Int64.reduceMul, Int64.reduceLT, Int32.reduceLT, Int32.reduceToInt, Nat.add_zero, Nat.zero_add, Nat.le_refl, eq_self, implies_true, ne_eq, g0, s0, g1, s1, g2, s2, g3, s3, g4, g5, g6, g7, g8, g9, g10, g11, g12, g13, g14, g15, g16, g17, g18, s18, g19, s19, g20, s20, g21, s21, g22, s22, g23, s23, ai1, aw1, ae1, as1, ai2, aw2, ae2, as2, ai3, aw3, ae3, as3, ai4, aw4, ain4, awn4, ae4, as4, ai5, aw5, ain5, awn5, ae5, as5, ai6, aw6, ae6, as6, ai7, aw7, ae7, as7, ai8, aw8, ae8, as8, ai9, aw9, ae9, as9, ai10, aw10, ain10, awn10, ae10, as10, ai11, aw11, ae11, as11, ai12, aw12, ae12, as12, ai13, aw13, ae13, as13, ai14, aw14, ae14, as14, c18, w18_0, w18_1, w18_4, w18_5, w18_6, w18_9, w18_12, w18_13, w18_16, w18_17, e1, e2]
  · simp +decide only [w10_0, w10_1, w10_2, w10_5, w10_8, w10_9, w10_12, w10_13, w10_14, w10_17, w10_18, zr_z0, zr_uI, zr_uJ, isO_put, isOw_put, put_fst, okv_int, okv_long, okv_ref, okv_bool, okv_byte, cat1_unset, cat1_int, cat1_ref, cs_nil, cs_int, cs_ref, cs_long, cmpL_lt, cmpL_gt, cmpL_eq, sI_uI, sI_uJ, sI_uA, sI_uB, sJ_uI, sJ_uJ, sJ_uA, sJ_uB, sA_uI, sA_uJ, sA_uA, sA_uB, sB_uI, sB_uJ, sB_uA, sB_uB, sI_fA, sJ_fA, sA_fA, sB_fA, sI_z0, sJ_z0, sA_z0, sB_z0, Option.toList_some, Option.toList_none, List.cons_append, List.nil_append, true_and, and_true, false_and, and_false, or_false, false_or, or_true, true_or, not_true_eq_false, not_false_eq_true, ↓reduceIte, Nat.reduceAdd, Nat.reduceLeDiff, Nat.reduceEqDiff, Nat.reduceSub, Int32.reduceAdd, Int32.reduceSub, Int32.reduceMul, Int32.reduceToNatClampNeg, Int64.reduceAdd, Int64.reduceSub, Int64.reduceMul, Int64.reduceLT, Int32.reduceLT, Int32.reduceToInt, Nat.add_zero, Nat.zero_add, Nat.le_refl, eq_self, implies_true, ne_eq, g0, s0, g1, s1, g2, s2, g3, s3, g4, g5, g6, g7, g8, g9, g10, g11, g12, g13, g14, g15, g16, g17, g18, s18, g19, s19, g20, s20, g21, s21, g22, s22, g23, s23, ai1, aw1, ae1, as1, ai2, aw2, ae2, as2, ai3, aw3, ae3, as3, ai4, aw4, ain4, awn4, ae4, as4, ai5, aw5, ain5, awn5, ae5, as5, ai6, aw6, ae6, as6, ai7, aw7, ae7, as7, ai8, aw8, ae8, as8, ai9, aw9, ae9, as9, ai10, aw10, ain10, awn10, ae10, as10, ai11, aw11, ae11, as11, ai12, aw12, ae12, as12, ai13, aw13, ae13, as13, ai14, aw14, ae14, as14, c18, w18_0, w18_1, w18_4, w18_5, w18_6, w18_9, w18_12, w18_13, w18_16, w18_17, e1, e2]
  · have h3 : 0 ≤ a.toInt ∧ a.toInt < 128 := by rw [lt32] at e1 e2; simp only [Int32.reduceToInt] at e1; omega
    simp +decide only [w10_0, w10_1, w10_2, w10_5, w10_8, w10_9, w10_12, w10_13, w10_14, w10_17, w10_18, zr_z0, zr_uI, zr_uJ, isO_put, isOw_put, put_fst, okv_int, okv_long, okv_ref, okv_bool, okv_byte, cat1_unset, cat1_int, cat1_ref, cs_nil, cs_int, cs_ref, cs_long, cmpL_lt, cmpL_gt, cmpL_eq, sI_uI, sI_uJ, sI_uA, sI_uB, sJ_uI, sJ_uJ, sJ_uA, sJ_uB, sA_uI, sA_uJ, sA_uA, sA_uB, sB_uI, sB_uJ, sB_uA, sB_uB, sI_fA, sJ_fA, sA_fA, sB_fA, sI_z0, sJ_z0, sA_z0, sB_z0, Option.toList_some, Option.toList_none, List.cons_append, List.nil_append, true_and, and_true, false_and, and_false, or_false, false_or, or_true, true_or, not_true_eq_false, not_false_eq_true, ↓reduceIte, Nat.reduceAdd, Nat.reduceLeDiff, Nat.reduceEqDiff, Nat.reduceSub, Int32.reduceAdd, Int32.reduceSub, Int32.reduceMul, Int32.reduceToNatClampNeg, Int64.reduceAdd, Int64.reduceSub, Int64.reduceMul, Int64.reduceLT, Int32.reduceLT, Int32.reduceToInt, Nat.add_zero, Nat.zero_add, Nat.le_refl, eq_self, implies_true, ne_eq, g0, s0, g1, s1, g2, s2, g3, s3, g4, g5, g6, g7, g8, g9, g10, g11, g12, g13, g14, g15, g16, g17, g18, s18, g19, s19, g20, s20, g21, s21, g22, s22, g23, s23, ai1, aw1, ae1, as1, ai2, aw2, ae2, as2, ai3, aw3, ae3, as3, ai4, aw4, ain4, awn4, ae4, as4, ai5, aw5, ain5, awn5, ae5, as5, ai6, aw6, ae6, as6, ai7, aw7, ae7, as7, ai8, aw8, ae8, as8, ai9, aw9, ae9, as9, ai10, aw10, ain10, awn10, ae10, as10, ai11, aw11, ae11, as11, ai12, aw12, ae12, as12, ai13, aw13, ae13, as13, ai14, aw14, ae14, as14, c18, w18_0, w18_1, w18_4, w18_5, w18_6, w18_9, w18_12, w18_13, w18_16, w18_17, e1, e2, h3]
  · simp +decide only [w10_0, w10_1, w10_2, w10_5, w10_8, w10_9, w10_12, w10_13, w10_14, w10_17, w10_18, zr_z0, zr_uI, zr_uJ, isO_put, isOw_put, put_fst, okv_int, okv_long, okv_ref, okv_bool, okv_byte, cat1_unset, cat1_int, cat1_ref, cs_nil, cs_int, cs_ref, cs_long, cmpL_lt, cmpL_gt, cmpL_eq, sI_uI, sI_uJ, sI_uA, sI_uB, sJ_uI, sJ_uJ, sJ_uA, sJ_uB, sA_uI, sA_uJ, sA_uA, sA_uB, sB_uI, sB_uJ, sB_uA, sB_uB, sI_fA, sJ_fA, sA_fA, sB_fA, sI_z0, sJ_z0, sA_z0, sB_z0, Option.toList_some, Option.toList_none, List.cons_append, List.nil_append, true_and, and_true, false_and, and_false, or_false, false_or, or_true, true_or, not_true_eq_false, not_false_eq_true, ↓reduceIte, Nat.reduceAdd, Nat.reduceLeDiff, Nat.reduceEqDiff, Nat.reduceSub, Int32.reduceAdd, Int32.reduceSub, Int32.reduceMul, Int32.reduceToNatClampNeg, Int64.reduceAdd, Int64.reduceSub, Int64.reduceMul, Int64.reduceLT, Int32.reduceLT, Int32.reduceToInt, Nat.add_zero, Nat.zero_add, Nat.le_refl, eq_self, implies_true, ne_eq, g0, s0, g1, s1, g2, s2, g3, s3, g4, g5, g6, g7, g8, g9, g10, g11, g12, g13, g14, g15, g16, g17, g18, s18, g19, s19, g20, s20, g21, s21, g22, s22, g23, s23, ai1, aw1, ae1, as1, ai2, aw2, ae2, as2, ai3, aw3, ae3, as3, ai4, aw4, ain4, awn4, ae4, as4, ai5, aw5, ain5, awn5, ae5, as5, ai6, aw6, ae6, as6, ai7, aw7, ae7, as7, ai8, aw8, ae8, as8, ai9, aw9, ae9, as9, ai10, aw10, ain10, awn10, ae10, as10, ai11, aw11, ae11, as11, ai12, aw12, ae12, as12, ai13, aw13, ae13, as13, ai14, aw14, ae14, as14, c18, w18_0, w18_1, w18_4, w18_5, w18_6, w18_9, w18_12, w18_13, w18_16, w18_17, e1, e2]
theorem t12 (h0 : (sI s 0).toInt ≤ 128) : Cl (pj lw) 12 [.ref p, .int a] (ob H p s) Q ↔ Q (some (.int (gt s 6 (-2) a))) (ob H p s) := by
  rw [c12]; unfold gt
  by_cases e1 : a < 0 <;> by_cases e2 : a < sI s 0
  · simp +decide only [w12_0, w12_1, w12_2, w12_5, w12_8, w12_9, w12_12, w12_13, w12_14, w12_17, w12_19, zr_z0, zr_uI, zr_uJ, isO_put, isOw_put, put_fst, okv_int, okv_long, okv_ref, okv_bool, okv_byte, cat1_unset, cat1_int, cat1_ref, cs_nil, cs_int, cs_ref, cs_long, cmpL_lt, cmpL_gt, cmpL_eq, sI_uI, sI_uJ, sI_uA, sI_uB, sJ_uI, sJ_uJ, sJ_uA, sJ_uB, sA_uI, sA_uJ, sA_uA, sA_uB, sB_uI, sB_uJ, sB_uA, sB_uB, sI_fA, sJ_fA, sA_fA, sB_fA, sI_z0, sJ_z0, sA_z0, sB_z0, Option.toList_some, Option.toList_none, List.cons_append, List.nil_append, true_and, and_true, false_and, and_false, or_false, false_or, or_true, true_or, not_true_eq_false, not_false_eq_true, ↓reduceIte, Nat.reduceAdd, Nat.reduceLeDiff, Nat.reduceEqDiff, Nat.reduceSub, Int32.reduceAdd, Int32.reduceSub, Int32.reduceMul, Int32.reduceToNatClampNeg, Int64.reduceAdd, Int64.reduceSub, Int64.reduceMul, Int64.reduceLT, Int32.reduceLT, Int32.reduceToInt, Nat.add_zero, Nat.zero_add, Nat.le_refl, eq_self, implies_true, ne_eq, g0, s0, g1, s1, g2, s2, g3, s3, g4, g5, g6, g7, g8, g9, g10, g11, g12, g13, g14, g15, g16, g17, g18, s18, g19, s19, g20, s20, g21, s21, g22, s22, g23, s23, ai1, aw1, ae1, as1, ai2, aw2, ae2, as2, ai3, aw3, ae3, as3, ai4, aw4, ain4, awn4, ae4, as4, ai5, aw5, ain5, awn5, ae5, as5, ai6, aw6, ae6, as6, ai7, aw7, ae7, as7, ai8, aw8, ae8, as8, ai9, aw9, ae9, as9, ai10, aw10, ain10, awn10, ae10, as10, ai11, aw11, ae11, as11, ai12, aw12, ae12, as12, ai13, aw13, ae13, as13, ai14, aw14, ae14, as14, c18, w18_0, w18_1, w18_4, w18_5, w18_6, w18_9, w18_12, w18_13, w18_16, w18_17, e1, e2]
  · simp +decide only [w12_0, w12_1, w12_2, w12_5, w12_8, w12_9, w12_12, w12_13, w12_14, w12_17, w12_19, zr_z0, zr_uI, zr_uJ, isO_put, isOw_put, put_fst, okv_int, okv_long, okv_ref, okv_bool, okv_byte, cat1_unset, cat1_int, cat1_ref, cs_nil, cs_int, cs_ref, cs_long, cmpL_lt, cmpL_gt, cmpL_eq, sI_uI, sI_uJ, sI_uA, sI_uB, sJ_uI, sJ_uJ, sJ_uA, sJ_uB, sA_uI, sA_uJ, sA_uA, sA_uB, sB_uI, sB_uJ, sB_uA, sB_uB, sI_fA, sJ_fA, sA_fA, sB_fA, sI_z0, sJ_z0, sA_z0, sB_z0, Option.toList_some, Option.toList_none, List.cons_append, List.nil_append, true_and, and_true, false_and, and_false, or_false, false_or, or_true, true_or, not_true_eq_false, not_false_eq_true, ↓reduceIte, Nat.reduceAdd, Nat.reduceLeDiff, Nat.reduceEqDiff, Nat.reduceSub, Int32.reduceAdd, Int32.reduceSub, Int32.reduceMul, Int32.reduceToNatClampNeg, Int64.reduceAdd, Int64.reduceSub, Int64.reduceMul, Int64.reduceLT, Int32.reduceLT, Int32.reduceToInt, Nat.add_zero, Nat.zero_add, Nat.le_refl, eq_self, implies_true, ne_eq, g0, s0, g1, s1, g2, s2, g3, s3, g4, g5, g6, g7, g8, g9, g10, g11, g12, g13, g14, g15, g16, g17, g18, s18, g19, s19, g20, s20, g21, s21, g22, s22, g23, s23, ai1, aw1, ae1, as1, ai2, aw2, ae2, as2, ai3, aw3, ae3, as3, ai4, aw4, ain4, awn4, ae4, as4, ai5, aw5, ain5, awn5, ae5, as5, ai6, aw6, ae6, as6, ai7, aw7, ae7, as7, ai8, aw8, ae8, as8, ai9, aw9, ae9, as9, ai10, aw10, ain10, awn10, ae10, as10, ai11, aw11, ae11, as11, ai12, aw12, ae12, as12, ai13, aw13, ae13, as13, ai14, aw14, ae14, as14, c18, w18_0, w18_1, w18_4, w18_5, w18_6, w18_9, w18_12, w18_13, w18_16, w18_17, e1, e2]
  · have h3 : 0 ≤ a.toInt ∧ a.toInt < 128 := by rw [lt32] at e1 e2; simp only [Int32.reduceToInt] at e1; omega
    simp +decide only [w12_0, w12_1, w12_2, w12_5, w12_8, w12_9, w12_12, w12_13, w12_14, w12_17, w12_19, zr_z0, zr_uI, zr_uJ, isO_put, isOw_put, put_fst, okv_int, okv_long, okv_ref, okv_bool, okv_byte, cat1_unset, cat1_int, cat1_ref, cs_nil, cs_int, cs_ref, cs_long, cmpL_lt, cmpL_gt, cmpL_eq, sI_uI, sI_uJ, sI_uA, sI_uB, sJ_uI, sJ_uJ, sJ_uA, sJ_uB, sA_uI, sA_uJ, sA_uA, sA_uB, sB_uI, sB_uJ, sB_uA, sB_uB, sI_fA, sJ_fA, sA_fA, sB_fA, sI_z0, sJ_z0, sA_z0, sB_z0, Option.toList_some, Option.toList_none, List.cons_append, List.nil_append, true_and, and_true, false_and, and_false, or_false, false_or, or_true, true_or, not_true_eq_false, not_false_eq_true, ↓reduceIte, Nat.reduceAdd, Nat.reduceLeDiff, Nat.reduceEqDiff, Nat.reduceSub, Int32.reduceAdd, Int32.reduceSub, Int32.reduceMul, Int32.reduceToNatClampNeg, Int64.reduceAdd, Int64.reduceSub, Int64.reduceMul, Int64.reduceLT, Int32.reduceLT, Int32.reduceToInt, Nat.add_zero, Nat.zero_add, Nat.le_refl, eq_self, implies_true, ne_eq, g0, s0, g1, s1, g2, s2, g3, s3, g4, g5, g6, g7, g8, g9, g10, g11, g12, g13, g14, g15, g16, g17, g18, s18, g19, s19, g20, s20, g21, s21, g22, s22, g23, s23, ai1, aw1, ae1, as1, ai2, aw2, ae2, as2, ai3, aw3, ae3, as3, ai4, aw4, ain4, awn4, ae4, as4, ai5, aw5, ain5, awn5, ae5, as5, ai6, aw6, ae6, as6, ai7, aw7, ae7, as7, ai8, aw8, ae8, as8, ai9, aw9, ae9, as9, ai10, aw10, ain10, awn10, ae10, as10, ai11, aw11, ae11, as11, ai12, aw12, ae12, as12, ai13, aw13, ae13, as13, ai14, aw14, ae14, as14, c18, w18_0, w18_1, w18_4, w18_5, w18_6, w18_9, w18_12, w18_13, w18_16, w18_17, e1, e2, h3]
  · simp +decide only [w12_0, w12_1, w12_2, w12_5, w12_8, w12_9, w12_12, w12_13, w12_14, w12_17, w12_19, zr_z0, zr_uI, zr_uJ, isO_put, isOw_put, put_fst, okv_int, okv_long, okv_ref, okv_bool, okv_byte, cat1_unset, cat1_int, cat1_ref, cs_nil, cs_int, cs_ref, cs_long, cmpL_lt, cmpL_gt, cmpL_eq, sI_uI, sI_uJ, sI_uA, sI_uB, sJ_uI, sJ_uJ, sJ_uA, sJ_uB, sA_uI, sA_uJ, sA_uA, sA_uB, sB_uI, sB_uJ, sB_uA, sB_uB, sI_fA, sJ_fA, sA_fA, sB_fA, sI_z0, sJ_z0, sA_z0, sB_z0, Option.toList_some, Option.toList_none, List.cons_append, List.nil_append, true_and, and_true, false_and, and_false, or_false, false_or, or_true, true_or, not_true_eq_false, not_false_eq_true, ↓reduceIte, Nat.reduceAdd, Nat.reduceLeDiff, Nat.reduceEqDiff, Nat.reduceSub, Int32.reduceAdd, Int32.reduceSub, Int32.reduceMul, Int32.reduceToNatClampNeg, Int64.reduceAdd, Int64.reduceSub, Int64.reduceMul, Int64.reduceLT, Int32.reduceLT, Int32.reduceToInt, Nat.add_zero, Nat.zero_add, Nat.le_refl, eq_self, implies_true, ne_eq, g0, s0, g1, s1, g2, s2, g3, s3, g4, g5, g6, g7, g8, g9, g10, g11, g12, g13, g14, g15, g16, g17, g18, s18, g19, s19, g20, s20, g21, s21, g22, s22, g23, s23, ai1, aw1, ae1, as1, ai2, aw2, ae2, as2, ai3, aw3, ae3, as3, ai4, aw4, ain4, awn4, ae4, as4, ai5, aw5, ain5, awn5, ae5, as5, ai6, aw6, ae6, as6, ai7, aw7, ae7, as7, ai8, aw8, ae8, as8, ai9, aw9, ae9, as9, ai10, aw10, ain10, awn10, ae10, as10, ai11, aw11, ae11, as11, ai12, aw12, ae12, as12, ai13, aw13, ae13, as13, ai14, aw14, ae14, as14, c18, w18_0, w18_1, w18_4, w18_5, w18_6, w18_9, w18_12, w18_13, w18_16, w18_17, e1, e2]
theorem t13 (h0 : (sI s 0).toInt ≤ 128) : Cl (pj lw) 13 [.ref p, .int a] (ob H p s) Q ↔ Q (some (.int (gt s 7 (-1) a))) (ob H p s) := by
  rw [c13]; unfold gt
  by_cases e1 : a < 0 <;> by_cases e2 : a < sI s 0
  · simp +decide only [w13_0, w13_1, w13_2, w13_5, w13_8, w13_9, w13_12, w13_13, w13_14, w13_17, w13_18, zr_z0, zr_uI, zr_uJ, isO_put, isOw_put, put_fst, okv_int, okv_long, okv_ref, okv_bool, okv_byte, cat1_unset, cat1_int, cat1_ref, cs_nil, cs_int, cs_ref, cs_long, cmpL_lt, cmpL_gt, cmpL_eq, sI_uI, sI_uJ, sI_uA, sI_uB, sJ_uI, sJ_uJ, sJ_uA, sJ_uB, sA_uI, sA_uJ, sA_uA, sA_uB, sB_uI, sB_uJ, sB_uA, sB_uB, sI_fA, sJ_fA, sA_fA, sB_fA, sI_z0, sJ_z0, sA_z0, sB_z0, Option.toList_some, Option.toList_none, List.cons_append, List.nil_append, true_and, and_true, false_and, and_false, or_false, false_or, or_true, true_or, not_true_eq_false, not_false_eq_true, ↓reduceIte, Nat.reduceAdd, Nat.reduceLeDiff, Nat.reduceEqDiff, Nat.reduceSub, Int32.reduceAdd, Int32.reduceSub, Int32.reduceMul, Int32.reduceToNatClampNeg, Int64.reduceAdd, Int64.reduceSub, Int64.reduceMul, Int64.reduceLT, Int32.reduceLT, Int32.reduceToInt, Nat.add_zero, Nat.zero_add, Nat.le_refl, eq_self, implies_true, ne_eq, g0, s0, g1, s1, g2, s2, g3, s3, g4, g5, g6, g7, g8, g9, g10, g11, g12, g13, g14, g15, g16, g17, g18, s18, g19, s19, g20, s20, g21, s21, g22, s22, g23, s23, ai1, aw1, ae1, as1, ai2, aw2, ae2, as2, ai3, aw3, ae3, as3, ai4, aw4, ain4, awn4, ae4, as4, ai5, aw5, ain5, awn5, ae5, as5, ai6, aw6, ae6, as6, ai7, aw7, ae7, as7, ai8, aw8, ae8, as8, ai9, aw9, ae9, as9, ai10, aw10, ain10, awn10, ae10, as10, ai11, aw11, ae11, as11, ai12, aw12, ae12, as12, ai13, aw13, ae13, as13, ai14, aw14, ae14, as14, c18, w18_0, w18_1, w18_4, w18_5, w18_6, w18_9, w18_12, w18_13, w18_16, w18_17, e1, e2]
  · simp +decide only [w13_0, w13_1, w13_2, w13_5, w13_8, w13_9, w13_12, w13_13, w13_14, w13_17, w13_18, zr_z0, zr_uI, zr_uJ, isO_put, isOw_put, put_fst, okv_int, okv_long, okv_ref, okv_bool, okv_byte, cat1_unset, cat1_int, cat1_ref, cs_nil, cs_int, cs_ref, cs_long, cmpL_lt, cmpL_gt, cmpL_eq, sI_uI, sI_uJ, sI_uA, sI_uB, sJ_uI, sJ_uJ, sJ_uA, sJ_uB, sA_uI, sA_uJ, sA_uA, sA_uB, sB_uI, sB_uJ, sB_uA, sB_uB, sI_fA, sJ_fA, sA_fA, sB_fA, sI_z0, sJ_z0, sA_z0, sB_z0, Option.toList_some, Option.toList_none, List.cons_append, List.nil_append, true_and, and_true, false_and, and_false, or_false, false_or, or_true, true_or, not_true_eq_false, not_false_eq_true, ↓reduceIte, Nat.reduceAdd, Nat.reduceLeDiff, Nat.reduceEqDiff, Nat.reduceSub, Int32.reduceAdd, Int32.reduceSub, Int32.reduceMul, Int32.reduceToNatClampNeg, Int64.reduceAdd, Int64.reduceSub, Int64.reduceMul, Int64.reduceLT, Int32.reduceLT, Int32.reduceToInt, Nat.add_zero, Nat.zero_add, Nat.le_refl, eq_self, implies_true, ne_eq, g0, s0, g1, s1, g2, s2, g3, s3, g4, g5, g6, g7, g8, g9, g10, g11, g12, g13, g14, g15, g16, g17, g18, s18, g19, s19, g20, s20, g21, s21, g22, s22, g23, s23, ai1, aw1, ae1, as1, ai2, aw2, ae2, as2, ai3, aw3, ae3, as3, ai4, aw4, ain4, awn4, ae4, as4, ai5, aw5, ain5, awn5, ae5, as5, ai6, aw6, ae6, as6, ai7, aw7, ae7, as7, ai8, aw8, ae8, as8, ai9, aw9, ae9, as9, ai10, aw10, ain10, awn10, ae10, as10, ai11, aw11, ae11, as11, ai12, aw12, ae12, as12, ai13, aw13, ae13, as13, ai14, aw14, ae14, as14, c18, w18_0, w18_1, w18_4, w18_5, w18_6, w18_9, w18_12, w18_13, w18_16, w18_17, e1, e2]
  · have h3 : 0 ≤ a.toInt ∧ a.toInt < 128 := by rw [lt32] at e1 e2; simp only [Int32.reduceToInt] at e1; omega
    simp +decide only [w13_0, w13_1, w13_2, w13_5, w13_8, w13_9, w13_12, w13_13, w13_14, w13_17, w13_18, zr_z0, zr_uI, zr_uJ, isO_put, isOw_put, put_fst, okv_int, okv_long, okv_ref, okv_bool, okv_byte, cat1_unset, cat1_int, cat1_ref, cs_nil, cs_int, cs_ref, cs_long, cmpL_lt, cmpL_gt, cmpL_eq, sI_uI, sI_uJ, sI_uA, sI_uB, sJ_uI, sJ_uJ, sJ_uA, sJ_uB, sA_uI, sA_uJ, sA_uA, sA_uB, sB_uI, sB_uJ, sB_uA, sB_uB, sI_fA, sJ_fA, sA_fA, sB_fA, sI_z0, sJ_z0, sA_z0, sB_z0, Option.toList_some, Option.toList_none, List.cons_append, List.nil_append, true_and, and_true, false_and, and_false, or_false, false_or, or_true, true_or, not_true_eq_false, not_false_eq_true, ↓reduceIte, Nat.reduceAdd, Nat.reduceLeDiff, Nat.reduceEqDiff, Nat.reduceSub, Int32.reduceAdd, Int32.reduceSub, Int32.reduceMul, Int32.reduceToNatClampNeg, Int64.reduceAdd, Int64.reduceSub, Int64.reduceMul, Int64.reduceLT, Int32.reduceLT, Int32.reduceToInt, Nat.add_zero, Nat.zero_add, Nat.le_refl, eq_self, implies_true, ne_eq, g0, s0, g1, s1, g2, s2, g3, s3, g4, g5, g6, g7, g8, g9, g10, g11, g12, g13, g14, g15, g16, g17, g18, s18, g19, s19, g20, s20, g21, s21, g22, s22, g23, s23, ai1, aw1, ae1, as1, ai2, aw2, ae2, as2, ai3, aw3, ae3, as3, ai4, aw4, ain4, awn4, ae4, as4, ai5, aw5, ain5, awn5, ae5, as5, ai6, aw6, ae6, as6, ai7, aw7, ae7, as7, ai8, aw8, ae8, as8, ai9, aw9, ae9, as9, ai10, aw10, ain10, awn10, ae10, as10, ai11, aw11, ae11, as11, ai12, aw12, ae12, as12, ai13, aw13, ae13, as13, ai14, aw14, ae14, as14, c18, w18_0, w18_1, w18_4, w18_5, w18_6, w18_9, w18_12, w18_13, w18_16, w18_17, e1, e2, h3]
  · simp +decide only [w13_0, w13_1, w13_2, w13_5, w13_8, w13_9, w13_12, w13_13, w13_14, w13_17, w13_18, zr_z0, zr_uI, zr_uJ, isO_put, isOw_put, put_fst, okv_int, okv_long, okv_ref, okv_bool, okv_byte, cat1_unset, cat1_int, cat1_ref, cs_nil, cs_int, cs_ref, cs_long, cmpL_lt, cmpL_gt, cmpL_eq, sI_uI, sI_uJ, sI_uA, sI_uB, sJ_uI, sJ_uJ, sJ_uA, sJ_uB, sA_uI, sA_uJ, sA_uA, sA_uB, sB_uI, sB_uJ, sB_uA, sB_uB, sI_fA, sJ_fA, sA_fA, sB_fA, sI_z0, sJ_z0, sA_z0, sB_z0, Option.toList_some, Option.toList_none, List.cons_append, List.nil_append, true_and, and_true, false_and, and_false, or_false, false_or, or_true, true_or, not_true_eq_false, not_false_eq_true, ↓reduceIte, Nat.reduceAdd, Nat.reduceLeDiff, Nat.reduceEqDiff, Nat.reduceSub, Int32.reduceAdd, Int32.reduceSub, Int32.reduceMul, Int32.reduceToNatClampNeg, Int64.reduceAdd, Int64.reduceSub, Int64.reduceMul, Int64.reduceLT, Int32.reduceLT, Int32.reduceToInt, Nat.add_zero, Nat.zero_add, Nat.le_refl, eq_self, implies_true, ne_eq, g0, s0, g1, s1, g2, s2, g3, s3, g4, g5, g6, g7, g8, g9, g10, g11, g12, g13, g14, g15, g16, g17, g18, s18, g19, s19, g20, s20, g21, s21, g22, s22, g23, s23, ai1, aw1, ae1, as1, ai2, aw2, ae2, as2, ai3, aw3, ae3, as3, ai4, aw4, ain4, awn4, ae4, as4, ai5, aw5, ain5, awn5, ae5, as5, ai6, aw6, ae6, as6, ai7, aw7, ae7, as7, ai8, aw8, ae8, as8, ai9, aw9, ae9, as9, ai10, aw10, ain10, awn10, ae10, as10, ai11, aw11, ae11, as11, ai12, aw12, ae12, as12, ai13, aw13, ae13, as13, ai14, aw14, ae14, as14, c18, w18_0, w18_1, w18_4, w18_5, w18_6, w18_9, w18_12, w18_13, w18_16, w18_17, e1, e2]
theorem t14 (h0 : (sI s 0).toInt ≤ 128) : Cl (pj lw) 14 [.ref p, .int a] (ob H p s) Q ↔ Q (some (.int (gt s 8 (-1) a))) (ob H p s) := by
  rw [c14]; unfold gt
  by_cases e1 : a < 0 <;> by_cases e2 : a < sI s 0
  · simp +decide only [w14_0, w14_1, w14_2, w14_5, w14_8, w14_9, w14_12, w14_13, w14_14, w14_17, w14_18, zr_z0, zr_uI, zr_uJ, isO_put, isOw_put, put_fst, okv_int, okv_long, okv_ref, okv_bool, okv_byte, cat1_unset, cat1_int, cat1_ref, cs_nil, cs_int, cs_ref, cs_long, cmpL_lt, cmpL_gt, cmpL_eq, sI_uI, sI_uJ, sI_uA, sI_uB, sJ_uI, sJ_uJ, sJ_uA, sJ_uB, sA_uI, sA_uJ, sA_uA, sA_uB, sB_uI, sB_uJ, sB_uA, sB_uB, sI_fA, sJ_fA, sA_fA, sB_fA, sI_z0, sJ_z0, sA_z0, sB_z0, Option.toList_some, Option.toList_none, List.cons_append, List.nil_append, true_and, and_true, false_and, and_false, or_false, false_or, or_true, true_or, not_true_eq_false, not_false_eq_true, ↓reduceIte, Nat.reduceAdd, Nat.reduceLeDiff, Nat.reduceEqDiff, Nat.reduceSub, Int32.reduceAdd, Int32.reduceSub, Int32.reduceMul, Int32.reduceToNatClampNeg, Int64.reduceAdd, Int64.reduceSub, Int64.reduceMul, Int64.reduceLT, Int32.reduceLT, Int32.reduceToInt, Nat.add_zero, Nat.zero_add, Nat.le_refl, eq_self, implies_true, ne_eq, g0, s0, g1, s1, g2, s2, g3, s3, g4, g5, g6, g7, g8, g9, g10, g11, g12, g13, g14, g15, g16, g17, g18, s18, g19, s19, g20, s20, g21, s21, g22, s22, g23, s23, ai1, aw1, ae1, as1, ai2, aw2, ae2, as2, ai3, aw3, ae3, as3, ai4, aw4, ain4, awn4, ae4, as4, ai5, aw5, ain5, awn5, ae5, as5, ai6, aw6, ae6, as6, ai7, aw7, ae7, as7, ai8, aw8, ae8, as8, ai9, aw9, ae9, as9, ai10, aw10, ain10, awn10, ae10, as10, ai11, aw11, ae11, as11, ai12, aw12, ae12, as12, ai13, aw13, ae13, as13, ai14, aw14, ae14, as14, c18, w18_0, w18_1, w18_4, w18_5, w18_6, w18_9, w18_12, w18_13, w18_16, w18_17, e1, e2]
  · simp +decide only [w14_0, w14_1, w14_2, w14_5, w14_8, w14_9, w14_12, w14_13, w14_14, w14_17, w14_18, zr_z0, zr_uI, zr_uJ, isO_put, isOw_put, put_fst, okv_int, okv_long, okv_ref, okv_bool, okv_byte, cat1_unset, cat1_int, cat1_ref, cs_nil, cs_int, cs_ref, cs_long, cmpL_lt, cmpL_gt, cmpL_eq, sI_uI, sI_uJ, sI_uA, sI_uB, sJ_uI, sJ_uJ, sJ_uA, sJ_uB, sA_uI, sA_uJ, sA_uA, sA_uB, sB_uI, sB_uJ, sB_uA, sB_uB, sI_fA, sJ_fA, sA_fA, sB_fA, sI_z0, sJ_z0, sA_z0, sB_z0, Option.toList_some, Option.toList_none, List.cons_append, List.nil_append, true_and, and_true, false_and, and_false, or_false, false_or, or_true, true_or, not_true_eq_false, not_false_eq_true, ↓reduceIte, Nat.reduceAdd, Nat.reduceLeDiff, Nat.reduceEqDiff, Nat.reduceSub, Int32.reduceAdd, Int32.reduceSub, Int32.reduceMul, Int32.reduceToNatClampNeg, Int64.reduceAdd, Int64.reduceSub, Int64.reduceMul, Int64.reduceLT, Int32.reduceLT, Int32.reduceToInt, Nat.add_zero, Nat.zero_add, Nat.le_refl, eq_self, implies_true, ne_eq, g0, s0, g1, s1, g2, s2, g3, s3, g4, g5, g6, g7, g8, g9, g10, g11, g12, g13, g14, g15, g16, g17, g18, s18, g19, s19, g20, s20, g21, s21, g22, s22, g23, s23, ai1, aw1, ae1, as1, ai2, aw2, ae2, as2, ai3, aw3, ae3, as3, ai4, aw4, ain4, awn4, ae4, as4, ai5, aw5, ain5, awn5, ae5, as5, ai6, aw6, ae6, as6, ai7, aw7, ae7, as7, ai8, aw8, ae8, as8, ai9, aw9, ae9, as9, ai10, aw10, ain10, awn10, ae10, as10, ai11, aw11, ae11, as11, ai12, aw12, ae12, as12, ai13, aw13, ae13, as13, ai14, aw14, ae14, as14, c18, w18_0, w18_1, w18_4, w18_5, w18_6, w18_9, w18_12, w18_13, w18_16, w18_17, e1, e2]
  · have h3 : 0 ≤ a.toInt ∧ a.toInt < 128 := by rw [lt32] at e1 e2; simp only [Int32.reduceToInt] at e1; omega
    simp +decide only [w14_0, w14_1, w14_2, w14_5, w14_8, w14_9, w14_12, w14_13, w14_14, w14_17, w14_18, zr_z0, zr_uI, zr_uJ, isO_put, isOw_put, put_fst, okv_int, okv_long, okv_ref, okv_bool, okv_byte, cat1_unset, cat1_int, cat1_ref, cs_nil, cs_int, cs_ref, cs_long, cmpL_lt, cmpL_gt, cmpL_eq, sI_uI, sI_uJ, sI_uA, sI_uB, sJ_uI, sJ_uJ, sJ_uA, sJ_uB, sA_uI, sA_uJ, sA_uA, sA_uB, sB_uI, sB_uJ, sB_uA, sB_uB, sI_fA, sJ_fA, sA_fA, sB_fA, sI_z0, sJ_z0, sA_z0, sB_z0, Option.toList_some, Option.toList_none, List.cons_append, List.nil_append, true_and, and_true, false_and, and_false, or_false, false_or, or_true, true_or, not_true_eq_false, not_false_eq_true, ↓reduceIte, Nat.reduceAdd, Nat.reduceLeDiff, Nat.reduceEqDiff, Nat.reduceSub, Int32.reduceAdd, Int32.reduceSub, Int32.reduceMul, Int32.reduceToNatClampNeg, Int64.reduceAdd, Int64.reduceSub, Int64.reduceMul, Int64.reduceLT, Int32.reduceLT, Int32.reduceToInt, Nat.add_zero, Nat.zero_add, Nat.le_refl, eq_self, implies_true, ne_eq, g0, s0, g1, s1, g2, s2, g3, s3, g4, g5, g6, g7, g8, g9, g10, g11, g12, g13, g14, g15, g16, g17, g18, s18, g19, s19, g20, s20, g21, s21, g22, s22, g23, s23, ai1, aw1, ae1, as1, ai2, aw2, ae2, as2, ai3, aw3, ae3, as3, ai4, aw4, ain4, awn4, ae4, as4, ai5, aw5, ain5, awn5, ae5, as5, ai6, aw6, ae6, as6, ai7, aw7, ae7, as7, ai8, aw8, ae8, as8, ai9, aw9, ae9, as9, ai10, aw10, ain10, awn10, ae10, as10, ai11, aw11, ae11, as11, ai12, aw12, ae12, as12, ai13, aw13, ae13, as13, ai14, aw14, ae14, as14, c18, w18_0, w18_1, w18_4, w18_5, w18_6, w18_9, w18_12, w18_13, w18_16, w18_17, e1, e2, h3]
  · simp +decide only [w14_0, w14_1, w14_2, w14_5, w14_8, w14_9, w14_12, w14_13, w14_14, w14_17, w14_18, zr_z0, zr_uI, zr_uJ, isO_put, isOw_put, put_fst, okv_int, okv_long, okv_ref, okv_bool, okv_byte, cat1_unset, cat1_int, cat1_ref, cs_nil, cs_int, cs_ref, cs_long, cmpL_lt, cmpL_gt, cmpL_eq, sI_uI, sI_uJ, sI_uA, sI_uB, sJ_uI, sJ_uJ, sJ_uA, sJ_uB, sA_uI, sA_uJ, sA_uA, sA_uB, sB_uI, sB_uJ, sB_uA, sB_uB, sI_fA, sJ_fA, sA_fA, sB_fA, sI_z0, sJ_z0, sA_z0, sB_z0, Option.toList_some, Option.toList_none, List.cons_append, List.nil_append, true_and, and_true, false_and, and_false, or_false, false_or, or_true, true_or, not_true_eq_false, not_false_eq_true, ↓reduceIte, Nat.reduceAdd, Nat.reduceLeDiff, Nat.reduceEqDiff, Nat.reduceSub, Int32.reduceAdd, Int32.reduceSub, Int32.reduceMul, Int32.reduceToNatClampNeg, Int64.reduceAdd, Int64.reduceSub, Int64.reduceMul, Int64.reduceLT, Int32.reduceLT, Int32.reduceToInt, Nat.add_zero, Nat.zero_add, Nat.le_refl, eq_self, implies_true, ne_eq, g0, s0, g1, s1, g2, s2, g3, s3, g4, g5, g6, g7, g8, g9, g10, g11, g12, g13, g14, g15, g16, g17, g18, s18, g19, s19, g20, s20, g21, s21, g22, s22, g23, s23, ai1, aw1, ae1, as1, ai2, aw2, ae2, as2, ai3, aw3, ae3, as3, ai4, aw4, ain4, awn4, ae4, as4, ai5, aw5, ain5, awn5, ae5, as5, ai6, aw6, ae6, as6, ai7, aw7, ae7, as7, ai8, aw8, ae8, as8, ai9, aw9, ae9, as9, ai10, aw10, ain10, awn10, ae10, as10, ai11, aw11, ae11, as11, ai12, aw12, ae12, as12, ai13, aw13, ae13, as13, ai14, aw14, ae14, as14, c18, w18_0, w18_1, w18_4, w18_5, w18_6, w18_9, w18_12, w18_13, w18_16, w18_17, e1, e2]
def flg (s : St) (a : Int32) : Int32 := if ¬ a < 0 ∧ a < sI s 0 then (if sA s 4 a.toNatClampNeg = 0 then (if sA s 5 a.toNatClampNeg = 0 then 0 else 2) else (if sA s 5 a.toNatClampNeg = 0 then 1 else 3)) else -1
theorem t11 (h0 : (sI s 0).toInt ≤ 128) : Cl (pj lw) 11 [.ref p, .int a] (ob H p s) Q ↔ Q (some (.int (flg s a))) (ob H p s) := by
  rw [c11]; unfold flg
  by_cases e1 : a < 0 <;> by_cases e2 : a < sI s 0
  · simp +decide only [w11_0, w11_1, w11_2, w11_5, w11_8, w11_9, w11_10, w11_11, w11_12, w11_13, w11_16, w11_17, w11_18, w11_21, w11_24, w11_25, w11_28, w11_29, w11_30, w11_33, w11_36, w11_37, zr_z0, zr_uI, zr_uJ, isO_put, isOw_put, put_fst, okv_int, okv_long, okv_ref, okv_bool, okv_byte, cat1_unset, cat1_int, cat1_ref, cs_nil, cs_int, cs_ref, cs_long, cmpL_lt, cmpL_gt, cmpL_eq, sI_uI, sI_uJ, sI_uA, sI_uB, sJ_uI, sJ_uJ, sJ_uA, sJ_uB, sA_uI, sA_uJ, sA_uA, sA_uB, sB_uI, sB_uJ, sB_uA, sB_uB, sI_fA, sJ_fA, sA_fA, sB_fA, sI_z0, sJ_z0, sA_z0, sB_z0, Option.toList_some, Option.toList_none, List.cons_append, List.nil_append, true_and, and_true, false_and, and_false, or_false, false_or, or_true, true_or, not_true_eq_false, not_false_eq_true, ↓reduceIte, Nat.reduceAdd, Nat.reduceLeDiff, Nat.reduceEqDiff, Nat.reduceSub, Int32.reduceAdd, Int32.reduceSub, Int32.reduceMul, Int32.reduceToNatClampNeg, Int64.reduceAdd, Int64.reduceSub, Int64.reduceMul, Int64.reduceLT, Int32.reduceLT, Int32.reduceToInt, Nat.add_zero, Nat.zero_add, Nat.le_refl, eq_self, implies_true, ne_eq, g0, s0, g1, s1, g2, s2, g3, s3, g4, g5, g6, g7, g8, g9, g10, g11, g12, g13, g14, g15, g16, g17, g18, s18, g19, s19, g20, s20, g21, s21, g22, s22, g23, s23, ai1, aw1, ae1, as1, ai2, aw2, ae2, as2, ai3, aw3, ae3, as3, ai4, aw4, ain4, awn4, ae4, as4, ai5, aw5, ain5, awn5, ae5, as5, ai6, aw6, ae6, as6, ai7, aw7, ae7, as7, ai8, aw8, ae8, as8, ai9, aw9, ae9, as9, ai10, aw10, ain10, awn10, ae10, as10, ai11, aw11, ae11, as11, ai12, aw12, ae12, as12, ai13, aw13, ae13, as13, ai14, aw14, ae14, as14, c18, w18_0, w18_1, w18_4, w18_5, w18_6, w18_9, w18_12, w18_13, w18_16, w18_17, e1, e2]
  · simp +decide only [w11_0, w11_1, w11_2, w11_5, w11_8, w11_9, w11_10, w11_11, w11_12, w11_13, w11_16, w11_17, w11_18, w11_21, w11_24, w11_25, w11_28, w11_29, w11_30, w11_33, w11_36, w11_37, zr_z0, zr_uI, zr_uJ, isO_put, isOw_put, put_fst, okv_int, okv_long, okv_ref, okv_bool, okv_byte, cat1_unset, cat1_int, cat1_ref, cs_nil, cs_int, cs_ref, cs_long, cmpL_lt, cmpL_gt, cmpL_eq, sI_uI, sI_uJ, sI_uA, sI_uB, sJ_uI, sJ_uJ, sJ_uA, sJ_uB, sA_uI, sA_uJ, sA_uA, sA_uB, sB_uI, sB_uJ, sB_uA, sB_uB, sI_fA, sJ_fA, sA_fA, sB_fA, sI_z0, sJ_z0, sA_z0, sB_z0, Option.toList_some, Option.toList_none, List.cons_append, List.nil_append, true_and, and_true, false_and, and_false, or_false, false_or, or_true, true_or, not_true_eq_false, not_false_eq_true, ↓reduceIte, Nat.reduceAdd, Nat.reduceLeDiff, Nat.reduceEqDiff, Nat.reduceSub, Int32.reduceAdd, Int32.reduceSub, Int32.reduceMul, Int32.reduceToNatClampNeg, Int64.reduceAdd, Int64.reduceSub, Int64.reduceMul, Int64.reduceLT, Int32.reduceLT, Int32.reduceToInt, Nat.add_zero, Nat.zero_add, Nat.le_refl, eq_self, implies_true, ne_eq, g0, s0, g1, s1, g2, s2, g3, s3, g4, g5, g6, g7, g8, g9, g10, g11, g12, g13, g14, g15, g16, g17, g18, s18, g19, s19, g20, s20, g21, s21, g22, s22, g23, s23, ai1, aw1, ae1, as1, ai2, aw2, ae2, as2, ai3, aw3, ae3, as3, ai4, aw4, ain4, awn4, ae4, as4, ai5, aw5, ain5, awn5, ae5, as5, ai6, aw6, ae6, as6, ai7, aw7, ae7, as7, ai8, aw8, ae8, as8, ai9, aw9, ae9, as9, ai10, aw10, ain10, awn10, ae10, as10, ai11, aw11, ae11, as11, ai12, aw12, ae12, as12, ai13, aw13, ae13, as13, ai14, aw14, ae14, as14, c18, w18_0, w18_1, w18_4, w18_5, w18_6, w18_9, w18_12, w18_13, w18_16, w18_17, e1, e2]
  · have h3 : 0 ≤ a.toInt ∧ a.toInt < 128 := by rw [lt32] at e1 e2; simp only [Int32.reduceToInt] at e1; omega
    by_cases e3 : sA s 4 a.toNatClampNeg = 0 <;> by_cases e4 : sA s 5 a.toNatClampNeg = 0 <;> simp +decide only [w11_0, w11_1, w11_2, w11_5, w11_8, w11_9, w11_10, w11_11, w11_12, w11_13, w11_16, w11_17, w11_18, w11_21, w11_24, w11_25, w11_28, w11_29, w11_30, w11_33, w11_36, w11_37, zr_z0, zr_uI, zr_uJ, isO_put, isOw_put, put_fst, okv_int, okv_long, okv_ref, okv_bool, okv_byte, cat1_unset, cat1_int, cat1_ref, cs_nil, cs_int, cs_ref, cs_long, cmpL_lt, cmpL_gt, cmpL_eq, sI_uI, sI_uJ, sI_uA, sI_uB, sJ_uI, sJ_uJ, sJ_uA, sJ_uB, sA_uI, sA_uJ, sA_uA, sA_uB, sB_uI, sB_uJ, sB_uA, sB_uB, sI_fA, sJ_fA, sA_fA, sB_fA, sI_z0, sJ_z0, sA_z0, sB_z0, Option.toList_some, Option.toList_none, List.cons_append, List.nil_append, true_and, and_true, false_and, and_false, or_false, false_or, or_true, true_or, not_true_eq_false, not_false_eq_true, ↓reduceIte, Nat.reduceAdd, Nat.reduceLeDiff, Nat.reduceEqDiff, Nat.reduceSub, Int32.reduceAdd, Int32.reduceSub, Int32.reduceMul, Int32.reduceToNatClampNeg, Int64.reduceAdd, Int64.reduceSub, Int64.reduceMul, Int64.reduceLT, Int32.reduceLT, Int32.reduceToInt, Nat.add_zero, Nat.zero_add, Nat.le_refl, eq_self, implies_true, ne_eq, g0, s0, g1, s1, g2, s2, g3, s3, g4, g5, g6, g7, g8, g9, g10, g11, g12, g13, g14, g15, g16, g17, g18, s18, g19, s19, g20, s20, g21, s21, g22, s22, g23, s23, ai1, aw1, ae1, as1, ai2, aw2, ae2, as2, ai3, aw3, ae3, as3, ai4, aw4, ain4, awn4, ae4, as4, ai5, aw5, ain5, awn5, ae5, as5, ai6, aw6, ae6, as6, ai7, aw7, ae7, as7, ai8, aw8, ae8, as8, ai9, aw9, ae9, as9, ai10, aw10, ain10, awn10, ae10, as10, ai11, aw11, ae11, as11, ai12, aw12, ae12, as12, ai13, aw13, ae13, as13, ai14, aw14, ae14, as14, ain4, ain5, c18, w18_0, w18_1, w18_4, w18_5, w18_6, w18_9, w18_12, w18_13, w18_16, w18_17, e1, e2, e3, e4, h3]
  · simp +decide only [w11_0, w11_1, w11_2, w11_5, w11_8, w11_9, w11_10, w11_11, w11_12, w11_13, w11_16, w11_17, w11_18, w11_21, w11_24, w11_25, w11_28, w11_29, w11_30, w11_33, w11_36, w11_37, zr_z0, zr_uI, zr_uJ, isO_put, isOw_put, put_fst, okv_int, okv_long, okv_ref, okv_bool, okv_byte, cat1_unset, cat1_int, cat1_ref, cs_nil, cs_int, cs_ref, cs_long, cmpL_lt, cmpL_gt, cmpL_eq, sI_uI, sI_uJ, sI_uA, sI_uB, sJ_uI, sJ_uJ, sJ_uA, sJ_uB, sA_uI, sA_uJ, sA_uA, sA_uB, sB_uI, sB_uJ, sB_uA, sB_uB, sI_fA, sJ_fA, sA_fA, sB_fA, sI_z0, sJ_z0, sA_z0, sB_z0, Option.toList_some, Option.toList_none, List.cons_append, List.nil_append, true_and, and_true, false_and, and_false, or_false, false_or, or_true, true_or, not_true_eq_false, not_false_eq_true, ↓reduceIte, Nat.reduceAdd, Nat.reduceLeDiff, Nat.reduceEqDiff, Nat.reduceSub, Int32.reduceAdd, Int32.reduceSub, Int32.reduceMul, Int32.reduceToNatClampNeg, Int64.reduceAdd, Int64.reduceSub, Int64.reduceMul, Int64.reduceLT, Int32.reduceLT, Int32.reduceToInt, Nat.add_zero, Nat.zero_add, Nat.le_refl, eq_self, implies_true, ne_eq, g0, s0, g1, s1, g2, s2, g3, s3, g4, g5, g6, g7, g8, g9, g10, g11, g12, g13, g14, g15, g16, g17, g18, s18, g19, s19, g20, s20, g21, s21, g22, s22, g23, s23, ai1, aw1, ae1, as1, ai2, aw2, ae2, as2, ai3, aw3, ae3, as3, ai4, aw4, ain4, awn4, ae4, as4, ai5, aw5, ain5, awn5, ae5, as5, ai6, aw6, ae6, as6, ai7, aw7, ae7, as7, ai8, aw8, ae8, as8, ai9, aw9, ae9, as9, ai10, aw10, ain10, awn10, ae10, as10, ai11, aw11, ae11, as11, ai12, aw12, ae12, as12, ai13, aw13, ae13, as13, ai14, aw14, ae14, as14, c18, w18_0, w18_1, w18_4, w18_5, w18_6, w18_9, w18_12, w18_13, w18_16, w18_17, e1, e2]
def cntK (s : St) (e : Int32) : Int32 :=
  if ¬ e < 0 ∧ ¬ 3 < e then Int32.ofNat (cnt (fun i => decide (sA s 1 i = e)) 0 (sI s 0).toInt.toNat)
  else if e = 4 then Int32.ofNat (cnt (fun i => decide (0 < sA s 3 i)) 0 (sI s 0).toInt.toNat)
  else if e = 5 then Int32.ofNat (cnt (fun i => decide (¬ sA s 4 i = 0)) 0 (sI s 0).toInt.toNat)
  else if e = 6 then Int32.ofNat (cnt (fun i => decide (¬ sA s 5 i = 0)) 0 (sI s 0).toInt.toNat)
  else if e = 7 then sI s 20 else if e = 8 then sI s 21 else if e = 9 then sI s 18 else if e = 10 then sI s 22
  else if e = 11 then Int32.ofNat (cnt (fun i => !decide (sA s 6 i = -2)) 0 (sI s 0).toInt.toNat) else -1
theorem t16 {e : Int32} (h0 : 0 ≤ (sI s 0).toInt ∧ (sI s 0).toInt ≤ 128) : Cl (pj lw) 16 [.ref p, .int e] (ob H p s) Q ↔ Q (some (.int (cntK s e))) (ob H p s) := by
  rw [c16]; unfold cntK
  by_cases e1 : e < 0
  · have n4 : ¬ e = 4 := by rintro rfl; exact absurd e1 (by decide)
    have n5 : ¬ e = 5 := by rintro rfl; exact absurd e1 (by decide)
    have n6 : ¬ e = 6 := by rintro rfl; exact absurd e1 (by decide)
    have n7 : ¬ e = 7 := by rintro rfl; exact absurd e1 (by decide)
    have n8 : ¬ e = 8 := by rintro rfl; exact absurd e1 (by decide)
    have n9 : ¬ e = 9 := by rintro rfl; exact absurd e1 (by decide)
    have n10 : ¬ e = 10 := by rintro rfl; exact absurd e1 (by decide)
    have n11 : ¬ e = 11 := by rintro rfl; exact absurd e1 (by decide)
    simp +decide only [w16_0, w16_1, w16_4, w16_5, w16_6, w16_9, w16_10, w16_11, w16_14, w16_15, w16_16, w16_64, w16_65, w16_68, w16_69, w16_70, w16_71, w16_74, w16_75, w16_76, w16_77, w16_80, w16_81, w16_82, w16_85, w16_86, w16_87, w16_90, w16_91, w16_92, w16_95, w16_96, w16_97, w16_100, w16_101, w16_102, w16_105, w16_106, w16_107, zr_z0, zr_uI, zr_uJ, isO_put, isOw_put, put_fst, okv_int, okv_long, okv_ref, okv_bool, okv_byte, cat1_unset, cat1_int, cat1_ref, cs_nil, cs_int, cs_ref, cs_long, cmpL_lt, cmpL_gt, cmpL_eq, sI_uI, sI_uJ, sI_uA, sI_uB, sJ_uI, sJ_uJ, sJ_uA, sJ_uB, sA_uI, sA_uJ, sA_uA, sA_uB, sB_uI, sB_uJ, sB_uA, sB_uB, sI_fA, sJ_fA, sA_fA, sB_fA, sI_z0, sJ_z0, sA_z0, sB_z0, Option.toList_some, Option.toList_none, List.cons_append, List.nil_append, true_and, and_true, false_and, and_false, or_false, false_or, or_true, true_or, not_true_eq_false, not_false_eq_true, ↓reduceIte, Nat.reduceAdd, Nat.reduceLeDiff, Nat.reduceEqDiff, Nat.reduceSub, Int32.reduceAdd, Int32.reduceSub, Int32.reduceMul, Int32.reduceToNatClampNeg, Int64.reduceAdd, Int64.reduceSub, Int64.reduceMul, Int64.reduceLT, Int32.reduceLT, Int32.reduceToInt, Nat.add_zero, Nat.zero_add, Nat.le_refl, eq_self, implies_true, ne_eq, g0, s0, g1, s1, g2, s2, g3, s3, g4, g5, g6, g7, g8, g9, g10, g11, g12, g13, g14, g15, g16, g17, g18, s18, g19, s19, g20, s20, g21, s21, g22, s22, g23, s23, ai1, aw1, ae1, as1, ai2, aw2, ae2, as2, ai3, aw3, ae3, as3, ai4, aw4, ain4, awn4, ae4, as4, ai5, aw5, ain5, awn5, ae5, as5, ai6, aw6, ae6, as6, ai7, aw7, ae7, as7, ai8, aw8, ae8, as8, ai9, aw9, ae9, as9, ai10, aw10, ain10, awn10, ae10, as10, ai11, aw11, ae11, as11, ai12, aw12, ae12, as12, ai13, aw13, ae13, as13, ai14, aw14, ae14, as14, tswW, e1, n4, n5, n6, n7, n8, n9, n10, n11, Int.reduceAdd]
  · by_cases e2 : 3 < e
    · by_cases n4 : e = 4
      · subst n4; simp +decide only [w16_0, w16_1, w16_4, w16_5, w16_6, w16_9, w16_10, w16_11, w16_14, w16_15, w16_16, w16_64, w16_65, w16_68, w16_69, w16_70, w16_71, w16_74, w16_75, w16_76, w16_77, w16_80, w16_81, w16_82, w16_85, w16_86, w16_87, w16_90, w16_91, w16_92, w16_95, w16_96, w16_97, w16_100, w16_101, w16_102, w16_105, w16_106, w16_107, zr_z0, zr_uI, zr_uJ, isO_put, isOw_put, put_fst, okv_int, okv_long, okv_ref, okv_bool, okv_byte, cat1_unset, cat1_int, cat1_ref, cs_nil, cs_int, cs_ref, cs_long, cmpL_lt, cmpL_gt, cmpL_eq, sI_uI, sI_uJ, sI_uA, sI_uB, sJ_uI, sJ_uJ, sJ_uA, sJ_uB, sA_uI, sA_uJ, sA_uA, sA_uB, sB_uI, sB_uJ, sB_uA, sB_uB, sI_fA, sJ_fA, sA_fA, sB_fA, sI_z0, sJ_z0, sA_z0, sB_z0, Option.toList_some, Option.toList_none, List.cons_append, List.nil_append, true_and, and_true, false_and, and_false, or_false, false_or, or_true, true_or, not_true_eq_false, not_false_eq_true, ↓reduceIte, Nat.reduceAdd, Nat.reduceLeDiff, Nat.reduceEqDiff, Nat.reduceSub, Int32.reduceAdd, Int32.reduceSub, Int32.reduceMul, Int32.reduceToNatClampNeg, Int64.reduceAdd, Int64.reduceSub, Int64.reduceMul, Int64.reduceLT, Int32.reduceLT, Int32.reduceToInt, Nat.add_zero, Nat.zero_add, Nat.le_refl, eq_self, implies_true, ne_eq, g0, s0, g1, s1, g2, s2, g3, s3, g4, g5, g6, g7, g8, g9, g10, g11, g12, g13, g14, g15, g16, g17, g18, s18, g19, s19, g20, s20, g21, s21, g22, s22, g23, s23, ai1, aw1, ae1, as1, ai2, aw2, ae2, as2, ai3, aw3, ae3, as3, ai4, aw4, ain4, awn4, ae4, as4, ai5, aw5, ain5, awn5, ae5, as5, ai6, aw6, ae6, as6, ai7, aw7, ae7, as7, ai8, aw8, ae8, as8, ai9, aw9, ae9, as9, ai10, aw10, ain10, awn10, ae10, as10, ai11, aw11, ae11, as11, ai12, aw12, ae12, as12, ai13, aw13, ae13, as13, ai14, aw14, ae14, as14, tswW, t32 h0, Int.reduceAdd]
      by_cases n5 : e = 5
      · subst n5; simp +decide only [w16_0, w16_1, w16_4, w16_5, w16_6, w16_9, w16_10, w16_11, w16_14, w16_15, w16_16, w16_64, w16_65, w16_68, w16_69, w16_70, w16_71, w16_74, w16_75, w16_76, w16_77, w16_80, w16_81, w16_82, w16_85, w16_86, w16_87, w16_90, w16_91, w16_92, w16_95, w16_96, w16_97, w16_100, w16_101, w16_102, w16_105, w16_106, w16_107, zr_z0, zr_uI, zr_uJ, isO_put, isOw_put, put_fst, okv_int, okv_long, okv_ref, okv_bool, okv_byte, cat1_unset, cat1_int, cat1_ref, cs_nil, cs_int, cs_ref, cs_long, cmpL_lt, cmpL_gt, cmpL_eq, sI_uI, sI_uJ, sI_uA, sI_uB, sJ_uI, sJ_uJ, sJ_uA, sJ_uB, sA_uI, sA_uJ, sA_uA, sA_uB, sB_uI, sB_uJ, sB_uA, sB_uB, sI_fA, sJ_fA, sA_fA, sB_fA, sI_z0, sJ_z0, sA_z0, sB_z0, Option.toList_some, Option.toList_none, List.cons_append, List.nil_append, true_and, and_true, false_and, and_false, or_false, false_or, or_true, true_or, not_true_eq_false, not_false_eq_true, ↓reduceIte, Nat.reduceAdd, Nat.reduceLeDiff, Nat.reduceEqDiff, Nat.reduceSub, Int32.reduceAdd, Int32.reduceSub, Int32.reduceMul, Int32.reduceToNatClampNeg, Int64.reduceAdd, Int64.reduceSub, Int64.reduceMul, Int64.reduceLT, Int32.reduceLT, Int32.reduceToInt, Nat.add_zero, Nat.zero_add, Nat.le_refl, eq_self, implies_true, ne_eq, g0, s0, g1, s1, g2, s2, g3, s3, g4, g5, g6, g7, g8, g9, g10, g11, g12, g13, g14, g15, g16, g17, g18, s18, g19, s19, g20, s20, g21, s21, g22, s22, g23, s23, ai1, aw1, ae1, as1, ai2, aw2, ae2, as2, ai3, aw3, ae3, as3, ai4, aw4, ain4, awn4, ae4, as4, ai5, aw5, ain5, awn5, ae5, as5, ai6, aw6, ae6, as6, ai7, aw7, ae7, as7, ai8, aw8, ae8, as8, ai9, aw9, ae9, as9, ai10, aw10, ain10, awn10, ae10, as10, ai11, aw11, ae11, as11, ai12, aw12, ae12, as12, ai13, aw13, ae13, as13, ai14, aw14, ae14, as14, tswW, t33a h0, Int.reduceAdd]
      by_cases n6 : e = 6
      · subst n6; simp +decide only [w16_0, w16_1, w16_4, w16_5, w16_6, w16_9, w16_10, w16_11, w16_14, w16_15, w16_16, w16_64, w16_65, w16_68, w16_69, w16_70, w16_71, w16_74, w16_75, w16_76, w16_77, w16_80, w16_81, w16_82, w16_85, w16_86, w16_87, w16_90, w16_91, w16_92, w16_95, w16_96, w16_97, w16_100, w16_101, w16_102, w16_105, w16_106, w16_107, zr_z0, zr_uI, zr_uJ, isO_put, isOw_put, put_fst, okv_int, okv_long, okv_ref, okv_bool, okv_byte, cat1_unset, cat1_int, cat1_ref, cs_nil, cs_int, cs_ref, cs_long, cmpL_lt, cmpL_gt, cmpL_eq, sI_uI, sI_uJ, sI_uA, sI_uB, sJ_uI, sJ_uJ, sJ_uA, sJ_uB, sA_uI, sA_uJ, sA_uA, sA_uB, sB_uI, sB_uJ, sB_uA, sB_uB, sI_fA, sJ_fA, sA_fA, sB_fA, sI_z0, sJ_z0, sA_z0, sB_z0, Option.toList_some, Option.toList_none, List.cons_append, List.nil_append, true_and, and_true, false_and, and_false, or_false, false_or, or_true, true_or, not_true_eq_false, not_false_eq_true, ↓reduceIte, Nat.reduceAdd, Nat.reduceLeDiff, Nat.reduceEqDiff, Nat.reduceSub, Int32.reduceAdd, Int32.reduceSub, Int32.reduceMul, Int32.reduceToNatClampNeg, Int64.reduceAdd, Int64.reduceSub, Int64.reduceMul, Int64.reduceLT, Int32.reduceLT, Int32.reduceToInt, Nat.add_zero, Nat.zero_add, Nat.le_refl, eq_self, implies_true, ne_eq, g0, s0, g1, s1, g2, s2, g3, s3, g4, g5, g6, g7, g8, g9, g10, g11, g12, g13, g14, g15, g16, g17, g18, s18, g19, s19, g20, s20, g21, s21, g22, s22, g23, s23, ai1, aw1, ae1, as1, ai2, aw2, ae2, as2, ai3, aw3, ae3, as3, ai4, aw4, ain4, awn4, ae4, as4, ai5, aw5, ain5, awn5, ae5, as5, ai6, aw6, ae6, as6, ai7, aw7, ae7, as7, ai8, aw8, ae8, as8, ai9, aw9, ae9, as9, ai10, aw10, ain10, awn10, ae10, as10, ai11, aw11, ae11, as11, ai12, aw12, ae12, as12, ai13, aw13, ae13, as13, ai14, aw14, ae14, as14, tswW, t33b h0, Int.reduceAdd]
      by_cases n7 : e = 7
      · subst n7; simp +decide only [w16_0, w16_1, w16_4, w16_5, w16_6, w16_9, w16_10, w16_11, w16_14, w16_15, w16_16, w16_64, w16_65, w16_68, w16_69, w16_70, w16_71, w16_74, w16_75, w16_76, w16_77, w16_80, w16_81, w16_82, w16_85, w16_86, w16_87, w16_90, w16_91, w16_92, w16_95, w16_96, w16_97, w16_100, w16_101, w16_102, w16_105, w16_106, w16_107, zr_z0, zr_uI, zr_uJ, isO_put, isOw_put, put_fst, okv_int, okv_long, okv_ref, okv_bool, okv_byte, cat1_unset, cat1_int, cat1_ref, cs_nil, cs_int, cs_ref, cs_long, cmpL_lt, cmpL_gt, cmpL_eq, sI_uI, sI_uJ, sI_uA, sI_uB, sJ_uI, sJ_uJ, sJ_uA, sJ_uB, sA_uI, sA_uJ, sA_uA, sA_uB, sB_uI, sB_uJ, sB_uA, sB_uB, sI_fA, sJ_fA, sA_fA, sB_fA, sI_z0, sJ_z0, sA_z0, sB_z0, Option.toList_some, Option.toList_none, List.cons_append, List.nil_append, true_and, and_true, false_and, and_false, or_false, false_or, or_true, true_or, not_true_eq_false, not_false_eq_true, ↓reduceIte, Nat.reduceAdd, Nat.reduceLeDiff, Nat.reduceEqDiff, Nat.reduceSub, Int32.reduceAdd, Int32.reduceSub, Int32.reduceMul, Int32.reduceToNatClampNeg, Int64.reduceAdd, Int64.reduceSub, Int64.reduceMul, Int64.reduceLT, Int32.reduceLT, Int32.reduceToInt, Nat.add_zero, Nat.zero_add, Nat.le_refl, eq_self, implies_true, ne_eq, g0, s0, g1, s1, g2, s2, g3, s3, g4, g5, g6, g7, g8, g9, g10, g11, g12, g13, g14, g15, g16, g17, g18, s18, g19, s19, g20, s20, g21, s21, g22, s22, g23, s23, ai1, aw1, ae1, as1, ai2, aw2, ae2, as2, ai3, aw3, ae3, as3, ai4, aw4, ain4, awn4, ae4, as4, ai5, aw5, ain5, awn5, ae5, as5, ai6, aw6, ae6, as6, ai7, aw7, ae7, as7, ai8, aw8, ae8, as8, ai9, aw9, ae9, as9, ai10, aw10, ain10, awn10, ae10, as10, ai11, aw11, ae11, as11, ai12, aw12, ae12, as12, ai13, aw13, ae13, as13, ai14, aw14, ae14, as14, tswW, Int.reduceAdd]
      by_cases n8 : e = 8
      · subst n8; simp +decide only [w16_0, w16_1, w16_4, w16_5, w16_6, w16_9, w16_10, w16_11, w16_14, w16_15, w16_16, w16_64, w16_65, w16_68, w16_69, w16_70, w16_71, w16_74, w16_75, w16_76, w16_77, w16_80, w16_81, w16_82, w16_85, w16_86, w16_87, w16_90, w16_91, w16_92, w16_95, w16_96, w16_97, w16_100, w16_101, w16_102, w16_105, w16_106, w16_107, zr_z0, zr_uI, zr_uJ, isO_put, isOw_put, put_fst, okv_int, okv_long, okv_ref, okv_bool, okv_byte, cat1_unset, cat1_int, cat1_ref, cs_nil, cs_int, cs_ref, cs_long, cmpL_lt, cmpL_gt, cmpL_eq, sI_uI, sI_uJ, sI_uA, sI_uB, sJ_uI, sJ_uJ, sJ_uA, sJ_uB, sA_uI, sA_uJ, sA_uA, sA_uB, sB_uI, sB_uJ, sB_uA, sB_uB, sI_fA, sJ_fA, sA_fA, sB_fA, sI_z0, sJ_z0, sA_z0, sB_z0, Option.toList_some, Option.toList_none, List.cons_append, List.nil_append, true_and, and_true, false_and, and_false, or_false, false_or, or_true, true_or, not_true_eq_false, not_false_eq_true, ↓reduceIte, Nat.reduceAdd, Nat.reduceLeDiff, Nat.reduceEqDiff, Nat.reduceSub, Int32.reduceAdd, Int32.reduceSub, Int32.reduceMul, Int32.reduceToNatClampNeg, Int64.reduceAdd, Int64.reduceSub, Int64.reduceMul, Int64.reduceLT, Int32.reduceLT, Int32.reduceToInt, Nat.add_zero, Nat.zero_add, Nat.le_refl, eq_self, implies_true, ne_eq, g0, s0, g1, s1, g2, s2, g3, s3, g4, g5, g6, g7, g8, g9, g10, g11, g12, g13, g14, g15, g16, g17, g18, s18, g19, s19, g20, s20, g21, s21, g22, s22, g23, s23, ai1, aw1, ae1, as1, ai2, aw2, ae2, as2, ai3, aw3, ae3, as3, ai4, aw4, ain4, awn4, ae4, as4, ai5, aw5, ain5, awn5, ae5, as5, ai6, aw6, ae6, as6, ai7, aw7, ae7, as7, ai8, aw8, ae8, as8, ai9, aw9, ae9, as9, ai10, aw10, ain10, awn10, ae10, as10, ai11, aw11, ae11, as11, ai12, aw12, ae12, as12, ai13, aw13, ae13, as13, ai14, aw14, ae14, as14, tswW, Int.reduceAdd]
      by_cases n9 : e = 9
      · subst n9; simp +decide only [w16_0, w16_1, w16_4, w16_5, w16_6, w16_9, w16_10, w16_11, w16_14, w16_15, w16_16, w16_64, w16_65, w16_68, w16_69, w16_70, w16_71, w16_74, w16_75, w16_76, w16_77, w16_80, w16_81, w16_82, w16_85, w16_86, w16_87, w16_90, w16_91, w16_92, w16_95, w16_96, w16_97, w16_100, w16_101, w16_102, w16_105, w16_106, w16_107, zr_z0, zr_uI, zr_uJ, isO_put, isOw_put, put_fst, okv_int, okv_long, okv_ref, okv_bool, okv_byte, cat1_unset, cat1_int, cat1_ref, cs_nil, cs_int, cs_ref, cs_long, cmpL_lt, cmpL_gt, cmpL_eq, sI_uI, sI_uJ, sI_uA, sI_uB, sJ_uI, sJ_uJ, sJ_uA, sJ_uB, sA_uI, sA_uJ, sA_uA, sA_uB, sB_uI, sB_uJ, sB_uA, sB_uB, sI_fA, sJ_fA, sA_fA, sB_fA, sI_z0, sJ_z0, sA_z0, sB_z0, Option.toList_some, Option.toList_none, List.cons_append, List.nil_append, true_and, and_true, false_and, and_false, or_false, false_or, or_true, true_or, not_true_eq_false, not_false_eq_true, ↓reduceIte, Nat.reduceAdd, Nat.reduceLeDiff, Nat.reduceEqDiff, Nat.reduceSub, Int32.reduceAdd, Int32.reduceSub, Int32.reduceMul, Int32.reduceToNatClampNeg, Int64.reduceAdd, Int64.reduceSub, Int64.reduceMul, Int64.reduceLT, Int32.reduceLT, Int32.reduceToInt, Nat.add_zero, Nat.zero_add, Nat.le_refl, eq_self, implies_true, ne_eq, g0, s0, g1, s1, g2, s2, g3, s3, g4, g5, g6, g7, g8, g9, g10, g11, g12, g13, g14, g15, g16, g17, g18, s18, g19, s19, g20, s20, g21, s21, g22, s22, g23, s23, ai1, aw1, ae1, as1, ai2, aw2, ae2, as2, ai3, aw3, ae3, as3, ai4, aw4, ain4, awn4, ae4, as4, ai5, aw5, ain5, awn5, ae5, as5, ai6, aw6, ae6, as6, ai7, aw7, ae7, as7, ai8, aw8, ae8, as8, ai9, aw9, ae9, as9, ai10, aw10, ain10, awn10, ae10, as10, ai11, aw11, ae11, as11, ai12, aw12, ae12, as12, ai13, aw13, ae13, as13, ai14, aw14, ae14, as14, tswW, Int.reduceAdd]
      by_cases n10 : e = 10
      · subst n10; simp +decide only [w16_0, w16_1, w16_4, w16_5, w16_6, w16_9, w16_10, w16_11, w16_14, w16_15, w16_16, w16_64, w16_65, w16_68, w16_69, w16_70, w16_71, w16_74, w16_75, w16_76, w16_77, w16_80, w16_81, w16_82, w16_85, w16_86, w16_87, w16_90, w16_91, w16_92, w16_95, w16_96, w16_97, w16_100, w16_101, w16_102, w16_105, w16_106, w16_107, zr_z0, zr_uI, zr_uJ, isO_put, isOw_put, put_fst, okv_int, okv_long, okv_ref, okv_bool, okv_byte, cat1_unset, cat1_int, cat1_ref, cs_nil, cs_int, cs_ref, cs_long, cmpL_lt, cmpL_gt, cmpL_eq, sI_uI, sI_uJ, sI_uA, sI_uB, sJ_uI, sJ_uJ, sJ_uA, sJ_uB, sA_uI, sA_uJ, sA_uA, sA_uB, sB_uI, sB_uJ, sB_uA, sB_uB, sI_fA, sJ_fA, sA_fA, sB_fA, sI_z0, sJ_z0, sA_z0, sB_z0, Option.toList_some, Option.toList_none, List.cons_append, List.nil_append, true_and, and_true, false_and, and_false, or_false, false_or, or_true, true_or, not_true_eq_false, not_false_eq_true, ↓reduceIte, Nat.reduceAdd, Nat.reduceLeDiff, Nat.reduceEqDiff, Nat.reduceSub, Int32.reduceAdd, Int32.reduceSub, Int32.reduceMul, Int32.reduceToNatClampNeg, Int64.reduceAdd, Int64.reduceSub, Int64.reduceMul, Int64.reduceLT, Int32.reduceLT, Int32.reduceToInt, Nat.add_zero, Nat.zero_add, Nat.le_refl, eq_self, implies_true, ne_eq, g0, s0, g1, s1, g2, s2, g3, s3, g4, g5, g6, g7, g8, g9, g10, g11, g12, g13, g14, g15, g16, g17, g18, s18, g19, s19, g20, s20, g21, s21, g22, s22, g23, s23, ai1, aw1, ae1, as1, ai2, aw2, ae2, as2, ai3, aw3, ae3, as3, ai4, aw4, ain4, awn4, ae4, as4, ai5, aw5, ain5, awn5, ae5, as5, ai6, aw6, ae6, as6, ai7, aw7, ae7, as7, ai8, aw8, ae8, as8, ai9, aw9, ae9, as9, ai10, aw10, ain10, awn10, ae10, as10, ai11, aw11, ae11, as11, ai12, aw12, ae12, as12, ai13, aw13, ae13, as13, ai14, aw14, ae14, as14, tswW, Int.reduceAdd]
      by_cases n11 : e = 11
      · subst n11; simp +decide only [w16_0, w16_1, w16_4, w16_5, w16_6, w16_9, w16_10, w16_11, w16_14, w16_15, w16_16, w16_64, w16_65, w16_68, w16_69, w16_70, w16_71, w16_74, w16_75, w16_76, w16_77, w16_80, w16_81, w16_82, w16_85, w16_86, w16_87, w16_90, w16_91, w16_92, w16_95, w16_96, w16_97, w16_100, w16_101, w16_102, w16_105, w16_106, w16_107, zr_z0, zr_uI, zr_uJ, isO_put, isOw_put, put_fst, okv_int, okv_long, okv_ref, okv_bool, okv_byte, cat1_unset, cat1_int, cat1_ref, cs_nil, cs_int, cs_ref, cs_long, cmpL_lt, cmpL_gt, cmpL_eq, sI_uI, sI_uJ, sI_uA, sI_uB, sJ_uI, sJ_uJ, sJ_uA, sJ_uB, sA_uI, sA_uJ, sA_uA, sA_uB, sB_uI, sB_uJ, sB_uA, sB_uB, sI_fA, sJ_fA, sA_fA, sB_fA, sI_z0, sJ_z0, sA_z0, sB_z0, Option.toList_some, Option.toList_none, List.cons_append, List.nil_append, true_and, and_true, false_and, and_false, or_false, false_or, or_true, true_or, not_true_eq_false, not_false_eq_true, ↓reduceIte, Nat.reduceAdd, Nat.reduceLeDiff, Nat.reduceEqDiff, Nat.reduceSub, Int32.reduceAdd, Int32.reduceSub, Int32.reduceMul, Int32.reduceToNatClampNeg, Int64.reduceAdd, Int64.reduceSub, Int64.reduceMul, Int64.reduceLT, Int32.reduceLT, Int32.reduceToInt, Nat.add_zero, Nat.zero_add, Nat.le_refl, eq_self, implies_true, ne_eq, g0, s0, g1, s1, g2, s2, g3, s3, g4, g5, g6, g7, g8, g9, g10, g11, g12, g13, g14, g15, g16, g17, g18, s18, g19, s19, g20, s20, g21, s21, g22, s22, g23, s23, ai1, aw1, ae1, as1, ai2, aw2, ae2, as2, ai3, aw3, ae3, as3, ai4, aw4, ain4, awn4, ae4, as4, ai5, aw5, ain5, awn5, ae5, as5, ai6, aw6, ae6, as6, ai7, aw7, ae7, as7, ai8, aw8, ae8, as8, ai9, aw9, ae9, as9, ai10, aw10, ain10, awn10, ae10, as10, ai11, aw11, ae11, as11, ai12, aw12, ae12, as12, ai13, aw13, ae13, as13, ai14, aw14, ae14, as14, tswW, t34 h0, Int.reduceAdd]
      simp +decide only [w16_0, w16_1, w16_4, w16_5, w16_6, w16_9, w16_10, w16_11, w16_14, w16_15, w16_16, w16_64, w16_65, w16_68, w16_69, w16_70, w16_71, w16_74, w16_75, w16_76, w16_77, w16_80, w16_81, w16_82, w16_85, w16_86, w16_87, w16_90, w16_91, w16_92, w16_95, w16_96, w16_97, w16_100, w16_101, w16_102, w16_105, w16_106, w16_107, zr_z0, zr_uI, zr_uJ, isO_put, isOw_put, put_fst, okv_int, okv_long, okv_ref, okv_bool, okv_byte, cat1_unset, cat1_int, cat1_ref, cs_nil, cs_int, cs_ref, cs_long, cmpL_lt, cmpL_gt, cmpL_eq, sI_uI, sI_uJ, sI_uA, sI_uB, sJ_uI, sJ_uJ, sJ_uA, sJ_uB, sA_uI, sA_uJ, sA_uA, sA_uB, sB_uI, sB_uJ, sB_uA, sB_uB, sI_fA, sJ_fA, sA_fA, sB_fA, sI_z0, sJ_z0, sA_z0, sB_z0, Option.toList_some, Option.toList_none, List.cons_append, List.nil_append, true_and, and_true, false_and, and_false, or_false, false_or, or_true, true_or, not_true_eq_false, not_false_eq_true, ↓reduceIte, Nat.reduceAdd, Nat.reduceLeDiff, Nat.reduceEqDiff, Nat.reduceSub, Int32.reduceAdd, Int32.reduceSub, Int32.reduceMul, Int32.reduceToNatClampNeg, Int64.reduceAdd, Int64.reduceSub, Int64.reduceMul, Int64.reduceLT, Int32.reduceLT, Int32.reduceToInt, Nat.add_zero, Nat.zero_add, Nat.le_refl, eq_self, implies_true, ne_eq, g0, s0, g1, s1, g2, s2, g3, s3, g4, g5, g6, g7, g8, g9, g10, g11, g12, g13, g14, g15, g16, g17, g18, s18, g19, s19, g20, s20, g21, s21, g22, s22, g23, s23, ai1, aw1, ae1, as1, ai2, aw2, ae2, as2, ai3, aw3, ae3, as3, ai4, aw4, ain4, awn4, ae4, as4, ai5, aw5, ain5, awn5, ae5, as5, ai6, aw6, ae6, as6, ai7, aw7, ae7, as7, ai8, aw8, ae8, as8, ai9, aw9, ae9, as9, ai10, aw10, ain10, awn10, ae10, as10, ai11, aw11, ae11, as11, ai12, aw12, ae12, as12, ai13, aw13, ae13, as13, ai14, aw14, ae14, as14, tswW, e1, e2, n4, n5, n6, n7, n8, n9, n10, n11, Int.reduceAdd]
    · simp +decide only [w16_0, w16_1, w16_4, w16_5, w16_6, w16_9, w16_10, w16_11, w16_14, w16_15, w16_16, w16_64, w16_65, w16_68, w16_69, w16_70, w16_71, w16_74, w16_75, w16_76, w16_77, w16_80, w16_81, w16_82, w16_85, w16_86, w16_87, w16_90, w16_91, w16_92, w16_95, w16_96, w16_97, w16_100, w16_101, w16_102, w16_105, w16_106, w16_107, zr_z0, zr_uI, zr_uJ, isO_put, isOw_put, put_fst, okv_int, okv_long, okv_ref, okv_bool, okv_byte, cat1_unset, cat1_int, cat1_ref, cs_nil, cs_int, cs_ref, cs_long, cmpL_lt, cmpL_gt, cmpL_eq, sI_uI, sI_uJ, sI_uA, sI_uB, sJ_uI, sJ_uJ, sJ_uA, sJ_uB, sA_uI, sA_uJ, sA_uA, sA_uB, sB_uI, sB_uJ, sB_uA, sB_uB, sI_fA, sJ_fA, sA_fA, sB_fA, sI_z0, sJ_z0, sA_z0, sB_z0, Option.toList_some, Option.toList_none, List.cons_append, List.nil_append, true_and, and_true, false_and, and_false, or_false, false_or, or_true, true_or, not_true_eq_false, not_false_eq_true, ↓reduceIte, Nat.reduceAdd, Nat.reduceLeDiff, Nat.reduceEqDiff, Nat.reduceSub, Int32.reduceAdd, Int32.reduceSub, Int32.reduceMul, Int32.reduceToNatClampNeg, Int64.reduceAdd, Int64.reduceSub, Int64.reduceMul, Int64.reduceLT, Int32.reduceLT, Int32.reduceToInt, Nat.add_zero, Nat.zero_add, Nat.le_refl, eq_self, implies_true, ne_eq, g0, s0, g1, s1, g2, s2, g3, s3, g4, g5, g6, g7, g8, g9, g10, g11, g12, g13, g14, g15, g16, g17, g18, s18, g19, s19, g20, s20, g21, s21, g22, s22, g23, s23, ai1, aw1, ae1, as1, ai2, aw2, ae2, as2, ai3, aw3, ae3, as3, ai4, aw4, ain4, awn4, ae4, as4, ai5, aw5, ain5, awn5, ae5, as5, ai6, aw6, ae6, as6, ai7, aw7, ae7, as7, ai8, aw8, ae8, as8, ai9, aw9, ae9, as9, ai10, aw10, ain10, awn10, ae10, as10, ai11, aw11, ae11, as11, ai12, aw12, ae12, as12, ai13, aw13, ae13, as13, ai14, aw14, ae14, as14, e1, e2, t31 h0]
end D

section E
variable {lw : LW} {H : AH} {p q : Nat} {s s' s1 : St} {Q : Option Value → AH → Prop} {a b c d : Int32} {h : Nat → Cel} {k n m : Nat}
theorem ob_comm (hs : p + 14 < q) : ob (ob H p s) q s' = ob (ob H q s') p s := by
  unfold ob; exact put_comm (Or.inr hs)
theorem lft (hs : p + 14 < q) {as : List Value} {v : Option Value} (t : ∀ (H : AH) (Q : Option Value → AH → Prop), Cl (pj lw) m (.ref p :: as) (ob H p s) Q ↔ Q v (ob H p s1)) : Cl (pj lw) m (.ref p :: as) (ob (ob H p s) q s') Q ↔ Q v (ob (ob H p s1) q s') := by
  rw [ob_comm hs, t, ob_comm hs]
def aeR (s : St) (a b w : Int32) : Int32 := if aeOk s a b w = true then sI s 18 else -1
def aeT (s : St) (a b w : Int32) : St := if aeOk s a b w = true then aeS s a b w else s
theorem t4' {w : Int32} (hE : 0 ≤ (sI s 18).toInt ∧ (sI s 18).toInt ≤ 256) : Cl (pj lw) 4 [.ref p, .int a, .int b, .int w] (ob H p s) Q ↔ Q (some (.int (aeR s a b w))) (ob H p (aeT s a b w)) := by
  rw [t4 hE]; unfold aeR aeT; by_cases e : aeOk s a b w = true <;> simp only [e, if_true, if_false]; rfl
theorem Iv_ae {w : Int32} (hI : Iv s) : Iv (aeT s a b w) := by
  unfold aeT; split
  · rename_i e
    simp only [aeOk, decide_eq_true_eq] at e
    obtain ⟨⟨⟨e1, e2⟩, e3, e4⟩, -, -, -, e9⟩ := e
    have hb := hI.1.2.1
    simp only [lt32, Int32.reduceToInt] at e1 e2 e3 e4 e9
    have h18 : (sI s 18 + 1).toInt = (sI s 18).toInt + 1 := ia (by simp only [Int32.reduceToInt]; omega) (by simp only [Int32.reduceToInt]; omega)
    refine ⟨⟨?_, ?_, ?_⟩, ?_⟩
    · simp +decide only [aeS, zr_z0, zr_uI, zr_uJ, isO_put, isOw_put, put_fst, okv_int, okv_long, okv_ref, okv_bool, okv_byte, cat1_unset, cat1_int, cat1_ref, cs_nil, cs_int, cs_ref, cs_long, cmpL_lt, cmpL_gt, cmpL_eq, sI_uI, sI_uJ, sI_uA, sI_uB, sJ_uI, sJ_uJ, sJ_uA, sJ_uB, sA_uI, sA_uJ, sA_uA, sA_uB, sB_uI, sB_uJ, sB_uA, sB_uB, sI_fA, sJ_fA, sA_fA, sB_fA, sI_z0, sJ_z0, sA_z0, sB_z0, Option.toList_some, Option.toList_none, List.cons_append, List.nil_append, true_and, and_true, false_and, and_false, or_false, false_or, or_true, true_or, not_true_eq_false, not_false_eq_true, ↓reduceIte, Nat.reduceAdd, Nat.reduceLeDiff, Nat.reduceEqDiff, Nat.reduceSub, Int32.reduceAdd, Int32.reduceSub, Int32.reduceMul, Int32.reduceToNatClampNeg, Int64.reduceAdd, Int64.reduceSub, Int64.reduceMul, Int64.reduceLT, Int32.reduceLT, Int32.reduceToInt, Nat.add_zero, Nat.zero_add, Nat.le_refl, eq_self, implies_true, ne_eq]; exact hI.1.1
    · simp +decide only [aeS, zr_z0, zr_uI, zr_uJ, isO_put, isOw_put, put_fst, okv_int, okv_long, okv_ref, okv_bool, okv_byte, cat1_unset, cat1_int, cat1_ref, cs_nil, cs_int, cs_ref, cs_long, cmpL_lt, cmpL_gt, cmpL_eq, sI_uI, sI_uJ, sI_uA, sI_uB, sJ_uI, sJ_uJ, sJ_uA, sJ_uB, sA_uI, sA_uJ, sA_uA, sA_uB, sB_uI, sB_uJ, sB_uA, sB_uB, sI_fA, sJ_fA, sA_fA, sB_fA, sI_z0, sJ_z0, sA_z0, sB_z0, Option.toList_some, Option.toList_none, List.cons_append, List.nil_append, true_and, and_true, false_and, and_false, or_false, false_or, or_true, true_or, not_true_eq_false, not_false_eq_true, ↓reduceIte, Nat.reduceAdd, Nat.reduceLeDiff, Nat.reduceEqDiff, Nat.reduceSub, Int32.reduceAdd, Int32.reduceSub, Int32.reduceMul, Int32.reduceToNatClampNeg, Int64.reduceAdd, Int64.reduceSub, Int64.reduceMul, Int64.reduceLT, Int32.reduceLT, Int32.reduceToInt, Nat.add_zero, Nat.zero_add, Nat.le_refl, eq_self, implies_true, ne_eq]; omega
    · intro k hk
      simp +decide only [aeS, zr_z0, zr_uI, zr_uJ, isO_put, isOw_put, put_fst, okv_int, okv_long, okv_ref, okv_bool, okv_byte, cat1_unset, cat1_int, cat1_ref, cs_nil, cs_int, cs_ref, cs_long, cmpL_lt, cmpL_gt, cmpL_eq, sI_uI, sI_uJ, sI_uA, sI_uB, sJ_uI, sJ_uJ, sJ_uA, sJ_uB, sA_uI, sA_uJ, sA_uA, sA_uB, sB_uI, sB_uJ, sB_uA, sB_uB, sI_fA, sJ_fA, sA_fA, sB_fA, sI_z0, sJ_z0, sA_z0, sB_z0, Option.toList_some, Option.toList_none, List.cons_append, List.nil_append, true_and, and_true, false_and, and_false, or_false, false_or, or_true, true_or, not_true_eq_false, not_false_eq_true, ↓reduceIte, Nat.reduceAdd, Nat.reduceLeDiff, Nat.reduceEqDiff, Nat.reduceSub, Int32.reduceAdd, Int32.reduceSub, Int32.reduceMul, Int32.reduceToNatClampNeg, Int64.reduceAdd, Int64.reduceSub, Int64.reduceMul, Int64.reduceLT, Int32.reduceLT, Int32.reduceToInt, Nat.add_zero, Nat.zero_add, Nat.le_refl, eq_self, implies_true, ne_eq] at hk ⊢
      rw [h18] at hk
      by_cases ek : k = (sI s 18).toNatClampNeg
      · simp only [ek, if_true]; omega
      · simp only [ek, if_false]; exact hI.1.2.2 k (by rw [cln] at ek; omega)
    · simp +decide only [aeS, zr_z0, zr_uI, zr_uJ, isO_put, isOw_put, put_fst, okv_int, okv_long, okv_ref, okv_bool, okv_byte, cat1_unset, cat1_int, cat1_ref, cs_nil, cs_int, cs_ref, cs_long, cmpL_lt, cmpL_gt, cmpL_eq, sI_uI, sI_uJ, sI_uA, sI_uB, sJ_uI, sJ_uJ, sJ_uA, sJ_uB, sA_uI, sA_uJ, sA_uA, sA_uB, sB_uI, sB_uJ, sB_uA, sB_uB, sI_fA, sJ_fA, sA_fA, sB_fA, sI_z0, sJ_z0, sA_z0, sB_z0, Option.toList_some, Option.toList_none, List.cons_append, List.nil_append, true_and, and_true, false_and, and_false, or_false, false_or, or_true, true_or, not_true_eq_false, not_false_eq_true, ↓reduceIte, Nat.reduceAdd, Nat.reduceLeDiff, Nat.reduceEqDiff, Nat.reduceSub, Int32.reduceAdd, Int32.reduceSub, Int32.reduceMul, Int32.reduceToNatClampNeg, Int64.reduceAdd, Int64.reduceSub, Int64.reduceMul, Int64.reduceLT, Int32.reduceLT, Int32.reduceToInt, Nat.add_zero, Nat.zero_add, Nat.le_refl, eq_self, implies_true, ne_eq]; exact hI.2
  · exact hI
def inR (s : St) (a : Int32) : Int32 := if inOk s a = true then 1 else 0
def inT (s : St) (a : Int32) : St := if inOk s a = true then inS s a else s
theorem t5' (h0 : (sI s 0).toInt ≤ 128) : Cl (pj lw) 5 [.ref p, .int a] (ob H p s) Q ↔ Q (some (.int (inR s a))) (ob H p (inT s a)) := by
  rw [t5 h0]; unfold inR inT; by_cases e : inOk s a = true <;> simp only [e, if_true, if_false]; rfl
theorem Iv_in (hI : Iv s) : Iv (inT s a) := by
  unfold inT; split
  · exact hI.of (by simp +decide only [inS, zr_z0, zr_uI, zr_uJ, isO_put, isOw_put, put_fst, okv_int, okv_long, okv_ref, okv_bool, okv_byte, cat1_unset, cat1_int, cat1_ref, cs_nil, cs_int, cs_ref, cs_long, cmpL_lt, cmpL_gt, cmpL_eq, sI_uI, sI_uJ, sI_uA, sI_uB, sJ_uI, sJ_uJ, sJ_uA, sJ_uB, sA_uI, sA_uJ, sA_uA, sA_uB, sB_uI, sB_uJ, sB_uA, sB_uB, sI_fA, sJ_fA, sA_fA, sB_fA, sI_z0, sJ_z0, sA_z0, sB_z0, Option.toList_some, Option.toList_none, List.cons_append, List.nil_append, true_and, and_true, false_and, and_false, or_false, false_or, or_true, true_or, not_true_eq_false, not_false_eq_true, ↓reduceIte, Nat.reduceAdd, Nat.reduceLeDiff, Nat.reduceEqDiff, Nat.reduceSub, Int32.reduceAdd, Int32.reduceSub, Int32.reduceMul, Int32.reduceToNatClampNeg, Int64.reduceAdd, Int64.reduceSub, Int64.reduceMul, Int64.reduceLT, Int32.reduceLT, Int32.reduceToInt, Nat.add_zero, Nat.zero_add, Nat.le_refl, eq_self, implies_true, ne_eq]) (by simp +decide only [inS, zr_z0, zr_uI, zr_uJ, isO_put, isOw_put, put_fst, okv_int, okv_long, okv_ref, okv_bool, okv_byte, cat1_unset, cat1_int, cat1_ref, cs_nil, cs_int, cs_ref, cs_long, cmpL_lt, cmpL_gt, cmpL_eq, sI_uI, sI_uJ, sI_uA, sI_uB, sJ_uI, sJ_uJ, sJ_uA, sJ_uB, sA_uI, sA_uJ, sA_uA, sA_uB, sB_uI, sB_uJ, sB_uA, sB_uB, sI_fA, sJ_fA, sA_fA, sB_fA, sI_z0, sJ_z0, sA_z0, sB_z0, Option.toList_some, Option.toList_none, List.cons_append, List.nil_append, true_and, and_true, false_and, and_false, or_false, false_or, or_true, true_or, not_true_eq_false, not_false_eq_true, ↓reduceIte, Nat.reduceAdd, Nat.reduceLeDiff, Nat.reduceEqDiff, Nat.reduceSub, Int32.reduceAdd, Int32.reduceSub, Int32.reduceMul, Int32.reduceToNatClampNeg, Int64.reduceAdd, Int64.reduceSub, Int64.reduceMul, Int64.reduceLT, Int32.reduceLT, Int32.reduceToInt, Nat.add_zero, Nat.zero_add, Nat.le_refl, eq_self, implies_true, ne_eq]) (by simp +decide only [inS, zr_z0, zr_uI, zr_uJ, isO_put, isOw_put, put_fst, okv_int, okv_long, okv_ref, okv_bool, okv_byte, cat1_unset, cat1_int, cat1_ref, cs_nil, cs_int, cs_ref, cs_long, cmpL_lt, cmpL_gt, cmpL_eq, sI_uI, sI_uJ, sI_uA, sI_uB, sJ_uI, sJ_uJ, sJ_uA, sJ_uB, sA_uI, sA_uJ, sA_uA, sA_uB, sB_uI, sB_uJ, sB_uA, sB_uB, sI_fA, sJ_fA, sA_fA, sB_fA, sI_z0, sJ_z0, sA_z0, sB_z0, Option.toList_some, Option.toList_none, List.cons_append, List.nil_append, true_and, and_true, false_and, and_false, or_false, false_or, or_true, true_or, not_true_eq_false, not_false_eq_true, ↓reduceIte, Nat.reduceAdd, Nat.reduceLeDiff, Nat.reduceEqDiff, Nat.reduceSub, Int32.reduceAdd, Int32.reduceSub, Int32.reduceMul, Int32.reduceToNatClampNeg, Int64.reduceAdd, Int64.reduceSub, Int64.reduceMul, Int64.reduceLT, Int32.reduceLT, Int32.reduceToInt, Nat.add_zero, Nat.zero_add, Nat.le_refl, eq_self, implies_true, ne_eq]) (fun k => by simp +decide only [inS, zr_z0, zr_uI, zr_uJ, isO_put, isOw_put, put_fst, okv_int, okv_long, okv_ref, okv_bool, okv_byte, cat1_unset, cat1_int, cat1_ref, cs_nil, cs_int, cs_ref, cs_long, cmpL_lt, cmpL_gt, cmpL_eq, sI_uI, sI_uJ, sI_uA, sI_uB, sJ_uI, sJ_uJ, sJ_uA, sJ_uB, sA_uI, sA_uJ, sA_uA, sA_uB, sB_uI, sB_uJ, sB_uA, sB_uB, sI_fA, sJ_fA, sA_fA, sB_fA, sI_z0, sJ_z0, sA_z0, sB_z0, Option.toList_some, Option.toList_none, List.cons_append, List.nil_append, true_and, and_true, false_and, and_false, or_false, false_or, or_true, true_or, not_true_eq_false, not_false_eq_true, ↓reduceIte, Nat.reduceAdd, Nat.reduceLeDiff, Nat.reduceEqDiff, Nat.reduceSub, Int32.reduceAdd, Int32.reduceSub, Int32.reduceMul, Int32.reduceToNatClampNeg, Int64.reduceAdd, Int64.reduceSub, Int64.reduceMul, Int64.reduceLT, Int32.reduceLT, Int32.reduceToInt, Nat.add_zero, Nat.zero_add, Nat.le_refl, eq_self, implies_true, ne_eq]) (fun k => by simp +decide only [inS, zr_z0, zr_uI, zr_uJ, isO_put, isOw_put, put_fst, okv_int, okv_long, okv_ref, okv_bool, okv_byte, cat1_unset, cat1_int, cat1_ref, cs_nil, cs_int, cs_ref, cs_long, cmpL_lt, cmpL_gt, cmpL_eq, sI_uI, sI_uJ, sI_uA, sI_uB, sJ_uI, sJ_uJ, sJ_uA, sJ_uB, sA_uI, sA_uJ, sA_uA, sA_uB, sB_uI, sB_uJ, sB_uA, sB_uB, sI_fA, sJ_fA, sA_fA, sB_fA, sI_z0, sJ_z0, sA_z0, sB_z0, Option.toList_some, Option.toList_none, List.cons_append, List.nil_append, true_and, and_true, false_and, and_false, or_false, false_or, or_true, true_or, not_true_eq_false, not_false_eq_true, ↓reduceIte, Nat.reduceAdd, Nat.reduceLeDiff, Nat.reduceEqDiff, Nat.reduceSub, Int32.reduceAdd, Int32.reduceSub, Int32.reduceMul, Int32.reduceToNatClampNeg, Int64.reduceAdd, Int64.reduceSub, Int64.reduceMul, Int64.reduceLT, Int32.reduceLT, Int32.reduceToInt, Nat.add_zero, Nat.zero_add, Nat.le_refl, eq_self, implies_true, ne_eq])
  · exact hI
def rqR (s : St) (a : Int32) : Int32 := if rqOk s a = true then 1 else 0
def rqT (s : St) (a : Int32) : St := if rqOk s a = true then rqS s a else s
theorem t6' (h0 : (sI s 0).toInt ≤ 128) : Cl (pj lw) 6 [.ref p, .int a] (ob H p s) Q ↔ Q (some (.int (rqR s a))) (ob H p (rqT s a)) := by
  rw [t6 h0]; unfold rqR rqT; by_cases e : rqOk s a = true <;> simp only [e, if_true, if_false]; rfl
theorem Iv_rq (hI : Iv s) : Iv (rqT s a) := by
  unfold rqT; split
  · exact hI.of (by simp +decide only [rqS, zr_z0, zr_uI, zr_uJ, isO_put, isOw_put, put_fst, okv_int, okv_long, okv_ref, okv_bool, okv_byte, cat1_unset, cat1_int, cat1_ref, cs_nil, cs_int, cs_ref, cs_long, cmpL_lt, cmpL_gt, cmpL_eq, sI_uI, sI_uJ, sI_uA, sI_uB, sJ_uI, sJ_uJ, sJ_uA, sJ_uB, sA_uI, sA_uJ, sA_uA, sA_uB, sB_uI, sB_uJ, sB_uA, sB_uB, sI_fA, sJ_fA, sA_fA, sB_fA, sI_z0, sJ_z0, sA_z0, sB_z0, Option.toList_some, Option.toList_none, List.cons_append, List.nil_append, true_and, and_true, false_and, and_false, or_false, false_or, or_true, true_or, not_true_eq_false, not_false_eq_true, ↓reduceIte, Nat.reduceAdd, Nat.reduceLeDiff, Nat.reduceEqDiff, Nat.reduceSub, Int32.reduceAdd, Int32.reduceSub, Int32.reduceMul, Int32.reduceToNatClampNeg, Int64.reduceAdd, Int64.reduceSub, Int64.reduceMul, Int64.reduceLT, Int32.reduceLT, Int32.reduceToInt, Nat.add_zero, Nat.zero_add, Nat.le_refl, eq_self, implies_true, ne_eq]) (by simp +decide only [rqS, zr_z0, zr_uI, zr_uJ, isO_put, isOw_put, put_fst, okv_int, okv_long, okv_ref, okv_bool, okv_byte, cat1_unset, cat1_int, cat1_ref, cs_nil, cs_int, cs_ref, cs_long, cmpL_lt, cmpL_gt, cmpL_eq, sI_uI, sI_uJ, sI_uA, sI_uB, sJ_uI, sJ_uJ, sJ_uA, sJ_uB, sA_uI, sA_uJ, sA_uA, sA_uB, sB_uI, sB_uJ, sB_uA, sB_uB, sI_fA, sJ_fA, sA_fA, sB_fA, sI_z0, sJ_z0, sA_z0, sB_z0, Option.toList_some, Option.toList_none, List.cons_append, List.nil_append, true_and, and_true, false_and, and_false, or_false, false_or, or_true, true_or, not_true_eq_false, not_false_eq_true, ↓reduceIte, Nat.reduceAdd, Nat.reduceLeDiff, Nat.reduceEqDiff, Nat.reduceSub, Int32.reduceAdd, Int32.reduceSub, Int32.reduceMul, Int32.reduceToNatClampNeg, Int64.reduceAdd, Int64.reduceSub, Int64.reduceMul, Int64.reduceLT, Int32.reduceLT, Int32.reduceToInt, Nat.add_zero, Nat.zero_add, Nat.le_refl, eq_self, implies_true, ne_eq]) (by simp +decide only [rqS, zr_z0, zr_uI, zr_uJ, isO_put, isOw_put, put_fst, okv_int, okv_long, okv_ref, okv_bool, okv_byte, cat1_unset, cat1_int, cat1_ref, cs_nil, cs_int, cs_ref, cs_long, cmpL_lt, cmpL_gt, cmpL_eq, sI_uI, sI_uJ, sI_uA, sI_uB, sJ_uI, sJ_uJ, sJ_uA, sJ_uB, sA_uI, sA_uJ, sA_uA, sA_uB, sB_uI, sB_uJ, sB_uA, sB_uB, sI_fA, sJ_fA, sA_fA, sB_fA, sI_z0, sJ_z0, sA_z0, sB_z0, Option.toList_some, Option.toList_none, List.cons_append, List.nil_append, true_and, and_true, false_and, and_false, or_false, false_or, or_true, true_or, not_true_eq_false, not_false_eq_true, ↓reduceIte, Nat.reduceAdd, Nat.reduceLeDiff, Nat.reduceEqDiff, Nat.reduceSub, Int32.reduceAdd, Int32.reduceSub, Int32.reduceMul, Int32.reduceToNatClampNeg, Int64.reduceAdd, Int64.reduceSub, Int64.reduceMul, Int64.reduceLT, Int32.reduceLT, Int32.reduceToInt, Nat.add_zero, Nat.zero_add, Nat.le_refl, eq_self, implies_true, ne_eq]) (fun k => by simp +decide only [rqS, zr_z0, zr_uI, zr_uJ, isO_put, isOw_put, put_fst, okv_int, okv_long, okv_ref, okv_bool, okv_byte, cat1_unset, cat1_int, cat1_ref, cs_nil, cs_int, cs_ref, cs_long, cmpL_lt, cmpL_gt, cmpL_eq, sI_uI, sI_uJ, sI_uA, sI_uB, sJ_uI, sJ_uJ, sJ_uA, sJ_uB, sA_uI, sA_uJ, sA_uA, sA_uB, sB_uI, sB_uJ, sB_uA, sB_uB, sI_fA, sJ_fA, sA_fA, sB_fA, sI_z0, sJ_z0, sA_z0, sB_z0, Option.toList_some, Option.toList_none, List.cons_append, List.nil_append, true_and, and_true, false_and, and_false, or_false, false_or, or_true, true_or, not_true_eq_false, not_false_eq_true, ↓reduceIte, Nat.reduceAdd, Nat.reduceLeDiff, Nat.reduceEqDiff, Nat.reduceSub, Int32.reduceAdd, Int32.reduceSub, Int32.reduceMul, Int32.reduceToNatClampNeg, Int64.reduceAdd, Int64.reduceSub, Int64.reduceMul, Int64.reduceLT, Int32.reduceLT, Int32.reduceToInt, Nat.add_zero, Nat.zero_add, Nat.le_refl, eq_self, implies_true, ne_eq]) (fun k => by simp +decide only [rqS, zr_z0, zr_uI, zr_uJ, isO_put, isOw_put, put_fst, okv_int, okv_long, okv_ref, okv_bool, okv_byte, cat1_unset, cat1_int, cat1_ref, cs_nil, cs_int, cs_ref, cs_long, cmpL_lt, cmpL_gt, cmpL_eq, sI_uI, sI_uJ, sI_uA, sI_uB, sJ_uI, sJ_uJ, sJ_uA, sJ_uB, sA_uI, sA_uJ, sA_uA, sA_uB, sB_uI, sB_uJ, sB_uA, sB_uB, sI_fA, sJ_fA, sA_fA, sB_fA, sI_z0, sJ_z0, sA_z0, sB_z0, Option.toList_some, Option.toList_none, List.cons_append, List.nil_append, true_and, and_true, false_and, and_false, or_false, false_or, or_true, true_or, not_true_eq_false, not_false_eq_true, ↓reduceIte, Nat.reduceAdd, Nat.reduceLeDiff, Nat.reduceEqDiff, Nat.reduceSub, Int32.reduceAdd, Int32.reduceSub, Int32.reduceMul, Int32.reduceToNatClampNeg, Int64.reduceAdd, Int64.reduceSub, Int64.reduceMul, Int64.reduceLT, Int32.reduceLT, Int32.reduceToInt, Nat.add_zero, Nat.zero_add, Nat.le_refl, eq_self, implies_true, ne_eq])
  · exact hI
theorem t2 : Cl (pj lw) 2 [.ref p, .int a] (ob H p s) Q ↔ Q none (ob H p (uI s 23 a)) := by
  rw [c2]; simp +decide only [w2_0, w2_1, w2_2, w2_5, zr_z0, zr_uI, zr_uJ, isO_put, isOw_put, put_fst, okv_int, okv_long, okv_ref, okv_bool, okv_byte, cat1_unset, cat1_int, cat1_ref, cs_nil, cs_int, cs_ref, cs_long, cmpL_lt, cmpL_gt, cmpL_eq, sI_uI, sI_uJ, sI_uA, sI_uB, sJ_uI, sJ_uJ, sJ_uA, sJ_uB, sA_uI, sA_uJ, sA_uA, sA_uB, sB_uI, sB_uJ, sB_uA, sB_uB, sI_fA, sJ_fA, sA_fA, sB_fA, sI_z0, sJ_z0, sA_z0, sB_z0, Option.toList_some, Option.toList_none, List.cons_append, List.nil_append, true_and, and_true, false_and, and_false, or_false, false_or, or_true, true_or, not_true_eq_false, not_false_eq_true, ↓reduceIte, Nat.reduceAdd, Nat.reduceLeDiff, Nat.reduceEqDiff, Nat.reduceSub, Int32.reduceAdd, Int32.reduceSub, Int32.reduceMul, Int32.reduceToNatClampNeg, Int64.reduceAdd, Int64.reduceSub, Int64.reduceMul, Int64.reduceLT, Int32.reduceLT, Int32.reduceToInt, Nat.add_zero, Nat.zero_add, Nat.le_refl, eq_self, implies_true, ne_eq, g0, s0, g1, s1, g2, s2, g3, s3, g4, g5, g6, g7, g8, g9, g10, g11, g12, g13, g14, g15, g16, g17, g18, s18, g19, s19, g20, s20, g21, s21, g22, s22, g23, s23, ai1, aw1, ae1, as1, ai2, aw2, ae2, as2, ai3, aw3, ae3, as3, ai4, aw4, ain4, awn4, ae4, as4, ai5, aw5, ain5, awn5, ae5, as5, ai6, aw6, ae6, as6, ai7, aw7, ae7, as7, ai8, aw8, ae8, as8, ai9, aw9, ae9, as9, ai10, aw10, ain10, awn10, ae10, as10, ai11, aw11, ae11, as11, ai12, aw12, ae12, as12, ai13, aw13, ae13, as13, ai14, aw14, ae14, as14]
theorem Iv_sr (hI : Iv s) : Iv (uI s 23 a) := hI.of (by simp +decide only [zr_z0, zr_uI, zr_uJ, isO_put, isOw_put, put_fst, okv_int, okv_long, okv_ref, okv_bool, okv_byte, cat1_unset, cat1_int, cat1_ref, cs_nil, cs_int, cs_ref, cs_long, cmpL_lt, cmpL_gt, cmpL_eq, sI_uI, sI_uJ, sI_uA, sI_uB, sJ_uI, sJ_uJ, sJ_uA, sJ_uB, sA_uI, sA_uJ, sA_uA, sA_uB, sB_uI, sB_uJ, sB_uA, sB_uB, sI_fA, sJ_fA, sA_fA, sB_fA, sI_z0, sJ_z0, sA_z0, sB_z0, Option.toList_some, Option.toList_none, List.cons_append, List.nil_append, true_and, and_true, false_and, and_false, or_false, false_or, or_true, true_or, not_true_eq_false, not_false_eq_true, ↓reduceIte, Nat.reduceAdd, Nat.reduceLeDiff, Nat.reduceEqDiff, Nat.reduceSub, Int32.reduceAdd, Int32.reduceSub, Int32.reduceMul, Int32.reduceToNatClampNeg, Int64.reduceAdd, Int64.reduceSub, Int64.reduceMul, Int64.reduceLT, Int32.reduceLT, Int32.reduceToInt, Nat.add_zero, Nat.zero_add, Nat.le_refl, eq_self, implies_true, ne_eq]) (by simp +decide only [zr_z0, zr_uI, zr_uJ, isO_put, isOw_put, put_fst, okv_int, okv_long, okv_ref, okv_bool, okv_byte, cat1_unset, cat1_int, cat1_ref, cs_nil, cs_int, cs_ref, cs_long, cmpL_lt, cmpL_gt, cmpL_eq, sI_uI, sI_uJ, sI_uA, sI_uB, sJ_uI, sJ_uJ, sJ_uA, sJ_uB, sA_uI, sA_uJ, sA_uA, sA_uB, sB_uI, sB_uJ, sB_uA, sB_uB, sI_fA, sJ_fA, sA_fA, sB_fA, sI_z0, sJ_z0, sA_z0, sB_z0, Option.toList_some, Option.toList_none, List.cons_append, List.nil_append, true_and, and_true, false_and, and_false, or_false, false_or, or_true, true_or, not_true_eq_false, not_false_eq_true, ↓reduceIte, Nat.reduceAdd, Nat.reduceLeDiff, Nat.reduceEqDiff, Nat.reduceSub, Int32.reduceAdd, Int32.reduceSub, Int32.reduceMul, Int32.reduceToNatClampNeg, Int64.reduceAdd, Int64.reduceSub, Int64.reduceMul, Int64.reduceLT, Int32.reduceLT, Int32.reduceToInt, Nat.add_zero, Nat.zero_add, Nat.le_refl, eq_self, implies_true, ne_eq]) (by simp +decide only [zr_z0, zr_uI, zr_uJ, isO_put, isOw_put, put_fst, okv_int, okv_long, okv_ref, okv_bool, okv_byte, cat1_unset, cat1_int, cat1_ref, cs_nil, cs_int, cs_ref, cs_long, cmpL_lt, cmpL_gt, cmpL_eq, sI_uI, sI_uJ, sI_uA, sI_uB, sJ_uI, sJ_uJ, sJ_uA, sJ_uB, sA_uI, sA_uJ, sA_uA, sA_uB, sB_uI, sB_uJ, sB_uA, sB_uB, sI_fA, sJ_fA, sA_fA, sB_fA, sI_z0, sJ_z0, sA_z0, sB_z0, Option.toList_some, Option.toList_none, List.cons_append, List.nil_append, true_and, and_true, false_and, and_false, or_false, false_or, or_true, true_or, not_true_eq_false, not_false_eq_true, ↓reduceIte, Nat.reduceAdd, Nat.reduceLeDiff, Nat.reduceEqDiff, Nat.reduceSub, Int32.reduceAdd, Int32.reduceSub, Int32.reduceMul, Int32.reduceToNatClampNeg, Int64.reduceAdd, Int64.reduceSub, Int64.reduceMul, Int64.reduceLT, Int32.reduceLT, Int32.reduceToInt, Nat.add_zero, Nat.zero_add, Nat.le_refl, eq_self, implies_true, ne_eq]) (fun k => by simp +decide only [zr_z0, zr_uI, zr_uJ, isO_put, isOw_put, put_fst, okv_int, okv_long, okv_ref, okv_bool, okv_byte, cat1_unset, cat1_int, cat1_ref, cs_nil, cs_int, cs_ref, cs_long, cmpL_lt, cmpL_gt, cmpL_eq, sI_uI, sI_uJ, sI_uA, sI_uB, sJ_uI, sJ_uJ, sJ_uA, sJ_uB, sA_uI, sA_uJ, sA_uA, sA_uB, sB_uI, sB_uJ, sB_uA, sB_uB, sI_fA, sJ_fA, sA_fA, sB_fA, sI_z0, sJ_z0, sA_z0, sB_z0, Option.toList_some, Option.toList_none, List.cons_append, List.nil_append, true_and, and_true, false_and, and_false, or_false, false_or, or_true, true_or, not_true_eq_false, not_false_eq_true, ↓reduceIte, Nat.reduceAdd, Nat.reduceLeDiff, Nat.reduceEqDiff, Nat.reduceSub, Int32.reduceAdd, Int32.reduceSub, Int32.reduceMul, Int32.reduceToNatClampNeg, Int64.reduceAdd, Int64.reduceSub, Int64.reduceMul, Int64.reduceLT, Int32.reduceLT, Int32.reduceToInt, Nat.add_zero, Nat.zero_add, Nat.le_refl, eq_self, implies_true, ne_eq]) (fun k => by simp +decide only [zr_z0, zr_uI, zr_uJ, isO_put, isOw_put, put_fst, okv_int, okv_long, okv_ref, okv_bool, okv_byte, cat1_unset, cat1_int, cat1_ref, cs_nil, cs_int, cs_ref, cs_long, cmpL_lt, cmpL_gt, cmpL_eq, sI_uI, sI_uJ, sI_uA, sI_uB, sJ_uI, sJ_uJ, sJ_uA, sJ_uB, sA_uI, sA_uJ, sA_uA, sA_uB, sB_uI, sB_uJ, sB_uA, sB_uB, sI_fA, sJ_fA, sA_fA, sB_fA, sI_z0, sJ_z0, sA_z0, sB_z0, Option.toList_some, Option.toList_none, List.cons_append, List.nil_append, true_and, and_true, false_and, and_false, or_false, false_or, or_true, true_or, not_true_eq_false, not_false_eq_true, ↓reduceIte, Nat.reduceAdd, Nat.reduceLeDiff, Nat.reduceEqDiff, Nat.reduceSub, Int32.reduceAdd, Int32.reduceSub, Int32.reduceMul, Int32.reduceToNatClampNeg, Int64.reduceAdd, Int64.reduceSub, Int64.reduceMul, Int64.reduceLT, Int32.reduceLT, Int32.reduceToInt, Nat.add_zero, Nat.zero_add, Nat.le_refl, eq_self, implies_true, ne_eq])
theorem t3 : Cl (pj lw) 3 [.ref p, .int a] (ob H p s) Q ↔ Q (some (.int (cl 0 16 a))) (ob H p (uI s 19 (cl 0 16 a))) := by
  rw [c3]; simp +decide only [w3_0, w3_1, w3_2, w3_3, w3_4, w3_6, w3_9, w3_12, w3_13, w3_16, zr_z0, zr_uI, zr_uJ, isO_put, isOw_put, put_fst, okv_int, okv_long, okv_ref, okv_bool, okv_byte, cat1_unset, cat1_int, cat1_ref, cs_nil, cs_int, cs_ref, cs_long, cmpL_lt, cmpL_gt, cmpL_eq, sI_uI, sI_uJ, sI_uA, sI_uB, sJ_uI, sJ_uJ, sJ_uA, sJ_uB, sA_uI, sA_uJ, sA_uA, sA_uB, sB_uI, sB_uJ, sB_uA, sB_uB, sI_fA, sJ_fA, sA_fA, sB_fA, sI_z0, sJ_z0, sA_z0, sB_z0, Option.toList_some, Option.toList_none, List.cons_append, List.nil_append, true_and, and_true, false_and, and_false, or_false, false_or, or_true, true_or, not_true_eq_false, not_false_eq_true, ↓reduceIte, Nat.reduceAdd, Nat.reduceLeDiff, Nat.reduceEqDiff, Nat.reduceSub, Int32.reduceAdd, Int32.reduceSub, Int32.reduceMul, Int32.reduceToNatClampNeg, Int64.reduceAdd, Int64.reduceSub, Int64.reduceMul, Int64.reduceLT, Int32.reduceLT, Int32.reduceToInt, Nat.add_zero, Nat.zero_add, Nat.le_refl, eq_self, implies_true, ne_eq, g0, s0, g1, s1, g2, s2, g3, s3, g4, g5, g6, g7, g8, g9, g10, g11, g12, g13, g14, g15, g16, g17, g18, s18, g19, s19, g20, s20, g21, s21, g22, s22, g23, s23, ai1, aw1, ae1, as1, ai2, aw2, ae2, as2, ai3, aw3, ae3, as3, ai4, aw4, ain4, awn4, ae4, as4, ai5, aw5, ain5, awn5, ae5, as5, ai6, aw6, ae6, as6, ai7, aw7, ae7, as7, ai8, aw8, ae8, as8, ai9, aw9, ae9, as9, ai10, aw10, ain10, awn10, ae10, as10, ai11, aw11, ae11, as11, ai12, aw12, ae12, as12, ai13, aw13, ae13, as13, ai14, aw14, ae14, as14, t17]
theorem Iv_sc (hI : Iv s) : Iv (uI s 19 (cl 0 16 a)) := by
  have hr := cl_rg (lo := 0) (hi := 16) a (by decide)
  refine ⟨hI.1.of (by simp +decide only [zr_z0, zr_uI, zr_uJ, isO_put, isOw_put, put_fst, okv_int, okv_long, okv_ref, okv_bool, okv_byte, cat1_unset, cat1_int, cat1_ref, cs_nil, cs_int, cs_ref, cs_long, cmpL_lt, cmpL_gt, cmpL_eq, sI_uI, sI_uJ, sI_uA, sI_uB, sJ_uI, sJ_uJ, sJ_uA, sJ_uB, sA_uI, sA_uJ, sA_uA, sA_uB, sB_uI, sB_uJ, sB_uA, sB_uB, sI_fA, sJ_fA, sA_fA, sB_fA, sI_z0, sJ_z0, sA_z0, sB_z0, Option.toList_some, Option.toList_none, List.cons_append, List.nil_append, true_and, and_true, false_and, and_false, or_false, false_or, or_true, true_or, not_true_eq_false, not_false_eq_true, ↓reduceIte, Nat.reduceAdd, Nat.reduceLeDiff, Nat.reduceEqDiff, Nat.reduceSub, Int32.reduceAdd, Int32.reduceSub, Int32.reduceMul, Int32.reduceToNatClampNeg, Int64.reduceAdd, Int64.reduceSub, Int64.reduceMul, Int64.reduceLT, Int32.reduceLT, Int32.reduceToInt, Nat.add_zero, Nat.zero_add, Nat.le_refl, eq_self, implies_true, ne_eq]) (by simp +decide only [zr_z0, zr_uI, zr_uJ, isO_put, isOw_put, put_fst, okv_int, okv_long, okv_ref, okv_bool, okv_byte, cat1_unset, cat1_int, cat1_ref, cs_nil, cs_int, cs_ref, cs_long, cmpL_lt, cmpL_gt, cmpL_eq, sI_uI, sI_uJ, sI_uA, sI_uB, sJ_uI, sJ_uJ, sJ_uA, sJ_uB, sA_uI, sA_uJ, sA_uA, sA_uB, sB_uI, sB_uJ, sB_uA, sB_uB, sI_fA, sJ_fA, sA_fA, sB_fA, sI_z0, sJ_z0, sA_z0, sB_z0, Option.toList_some, Option.toList_none, List.cons_append, List.nil_append, true_and, and_true, false_and, and_false, or_false, false_or, or_true, true_or, not_true_eq_false, not_false_eq_true, ↓reduceIte, Nat.reduceAdd, Nat.reduceLeDiff, Nat.reduceEqDiff, Nat.reduceSub, Int32.reduceAdd, Int32.reduceSub, Int32.reduceMul, Int32.reduceToNatClampNeg, Int64.reduceAdd, Int64.reduceSub, Int64.reduceMul, Int64.reduceLT, Int32.reduceLT, Int32.reduceToInt, Nat.add_zero, Nat.zero_add, Nat.le_refl, eq_self, implies_true, ne_eq]) (fun k => by simp +decide only [zr_z0, zr_uI, zr_uJ, isO_put, isOw_put, put_fst, okv_int, okv_long, okv_ref, okv_bool, okv_byte, cat1_unset, cat1_int, cat1_ref, cs_nil, cs_int, cs_ref, cs_long, cmpL_lt, cmpL_gt, cmpL_eq, sI_uI, sI_uJ, sI_uA, sI_uB, sJ_uI, sJ_uJ, sJ_uA, sJ_uB, sA_uI, sA_uJ, sA_uA, sA_uB, sB_uI, sB_uJ, sB_uA, sB_uB, sI_fA, sJ_fA, sA_fA, sB_fA, sI_z0, sJ_z0, sA_z0, sB_z0, Option.toList_some, Option.toList_none, List.cons_append, List.nil_append, true_and, and_true, false_and, and_false, or_false, false_or, or_true, true_or, not_true_eq_false, not_false_eq_true, ↓reduceIte, Nat.reduceAdd, Nat.reduceLeDiff, Nat.reduceEqDiff, Nat.reduceSub, Int32.reduceAdd, Int32.reduceSub, Int32.reduceMul, Int32.reduceToNatClampNeg, Int64.reduceAdd, Int64.reduceSub, Int64.reduceMul, Int64.reduceLT, Int32.reduceLT, Int32.reduceToInt, Nat.add_zero, Nat.zero_add, Nat.le_refl, eq_self, implies_true, ne_eq]) (fun k => by simp +decide only [zr_z0, zr_uI, zr_uJ, isO_put, isOw_put, put_fst, okv_int, okv_long, okv_ref, okv_bool, okv_byte, cat1_unset, cat1_int, cat1_ref, cs_nil, cs_int, cs_ref, cs_long, cmpL_lt, cmpL_gt, cmpL_eq, sI_uI, sI_uJ, sI_uA, sI_uB, sJ_uI, sJ_uJ, sJ_uA, sJ_uB, sA_uI, sA_uJ, sA_uA, sA_uB, sB_uI, sB_uJ, sB_uA, sB_uB, sI_fA, sJ_fA, sA_fA, sB_fA, sI_z0, sJ_z0, sA_z0, sB_z0, Option.toList_some, Option.toList_none, List.cons_append, List.nil_append, true_and, and_true, false_and, and_false, or_false, false_or, or_true, true_or, not_true_eq_false, not_false_eq_true, ↓reduceIte, Nat.reduceAdd, Nat.reduceLeDiff, Nat.reduceEqDiff, Nat.reduceSub, Int32.reduceAdd, Int32.reduceSub, Int32.reduceMul, Int32.reduceToNatClampNeg, Int64.reduceAdd, Int64.reduceSub, Int64.reduceMul, Int64.reduceLT, Int32.reduceLT, Int32.reduceToInt, Nat.add_zero, Nat.zero_add, Nat.le_refl, eq_self, implies_true, ne_eq]), ?_⟩
  simp +decide only [zr_z0, zr_uI, zr_uJ, isO_put, isOw_put, put_fst, okv_int, okv_long, okv_ref, okv_bool, okv_byte, cat1_unset, cat1_int, cat1_ref, cs_nil, cs_int, cs_ref, cs_long, cmpL_lt, cmpL_gt, cmpL_eq, sI_uI, sI_uJ, sI_uA, sI_uB, sJ_uI, sJ_uJ, sJ_uA, sJ_uB, sA_uI, sA_uJ, sA_uA, sA_uB, sB_uI, sB_uJ, sB_uA, sB_uB, sI_fA, sJ_fA, sA_fA, sB_fA, sI_z0, sJ_z0, sA_z0, sB_z0, Option.toList_some, Option.toList_none, List.cons_append, List.nil_append, true_and, and_true, false_and, and_false, or_false, false_or, or_true, true_or, not_true_eq_false, not_false_eq_true, ↓reduceIte, Nat.reduceAdd, Nat.reduceLeDiff, Nat.reduceEqDiff, Nat.reduceSub, Int32.reduceAdd, Int32.reduceSub, Int32.reduceMul, Int32.reduceToNatClampNeg, Int64.reduceAdd, Int64.reduceSub, Int64.reduceMul, Int64.reduceLT, Int32.reduceLT, Int32.reduceToInt, Nat.add_zero, Nat.zero_add, Nat.le_refl, eq_self, implies_true, ne_eq] at hr ⊢; exact hr
theorem Iv_ini : Iv (ini0 a b c d) := by
  have hr := cl_rg (lo := 2) (hi := 128) a (by decide)
  simp only [Int32.reduceToInt] at hr
  refine ⟨⟨?_, ?_, ?_⟩, ?_⟩
  · simp +decide only [ini0, F1, zr_z0, zr_uI, zr_uJ, isO_put, isOw_put, put_fst, okv_int, okv_long, okv_ref, okv_bool, okv_byte, cat1_unset, cat1_int, cat1_ref, cs_nil, cs_int, cs_ref, cs_long, cmpL_lt, cmpL_gt, cmpL_eq, sI_uI, sI_uJ, sI_uA, sI_uB, sJ_uI, sJ_uJ, sJ_uA, sJ_uB, sA_uI, sA_uJ, sA_uA, sA_uB, sB_uI, sB_uJ, sB_uA, sB_uB, sI_fA, sJ_fA, sA_fA, sB_fA, sI_z0, sJ_z0, sA_z0, sB_z0, Option.toList_some, Option.toList_none, List.cons_append, List.nil_append, true_and, and_true, false_and, and_false, or_false, false_or, or_true, true_or, not_true_eq_false, not_false_eq_true, ↓reduceIte, Nat.reduceAdd, Nat.reduceLeDiff, Nat.reduceEqDiff, Nat.reduceSub, Int32.reduceAdd, Int32.reduceSub, Int32.reduceMul, Int32.reduceToNatClampNeg, Int64.reduceAdd, Int64.reduceSub, Int64.reduceMul, Int64.reduceLT, Int32.reduceLT, Int32.reduceToInt, Nat.add_zero, Nat.zero_add, Nat.le_refl, eq_self, implies_true, ne_eq]; exact hr
  · simp +decide only [ini0, F1, zr_z0, zr_uI, zr_uJ, isO_put, isOw_put, put_fst, okv_int, okv_long, okv_ref, okv_bool, okv_byte, cat1_unset, cat1_int, cat1_ref, cs_nil, cs_int, cs_ref, cs_long, cmpL_lt, cmpL_gt, cmpL_eq, sI_uI, sI_uJ, sI_uA, sI_uB, sJ_uI, sJ_uJ, sJ_uA, sJ_uB, sA_uI, sA_uJ, sA_uA, sA_uB, sB_uI, sB_uJ, sB_uA, sB_uB, sI_fA, sJ_fA, sA_fA, sB_fA, sI_z0, sJ_z0, sA_z0, sB_z0, Option.toList_some, Option.toList_none, List.cons_append, List.nil_append, true_and, and_true, false_and, and_false, or_false, false_or, or_true, true_or, not_true_eq_false, not_false_eq_true, ↓reduceIte, Nat.reduceAdd, Nat.reduceLeDiff, Nat.reduceEqDiff, Nat.reduceSub, Int32.reduceAdd, Int32.reduceSub, Int32.reduceMul, Int32.reduceToNatClampNeg, Int64.reduceAdd, Int64.reduceSub, Int64.reduceMul, Int64.reduceLT, Int32.reduceLT, Int32.reduceToInt, Nat.add_zero, Nat.zero_add, Nat.le_refl, eq_self, implies_true, ne_eq]
  · intro k hk; simp +decide only [ini0, F1, zr_z0, zr_uI, zr_uJ, isO_put, isOw_put, put_fst, okv_int, okv_long, okv_ref, okv_bool, okv_byte, cat1_unset, cat1_int, cat1_ref, cs_nil, cs_int, cs_ref, cs_long, cmpL_lt, cmpL_gt, cmpL_eq, sI_uI, sI_uJ, sI_uA, sI_uB, sJ_uI, sJ_uJ, sJ_uA, sJ_uB, sA_uI, sA_uJ, sA_uA, sA_uB, sB_uI, sB_uJ, sB_uA, sB_uB, sI_fA, sJ_fA, sA_fA, sB_fA, sI_z0, sJ_z0, sA_z0, sB_z0, Option.toList_some, Option.toList_none, List.cons_append, List.nil_append, true_and, and_true, false_and, and_false, or_false, false_or, or_true, true_or, not_true_eq_false, not_false_eq_true, ↓reduceIte, Nat.reduceAdd, Nat.reduceLeDiff, Nat.reduceEqDiff, Nat.reduceSub, Int32.reduceAdd, Int32.reduceSub, Int32.reduceMul, Int32.reduceToNatClampNeg, Int64.reduceAdd, Int64.reduceSub, Int64.reduceMul, Int64.reduceLT, Int32.reduceLT, Int32.reduceToInt, Nat.add_zero, Nat.zero_add, Nat.le_refl, eq_self, implies_true, ne_eq] at hk; exact absurd hk (by omega)
  · simp +decide only [ini0, F1, zr_z0, zr_uI, zr_uJ, isO_put, isOw_put, put_fst, okv_int, okv_long, okv_ref, okv_bool, okv_byte, cat1_unset, cat1_int, cat1_ref, cs_nil, cs_int, cs_ref, cs_long, cmpL_lt, cmpL_gt, cmpL_eq, sI_uI, sI_uJ, sI_uA, sI_uB, sJ_uI, sJ_uJ, sJ_uA, sJ_uB, sA_uI, sA_uJ, sA_uA, sA_uB, sB_uI, sB_uJ, sB_uA, sB_uB, sI_fA, sJ_fA, sA_fA, sB_fA, sI_z0, sJ_z0, sA_z0, sB_z0, Option.toList_some, Option.toList_none, List.cons_append, List.nil_append, true_and, and_true, false_and, and_false, or_false, false_or, or_true, true_or, not_true_eq_false, not_false_eq_true, ↓reduceIte, Nat.reduceAdd, Nat.reduceLeDiff, Nat.reduceEqDiff, Nat.reduceSub, Int32.reduceAdd, Int32.reduceSub, Int32.reduceMul, Int32.reduceToNatClampNeg, Int64.reduceAdd, Int64.reduceSub, Int64.reduceMul, Int64.reduceLT, Int32.reduceLT, Int32.reduceToInt, Nat.add_zero, Nat.zero_add, Nat.le_refl, eq_self, implies_true, ne_eq]
end E

section F
variable {lw : LW} {p q c a len : Nat} {s s' s1 : St} {Q : Option Value → AH → Prop} {f : Nat → Int32}
theorem sc2 (ha : a < p) (hs : p + 14 < q) : (isA (ob (ob (H1 c a len f) p s) q s') a = true) = True ∧ alen (ob (ob (H1 c a len f) p s) q s') a = len ∧ (∀ i, (inA (ob (ob (H1 c a len f) p s) q s') a .int i = true) = (0 ≤ i.toInt ∧ i.toInt < len)) ∧ ∀ i, elt (ob (ob (H1 c a len f) p s) q s') a i = .int (f i.toNatClampNeg) := by
  unfold ob
  refine ⟨?_, ?_, fun i => ?_, fun i => ?_⟩
  · rw [isA_ot (Or.inl (by omega)), isA_ot (Or.inl ha), isA_H1]; exact eq_self _ ▸ rfl
  · rw [alen_ot (Or.inl (by omega)), alen_ot (Or.inl ha), alen_H1]
  · rw [inA_ot (Or.inl (by omega)), inA_ot (Or.inl ha)]; exact propext inA_H1
  · rw [elt_ot (Or.inl (by omega)), elt_ot (Or.inl ha), elt_H1]
theorem runF_1 : runF (cl 0 8 1).toInt.toNat s = dayS s := by rw [show (cl 0 8 1).toInt.toNat = 1 from by decide]; rfl
end F

section G
variable {s s' : St} {a b c d : Int32} {B : Int}
def nN (s : St) : Nat := (sI s 0).toInt.toNat
def J1 (s : St) : Prop := ∀ i, i < nN s → (sA s 1 i = 0 ∧ sA s 6 i = -2) ∨ ((sA s 1 i = 1 ∨ sA s 1 i = 2 ∨ sA s 1 i = 3) ∧ ¬ sA s 6 i = -2)
def J2 (s : St) : Prop := ∀ i, i < nN s → (sA s 4 i = 0 ∧ (sA s 5 i = 0 ∨ sA s 5 i = 1)) ∨ (sA s 4 i = 1 ∧ sA s 5 i = 0)
def J3 (s : St) (B : Int) : Prop := (sI s 21).toInt = cnt (fun i => decide (¬ sA s 4 i = 0)) 0 (nN s) ∧ (sI s 21).toInt ≤ (sI s 20).toInt ∧ (sI s 20).toInt ≤ B
def M9 (s : St) : Prop := ∀ i, i < nN s → ¬ sA s 9 i = 0 → ¬ sA s 6 i = -2
theorem nN_of (h0 : sI s' 0 = sI s 0) : nN s' = nN s := by unfold nN; rw [h0]
theorem J1.of (h : J1 s) (h0 : sI s' 0 = sI s 0) (h1 : ∀ i, sA s' 1 i = sA s 1 i) (h6 : ∀ i, sA s' 6 i = sA s 6 i) : J1 s' := fun i hi => by
  rw [h1, h6]; exact h i (by rw [← nN_of h0]; exact hi)
theorem J2.of (h : J2 s) (h0 : sI s' 0 = sI s 0) (h4 : ∀ i, sA s' 4 i = sA s 4 i) (h5 : ∀ i, sA s' 5 i = sA s 5 i) : J2 s' := fun i hi => by
  rw [h4, h5]; exact h i (by rw [← nN_of h0]; exact hi)
theorem J3.of (h : J3 s B) (h0 : sI s' 0 = sI s 0) (h20 : sI s' 20 = sI s 20) (h21 : sI s' 21 = sI s 21) (h4 : ∀ i, sA s' 4 i = sA s 4 i) : J3 s' B := by
  unfold J3; rw [h20, h21, nN_of h0]; simp only [h4]; exact h
theorem M9.of (h : M9 s) (h0 : sI s' 0 = sI s 0) (h9 : ∀ i, sA s' 9 i = sA s 9 i) (h6 : ∀ i, sA s' 6 i = sA s 6 i) : M9 s' := fun i hi => by
  rw [h9, h6]; exact h i (by rw [← nN_of h0]; exact hi)
theorem J3.mono {B' : Int} (h : J3 s B) (hb : B ≤ B') : J3 s B' := ⟨h.1, h.2.1, by have := h.2.2; omega⟩
def J (s : St) (B : Int) : Prop := Iv s ∧ J1 s ∧ J2 s ∧ J3 s B
theorem J.mono {B' : Int} (h : J s B) (hb : B ≤ B') : J s B' := ⟨h.1, h.2.1, h.2.2.1, h.2.2.2.mono hb⟩
end G

section Hh
variable {s s' : St} {a b c d : Int32} {B D : Int}
def adj (s : St) (i j : Nat) : Prop := ∃ e, e < (sI s 18).toInt.toNat ∧ (((sA s 12 e).toNatClampNeg = i ∧ (sA s 13 e).toNatClampNeg = j) ∨ ((sA s 12 e).toNatClampNeg = j ∧ (sA s 13 e).toNatClampNeg = i))
def Src (s : St) (i : Nat) : Prop := (sA s 6 i = -1 ∧ sA s 8 i = 0) ∨ ((0 ≤ (sA s 6 i).toInt ∧ (sA s 6 i).toInt < (sI s 0).toInt) ∧ (sA s 6 i).toNatClampNeg ≠ i ∧ (sA s 1 (sA s 6 i).toNatClampNeg = 2 ∨ sA s 1 (sA s 6 i).toNatClampNeg = 3) ∧ (sA s 8 i).toInt = (sA s 8 (sA s 6 i).toNatClampNeg).toInt + 1 ∧ 0 ≤ (sA s 8 (sA s 6 i).toNatClampNeg).toInt ∧ (sA s 7 (sA s 6 i).toNatClampNeg).toInt < (sA s 7 i).toInt ∧ adj s i (sA s 6 i).toNatClampNeg)
def Tm (s : St) (i : Nat) : Prop := (sA s 1 i = 1 ∧ (1 ≤ (sA s 2 i).toInt ∧ (sA s 2 i).toInt ≤ (sI s 1).toInt) ∧ sA s 4 i = 0) ∨ (sA s 1 i = 2 ∧ 1 ≤ (sA s 2 i).toInt ∧ (sA s 2 i).toInt ≤ (sI s 2).toInt) ∨ (sA s 1 i = 3 ∧ sA s 2 i = 0)
def PK (s : St) (D : Int) (i : Nat) : Prop :=
  (sA s 1 i = 0 ∧ sA s 2 i = 0 ∧ sA s 6 i = -2 ∧ sA s 7 i = -1 ∧ sA s 8 i = -1 ∧ sA s 4 i = 0) ∨
  (Tm s i ∧ (0 ≤ (sA s 7 i).toInt ∧ (sA s 7 i).toInt ≤ D) ∧ (0 ≤ (sA s 8 i).toInt ∧ (sA s 8 i).toInt ≤ (sA s 7 i).toInt) ∧ Src s i)
def KK (s : St) (D : Int) : Prop := ∀ i, i < nN s → PK s D i
def KQ (s : St) : Prop := ∀ i, i < nN s → 0 ≤ (sA s 3 i).toInt ∧ (sA s 3 i).toInt ≤ (sI s 3).toInt
def KC (s : St) : Prop := (1 ≤ (sI s 1).toInt ∧ (sI s 1).toInt ≤ 8) ∧ (1 ≤ (sI s 2).toInt ∧ (sI s 2).toInt ≤ 8) ∧ (1 ≤ (sI s 3).toInt ∧ (sI s 3).toInt ≤ 16)
def Eq1 (s s' : St) : Prop := (sI s' 0 = sI s 0 ∧ sI s' 1 = sI s 1 ∧ sI s' 2 = sI s 2) ∧ (∀ i j, adj s i j → adj s' i j) ∧ (∀ i, sA s' 1 i = sA s 1 i) ∧ (∀ i, sA s' 2 i = sA s 2 i) ∧ (∀ i, sA s' 6 i = sA s 6 i) ∧ (∀ i, sA s' 7 i = sA s 7 i) ∧ (∀ i, sA s' 8 i = sA s 8 i)
theorem adj_of (h18 : sI s' 18 = sI s 18) (h12 : ∀ i, sA s' 12 i = sA s 12 i) (h13 : ∀ i, sA s' 13 i = sA s 13 i) : ∀ i j, adj s i j → adj s' i j := fun i j ⟨e, h, g⟩ => ⟨e, by rw [h18]; exact h, by rw [h12, h13]; exact g⟩
theorem Src.of {i : Nat} (h : Src s i) (q : Eq1 s s') : Src s' i := by
  obtain ⟨⟨q0, q1, q2⟩, qa, e1, e2, e6, e7, e8⟩ := q
  unfold Src at *; rw [e6, e8, e7, q0]; simp only [e1, e8, e7]
  rcases h with h | ⟨h1, h2, h3, h4, h5, h6, h7⟩
  · exact Or.inl h
  · exact Or.inr ⟨h1, h2, h3, h4, h5, h6, qa _ _ h7⟩
theorem PK.of {i : Nat} (h : PK s D i) (q : Eq1 s s') (h4 : (sA s 1 i = 0 ∨ sA s 1 i = 1) → sA s 4 i = 0 → sA s' 4 i = 0) : PK s' D i := by
  have q' := q
  obtain ⟨⟨q0, q1, q2⟩, qa, e1, e2, e6, e7, e8⟩ := q
  unfold PK; rw [e1, e2, e6, e7, e8]
  rcases h with ⟨a1, a2, a3, a4, a5, a6⟩ | ⟨a1, a2, a3, a4⟩
  · exact Or.inl ⟨a1, a2, a3, a4, a5, h4 (Or.inl a1) a6⟩
  · refine Or.inr ⟨?_, a2, a3, a4.of q'⟩
    unfold Tm; rw [e1, e2, q1, q2]
    rcases a1 with ⟨b1, b2, b3⟩ | b | b
    · exact Or.inl ⟨b1, b2, h4 (Or.inr b1) b3⟩
    · exact Or.inr (Or.inl b)
    · exact Or.inr (Or.inr b)
theorem PK.mono {i : Nat} {D' : Int} (h : PK s D i) (hd : D ≤ D') : PK s D' i := by
  rcases h with h | ⟨a1, a2, a3, a4⟩
  · exact Or.inl h
  · exact Or.inr ⟨a1, ⟨a2.1, by omega⟩, a3, a4⟩
theorem KK.of (h : KK s D) (q : Eq1 s s') (h4 : ∀ i, i < nN s → (sA s 1 i = 0 ∨ sA s 1 i = 1) → sA s 4 i = 0 → sA s' 4 i = 0) : KK s' D := fun i hi =>
  (h i (by rw [← nN_of q.1.1]; exact hi)).of q (h4 i (by rw [← nN_of q.1.1]; exact hi))
theorem KQ.of (h : KQ s) (h0 : sI s' 0 = sI s 0) (h3 : sI s' 3 = sI s 3) (hq : ∀ i, sA s' 3 i = sA s 3 i) : KQ s' := fun i hi => by
  rw [hq, h3]; exact h i (by rw [← nN_of h0]; exact hi)
theorem KC.of (h : KC s) (h1 : sI s' 1 = sI s 1) (h2 : sI s' 2 = sI s 2) (h3 : sI s' 3 = sI s 3) : KC s' := by unfold KC; rw [h1, h2, h3]; exact h
theorem PK.c4 {i : Nat} (h : PK s D i) : sA s 1 i = 0 ∨ sA s 1 i = 1 ∨ sA s 1 i = 2 ∨ sA s 1 i = 3 := by
  rcases h with h | ⟨(h | h | h), _⟩
  · exact Or.inl h.1
  · exact Or.inr (Or.inl h.1)
  · exact Or.inr (Or.inr (Or.inl h.1))
  · exact Or.inr (Or.inr (Or.inr h.1))
theorem i32_2 {x : Int32} (h : 0 ≤ x.toInt) : ¬ x = -2 ∧ ¬ x = -1 := ⟨fun g => by rw [g] at h; exact absurd h (by decide), fun g => by rw [g] at h; exact absurd h (by decide)⟩
theorem PK.j1 {i : Nat} (h : PK s D i) : (sA s 1 i = 0 ∧ sA s 6 i = -2) ∨ ((sA s 1 i = 1 ∨ sA s 1 i = 2 ∨ sA s 1 i = 3) ∧ ¬ sA s 6 i = -2) := by
  rcases h with h | ⟨a1, a2, a3, a4⟩
  · exact Or.inl ⟨h.1, h.2.2.1⟩
  · refine Or.inr ⟨?_, ?_⟩
    · rcases a1 with h | h | h
      · exact Or.inl h.1
      · exact Or.inr (Or.inl h.1)
      · exact Or.inr (Or.inr h.1)
    · rcases a4 with h | h
      · rw [h.1]; decide
      · exact (i32_2 h.1.1).1
def K (s : St) (B : Int) : Prop := J s B ∧ KK s (sI s 22).toInt ∧ KQ s ∧ KC s ∧ 0 ≤ (sI s 22).toInt
def Day (s s' : St) : Prop := ((sI s' 22).toInt = (sI s 22).toInt + 1) ∧ (∀ x, x ≠ 20 ∧ x ≠ 21 ∧ x ≠ 22 ∧ x ≠ 23 → sI s' x = sI s x) ∧ (∀ i, sA s' 12 i = sA s 12 i) ∧ (∀ i, sA s' 13 i = sA s 13 i) ∧ (∀ i, sA s' 14 i = sA s 14 i) ∧ (∀ i, i < nN s → (sA s' 6 i = -1 ↔ sA s 6 i = -1)) ∧ (∀ i, i < nN s → (sA s 1 i).toInt ≤ (sA s' 1 i).toInt) ∧ (∀ i, i < nN s → (sA s' 7 i).toInt = (sI s 22).toInt + 1 → ¬ 0 < sA s 3 i ∧ (0 ≤ (sA s' 6 i).toInt → ¬ 0 < sA s 3 (sA s' 6 i).toNatClampNeg)) ∧ ((sI s 20).toInt ≤ (sI s' 20).toInt) ∧ ((sI s' 20).toInt ≤ (sI s 20).toInt + (sI s 19).toInt)
theorem Day.new {s s' : St} (h : Day s s') : ∀ i, i < nN s → (sA s' 7 i).toInt = (sI s 22).toInt + 1 → ¬ 0 < sA s 3 i ∧ (0 ≤ (sA s' 6 i).toInt → ¬ 0 < sA s 3 (sA s' 6 i).toNatClampNeg) := h.2.2.2.2.2.2.2.1
theorem Day.t1 {s s' : St} (h : Day s s') : (sI s 20).toInt ≤ (sI s' 20).toInt := h.2.2.2.2.2.2.2.2.1
theorem Day.t2 {s s' : St} (h : Day s s') : (sI s' 20).toInt ≤ (sI s 20).toInt + (sI s 19).toInt := h.2.2.2.2.2.2.2.2.2
end Hh

section Ii
variable {s s' : St} {a b c d : Int32} {B D : Int}
theorem K.mono {B' : Int} (h : K s B) (hb : B ≤ B') : K s B' := ⟨h.1.mono hb, h.2⟩
theorem K.I (h : K s B) (hI : Iv s') (hx : ∀ x, x ≠ 19 ∧ x ≠ 23 → sI s' x = sI s x) (hA : ∀ t i, sA s' t i = sA s t i) : K s' B := by
  have q : Eq1 s s' := ⟨⟨hx 0 (by decide), hx 1 (by decide), hx 2 (by decide)⟩, adj_of (hx 18 (by decide)) (hA 12) (hA 13), hA 1, hA 2, hA 6, hA 7, hA 8⟩
  refine ⟨⟨hI, h.1.2.1.of (hx 0 (by decide)) (hA 1) (hA 6), h.1.2.2.1.of (hx 0 (by decide)) (hA 4) (hA 5), h.1.2.2.2.of (hx 0 (by decide)) (hx 20 (by decide)) (hx 21 (by decide)) (hA 4)⟩, ?_, h.2.2.1.of (hx 0 (by decide)) (hx 3 (by decide)) (hA 3), h.2.2.2.1.of (hx 1 (by decide)) (hx 2 (by decide)) (hx 3 (by decide)), by rw [hx 22 (by decide)]; exact h.2.2.2.2⟩
  rw [hx 22 (by decide)]
  exact h.2.1.of q (fun i _ _ g => by rw [hA]; exact g)
def Days (s s' : St) (m : Nat) : Prop := ((sI s' 22).toInt = (sI s 22).toInt + m) ∧ (∀ x, x ≠ 20 ∧ x ≠ 21 ∧ x ≠ 22 ∧ x ≠ 23 → sI s' x = sI s x) ∧ (∀ i, sA s' 12 i = sA s 12 i) ∧ (∀ i, sA s' 13 i = sA s 13 i) ∧ (∀ i, i < nN s → (sA s' 6 i = -1 ↔ sA s 6 i = -1)) ∧ ((sI s 20).toInt ≤ (sI s' 20).toInt) ∧ ((sI s' 20).toInt ≤ (sI s 20).toInt + (sI s 19).toInt * m)
theorem Days.t1 {s s' : St} {m : Nat} (h : Days s s' m) : (sI s 20).toInt ≤ (sI s' 20).toInt := h.2.2.2.2.2.1
theorem Days.t2 {s s' : St} {m : Nat} (h : Days s s' m) : (sI s' 20).toInt ≤ (sI s 20).toInt + (sI s 19).toInt * m := h.2.2.2.2.2.2
end Ii

end Jvm.JX.Pj
namespace Jvm.JX.Lw
open Jvm Jvm.ClassFile Sem Op Lib Jvm.JX Jvm.JX.Pj
def lr0 : List Row := [(0, .new 7, 3, 24), (3, .dup, 1, 0), (4, .bipush 8, 2, 0), (6, .iconst 2, 1, 0), (7, .iconst 3, 1, 0), (8, .iconst 4, 1, 0), (9, .invokespecial 9, 3, 1), (12, .astore_n 1, 1, 0), (13, .new 7, 3, 24), (16, .dup, 1, 0), (17, .bipush 8, 2, 0), (19, .iconst 2, 1, 0), (20, .iconst 3, 1, 0), (21, .iconst 4, 1, 0), (22, .invokespecial 9, 3, 1), (25, .astore_n 2, 1, 0), (26, .iconst 0, 1, 0), (27, .istore_n 3, 1, 0), (28, .iload_n 3, 1, 0), (29, .iconst 3, 1, 0), (30, .iadd, 1, 0), (31, .aload_n 0, 1, 0), (32, .arraylength, 1, 0), (33, .if_icmp .ge 286, 3, 0), (36, .aload_n 0, 1, 0), (37, .iload_n 3, 1, 0), (38, .iaload, 1, 0), (39, .bipush 7, 2, 0), (41, .iand, 1, 0), (42, .istore 4, 2, 0), (44, .aload_n 0, 1, 0), (45, .iload_n 3, 1, 0), (46, .iconst 1, 1, 0), (47, .iadd, 1, 0), (48, .iaload, 1, 0), (49, .istore 5, 2, 0), (51, .aload_n 0, 1, 0), (52, .iload_n 3, 1, 0), (53, .iconst 2, 1, 0), (54, .iadd, 1, 0), (55, .iaload, 1, 0), (56, .istore 6, 2, 0), (58, .aload_n 0, 1, 0), (59, .iload_n 3, 1, 0), (60, .iconst 3, 1, 0), (61, .iadd, 1, 0), (62, .iaload, 1, 0), (63, .istore 7, 2, 0), (65, .iload 4, 2, 0), (67, .ifCond .ne 18, 3, 0), (70, .aload_n 1, 1, 0), (71, .iload 5, 2, 0), (73, .invokevirtual 12, 3, 2), (76, .aload_n 2, 1, 0), (77, .iload 5, 2, 0), (79, .invokevirtual 12, 3, 2), (82, .goto 221, 3, 0), (85, .iload 4, 2, 0), (87, .iconst 1, 1, 0), (88, .if_icmp .ne 32, 3, 0), (91, .iload 5, 2, 0), (93, .bipush 31, 2, 0), (95, .iand, 1, 0), (96, .iconst 4, 1, 0), (97, .isub, 1, 0), (98, .istore 8, 2, 0), (100, .aload_n 1, 1, 0), (101, .iload 8, 2, 0), (103, .invokevirtual 16, 3, 3), (106, .aload_n 2, 1, 0), (107, .iload 8, 2, 0), (109, .invokevirtual 16, 3, 3), (112, .if_icmp .eq 5, 3, 0), (115, .iconst 0, 1, 0), (116, .ireturn, 1, 0), (117, .goto 186, 3, 0), (120, .iload 4, 2, 0), (122, .iconst 3, 1, 0), (123, .if_icmp .ne 33, 3, 0), (126, .iload 5, 2, 0), (128, .ldc 20, 2, 2147483647), (130, .iand, 1, 0), (131, .bipush 9, 2, 0), (133, .irem, 1, 0), (134, .istore 8, 2, 0), (136, .aload_n 1, 1, 0), (137, .iload 8, 2, 0), (139, .invokevirtual 21, 3, 5), (142, .aload_n 2, 1, 0), (143, .iload 8, 2, 0), (145, .invokevirtual 21, 3, 5), (148, .if_icmp .eq 5, 3, 0), (151, .iconst 0, 1, 0), (152, .ireturn, 1, 0), (153, .goto 150, 3, 0), (156, .iload 4, 2, 0), (158, .iconst 4, 1, 0), (159, .if_icmp .ne 33, 3, 0), (162, .iload 5, 2, 0), (164, .ldc 20, 2, 2147483647), (166, .iand, 1, 0), (167, .bipush 9, 2, 0), (169, .irem, 1, 0), (170, .istore 8, 2, 0), (172, .aload_n 1, 1, 0), (173, .iload 8, 2, 0), (175, .invokevirtual 25, 3, 6), (178, .aload_n 2, 1, 0), (179, .iload 8, 2, 0), (181, .invokevirtual 25, 3, 6), (184, .if_icmp .eq 5, 3, 0), (187, .iconst 0, 1, 0), (188, .ireturn, 1, 0), (189, .goto 114, 3, 0), (192, .iload 4, 2, 0), (194, .iconst 5, 1, 0), (195, .if_icmp .ne 61, 3, 0), (198, .iload 5, 2, 0), (200, .bipush 7, 2, 0), (202, .iand, 1, 0), (203, .istore 8, 2, 0), (205, .aload_n 1, 1, 0), (206, .iload 8, 2, 0), (208, .invokevirtual 28, 3, 7), (211, .istore 9, 2, 0), (213, .aload_n 2, 1, 0), (214, .bipush 10, 2, 0), (216, .invokevirtual 31, 3, 16), (219, .istore 10, 2, 0), (221, .iconst 0, 1, 0), (222, .istore 11, 2, 0), (224, .iload 11, 2, 0), (226, .iload 8, 2, 0), (228, .if_icmp .ge 16, 3, 0), (231, .aload_n 2, 1, 0), (232, .iconst 1, 1, 0), (233, .invokevirtual 28, 3, 7), (236, .istore 10, 2, 0), (238, .iinc 11 1, 3, 0), (241, .goto (-17), 3, 0), (244, .iload 9, 2, 0), (246, .iload 10, 2, 0), (248, .if_icmp .eq 5, 3, 0), (251, .iconst 0, 1, 0), (252, .ireturn, 1, 0), (253, .goto 50, 3, 0), (256, .iload 5, 2, 0), (258, .bipush 7, 2, 0), (260, .iand, 1, 0), (261, .istore 8, 2, 0), (263, .iload 6, 2, 0), (265, .bipush 7, 2, 0), (267, .iand, 1, 0), (268, .istore 9, 2, 0), (270, .iload 7, 2, 0), (272, .sipush 1023, 3, 0), (275, .iand, 1, 0), (276, .istore 10, 2, 0), (278, .aload_n 1, 1, 0), (279, .iload 8, 2, 0), (281, .iload 9, 2, 0), (283, .iload 10, 2, 0), (285, .invokevirtual 34, 3, 4), (288, .aload_n 2, 1, 0), (289, .iload 8, 2, 0), (291, .iload 9, 2, 0), (293, .iload 10, 2, 0), (295, .invokevirtual 34, 3, 4), (298, .if_icmp .eq 5, 3, 0), (301, .iconst 0, 1, 0), (302, .ireturn, 1, 0), (303, .aload_n 1, 1, 0), (304, .aload_n 2, 1, 0), (305, .invokestatic 38, 3, 103), (308, .ifCond .ne 5, 3, 0), (311, .iconst 0, 1, 0), (312, .ireturn, 1, 0), (313, .iinc 3 4, 3, 0), (316, .goto (-288), 3, 0), (319, .iconst 1, 1, 0), (320, .ireturn, 1, 0)]
def lr3 : List Row := [(0, .iconst 0, 1, 0), (1, .istore_n 2, 1, 0), (2, .iload_n 2, 1, 0), (3, .bipush 11, 2, 0), (5, .if_icmp .gt 24, 3, 0), (8, .aload_n 0, 1, 0), (9, .iload_n 2, 1, 0), (10, .invokevirtual 31, 3, 16), (13, .aload_n 1, 1, 0), (14, .iload_n 2, 1, 0), (15, .invokevirtual 31, 3, 16), (18, .if_icmp .eq 5, 3, 0), (21, .iconst 0, 1, 0), (22, .ireturn, 1, 0), (23, .iinc 2 1, 3, 0), (26, .goto (-24), 3, 0), (29, .iconst 0, 1, 0), (30, .istore_n 2, 1, 0), (31, .iload_n 2, 1, 0), (32, .bipush 8, 2, 0), (34, .if_icmp .ge 121, 3, 0), (37, .aload_n 0, 1, 0), (38, .iload_n 2, 1, 0), (39, .invokevirtual 44, 3, 8), (42, .aload_n 1, 1, 0), (43, .iload_n 2, 1, 0), (44, .invokevirtual 44, 3, 8), (47, .if_icmp .ne 16, 3, 0), (50, .aload_n 0, 1, 0), (51, .iload_n 2, 1, 0), (52, .invokevirtual 47, 3, 9), (55, .aload_n 1, 1, 0), (56, .iload_n 2, 1, 0), (57, .invokevirtual 47, 3, 9), (60, .if_icmp .eq 5, 3, 0), (63, .iconst 0, 1, 0), (64, .ireturn, 1, 0), (65, .aload_n 0, 1, 0), (66, .iload_n 2, 1, 0), (67, .invokevirtual 50, 3, 10), (70, .aload_n 1, 1, 0), (71, .iload_n 2, 1, 0), (72, .invokevirtual 50, 3, 10), (75, .if_icmp .ne 16, 3, 0), (78, .aload_n 0, 1, 0), (79, .iload_n 2, 1, 0), (80, .invokevirtual 53, 3, 11), (83, .aload_n 1, 1, 0), (84, .iload_n 2, 1, 0), (85, .invokevirtual 53, 3, 11), (88, .if_icmp .eq 5, 3, 0), (91, .iconst 0, 1, 0), (92, .ireturn, 1, 0), (93, .aload_n 0, 1, 0), (94, .iload_n 2, 1, 0), (95, .invokevirtual 56, 3, 12), (98, .aload_n 1, 1, 0), (99, .iload_n 2, 1, 0), (100, .invokevirtual 56, 3, 12), (103, .if_icmp .ne 16, 3, 0), (106, .aload_n 0, 1, 0), (107, .iload_n 2, 1, 0), (108, .invokevirtual 59, 3, 13), (111, .aload_n 1, 1, 0), (112, .iload_n 2, 1, 0), (113, .invokevirtual 59, 3, 13), (116, .if_icmp .eq 5, 3, 0), (119, .iconst 0, 1, 0), (120, .ireturn, 1, 0), (121, .aload_n 0, 1, 0), (122, .iload_n 2, 1, 0), (123, .invokevirtual 62, 3, 14), (126, .aload_n 1, 1, 0), (127, .iload_n 2, 1, 0), (128, .invokevirtual 62, 3, 14), (131, .if_icmp .ne 16, 3, 0), (134, .aload_n 0, 1, 0), (135, .iload_n 2, 1, 0), (136, .invokevirtual 65, 3, 15), (139, .aload_n 1, 1, 0), (140, .iload_n 2, 1, 0), (141, .invokevirtual 65, 3, 15), (144, .if_icmp .eq 5, 3, 0), (147, .iconst 0, 1, 0), (148, .ireturn, 1, 0), (149, .iinc 2 1, 3, 0), (152, .goto (-121), 3, 0), (155, .iconst 1, 1, 0), (156, .ireturn, 1, 0)]
def lrows : List (List Row) := [lr0, [], [], lr3]
def linfo : List MInfo := [(1, 12, 9, some .boolean, { frames := 8, cells := 72, slots := 8896, locals := 176 }), (0, 0, 9, none, {}), (0, 0, 9, none, {}), (2, 3, 0, some .boolean, { frames := 2, cells := 0, slots := 0, locals := 30 })]
def lw : LW := (fun j pc => (lrows.getD j []).lookup pc, fun j => linfo.getD j (0, 0, 9, none, {}))
section LPc
variable {L : List Slot} {S : List Value} {k n : Nat} {H : AH} {Q : Option Value → AH → Prop}
theorem c100 {x0 : Nat} : Cl (pj lw) 100 [.ref x0] H Q ↔ W (pj lw) 100 0 [.val (.ref x0), .unset, .unset, .unset, .unset, .unset, .unset, .unset, .unset, .unset, .unset, .unset] [] 0 0 H Q := cl_unf rfl
theorem w100_0 : W (pj lw) 100 0 L S k n H Q ↔ ((k + 1 ≤ 72 ∧ n + 24 ≤ 8896) ∧ W (pj lw) 100 3 L (.ref H.1 :: S) (k + 1) (n + 24) (mkO (pj lw) H) Q) := W_new' (rfl : (pj lw).1 100 0 = some (.new 7, 3, 24)) (by decide)
theorem w100_3 {x : Nat} : W (pj lw) 100 3 L (.ref x :: S) k n H Q ↔ W (pj lw) 100 4 L (.ref x :: .ref x :: S) k n H Q := W_s (rfl : (pj lw).1 100 3 = some (.dup, 1, 0)) rfl rfl rfl
theorem w100_4 : W (pj lw) 100 4 L S k n H Q ↔ W (pj lw) 100 6 L (.int 8 :: S) k n H Q := W_s (rfl : (pj lw).1 100 4 = some (.bipush 8, 2, 0)) rfl rfl rfl
theorem w100_6 : W (pj lw) 100 6 L S k n H Q ↔ W (pj lw) 100 7 L (.int 2 :: S) k n H Q := W_s (rfl : (pj lw).1 100 6 = some (.iconst 2, 1, 0)) rfl rfl rfl
theorem w100_7 : W (pj lw) 100 7 L S k n H Q ↔ W (pj lw) 100 8 L (.int 3 :: S) k n H Q := W_s (rfl : (pj lw).1 100 7 = some (.iconst 3, 1, 0)) rfl rfl rfl
theorem w100_8 : W (pj lw) 100 8 L S k n H Q ↔ W (pj lw) 100 9 L (.int 4 :: S) k n H Q := W_s (rfl : (pj lw).1 100 8 = some (.iconst 4, 1, 0)) rfl rfl rfl
theorem w100_9 {a : Nat} {x0 : Int32} {x1 : Int32} {x2 : Int32} {x3 : Int32} : W (pj lw) 100 9 L (.int x3 :: .int x2 :: .int x1 :: .int x0 :: .ref a :: S) k n H Q ↔ ((isO H a = true ∧ cs S + (6 + 11) + 16 ≤ 176 ∧ k + 14 ≤ 72 ∧ n + 2176 ≤ 8896) ∧ Cl (pj lw) 1 [.ref a, .int x0, .int x1, .int x2, .int x3] H (fun v H => W (pj lw) 100 12 L (v.toList ++ S) (k + 14) (n + 2176) H Q)) := W_init (as := [.int x0, .int x1, .int x2, .int x3]) (rfl : (pj lw).1 100 9 = some (.invokespecial 9, 3, 1)) rfl rfl rfl (Nat.le_of_ble_eq_true rfl) (Nat.le_of_ble_eq_true rfl) (fun h => absurd (show (14 : Nat) = 0 from h.1) (by decide))
theorem w100_12 {x : Nat} {l0 : Slot} : W (pj lw) 100 12 (l0 :: .unset :: L) (.ref x :: S) k n H Q ↔ W (pj lw) 100 13 (l0 :: .val (.ref x) :: L) S k n H Q := W_astn (rfl : (pj lw).1 100 12 = some (.astore_n 1, 1, 0)) rfl rfl
theorem w100_13 : W (pj lw) 100 13 L S k n H Q ↔ ((k + 1 ≤ 72 ∧ n + 24 ≤ 8896) ∧ W (pj lw) 100 16 L (.ref H.1 :: S) (k + 1) (n + 24) (mkO (pj lw) H) Q) := W_new' (rfl : (pj lw).1 100 13 = some (.new 7, 3, 24)) (by decide)
theorem w100_16 {x : Nat} : W (pj lw) 100 16 L (.ref x :: S) k n H Q ↔ W (pj lw) 100 17 L (.ref x :: .ref x :: S) k n H Q := W_s (rfl : (pj lw).1 100 16 = some (.dup, 1, 0)) rfl rfl rfl
theorem w100_17 : W (pj lw) 100 17 L S k n H Q ↔ W (pj lw) 100 19 L (.int 8 :: S) k n H Q := W_s (rfl : (pj lw).1 100 17 = some (.bipush 8, 2, 0)) rfl rfl rfl
theorem w100_19 : W (pj lw) 100 19 L S k n H Q ↔ W (pj lw) 100 20 L (.int 2 :: S) k n H Q := W_s (rfl : (pj lw).1 100 19 = some (.iconst 2, 1, 0)) rfl rfl rfl
theorem w100_20 : W (pj lw) 100 20 L S k n H Q ↔ W (pj lw) 100 21 L (.int 3 :: S) k n H Q := W_s (rfl : (pj lw).1 100 20 = some (.iconst 3, 1, 0)) rfl rfl rfl
theorem w100_21 : W (pj lw) 100 21 L S k n H Q ↔ W (pj lw) 100 22 L (.int 4 :: S) k n H Q := W_s (rfl : (pj lw).1 100 21 = some (.iconst 4, 1, 0)) rfl rfl rfl
theorem w100_22 {a : Nat} {x0 : Int32} {x1 : Int32} {x2 : Int32} {x3 : Int32} : W (pj lw) 100 22 L (.int x3 :: .int x2 :: .int x1 :: .int x0 :: .ref a :: S) k n H Q ↔ ((isO H a = true ∧ cs S + (6 + 11) + 16 ≤ 176 ∧ k + 14 ≤ 72 ∧ n + 2176 ≤ 8896) ∧ Cl (pj lw) 1 [.ref a, .int x0, .int x1, .int x2, .int x3] H (fun v H => W (pj lw) 100 25 L (v.toList ++ S) (k + 14) (n + 2176) H Q)) := W_init (as := [.int x0, .int x1, .int x2, .int x3]) (rfl : (pj lw).1 100 22 = some (.invokespecial 9, 3, 1)) rfl rfl rfl (Nat.le_of_ble_eq_true rfl) (Nat.le_of_ble_eq_true rfl) (fun h => absurd (show (14 : Nat) = 0 from h.1) (by decide))
theorem w100_25 {x : Nat} {l0 l1 : Slot} : W (pj lw) 100 25 (l0 :: l1 :: .unset :: L) (.ref x :: S) k n H Q ↔ W (pj lw) 100 26 (l0 :: l1 :: .val (.ref x) :: L) S k n H Q := W_astn (rfl : (pj lw).1 100 25 = some (.astore_n 2, 1, 0)) rfl rfl
theorem w100_26 : W (pj lw) 100 26 L S k n H Q ↔ W (pj lw) 100 27 L (.int 0 :: S) k n H Q := W_s (rfl : (pj lw).1 100 26 = some (.iconst 0, 1, 0)) rfl rfl rfl
theorem w100_27 {x : Int32} {l0 l1 l2 : Slot} : W (pj lw) 100 27 (l0 :: l1 :: l2 :: .unset :: L) (.int x :: S) k n H Q ↔ W (pj lw) 100 28 (l0 :: l1 :: l2 :: .val (.int x) :: L) S k n H Q := W_istn (rfl : (pj lw).1 100 27 = some (.istore_n 3, 1, 0)) rfl rfl
theorem w100_28 {x : Int32} {l0 l1 l2 : Slot} : W (pj lw) 100 28 (l0 :: l1 :: l2 :: .val (.int x) :: L) S k n H Q ↔ W (pj lw) 100 29 (l0 :: l1 :: l2 :: .val (.int x) :: L) (.int x :: S) k n H Q := W_s (rfl : (pj lw).1 100 28 = some (.iload_n 3, 1, 0)) rfl rfl rfl
theorem w100_29 : W (pj lw) 100 29 L S k n H Q ↔ W (pj lw) 100 30 L (.int 3 :: S) k n H Q := W_s (rfl : (pj lw).1 100 29 = some (.iconst 3, 1, 0)) rfl rfl rfl
theorem w100_30 {x y : Int32} : W (pj lw) 100 30 L (.int y :: .int x :: S) k n H Q ↔ W (pj lw) 100 31 L (.int (x + y) :: S) k n H Q := W_s (rfl : (pj lw).1 100 30 = some (.iadd, 1, 0)) rfl rfl rfl
theorem w100_31 {x : Nat} : W (pj lw) 100 31 (.val (.ref x) :: L) S k n H Q ↔ W (pj lw) 100 32 (.val (.ref x) :: L) (.ref x :: S) k n H Q := W_s (rfl : (pj lw).1 100 31 = some (.aload_n 0, 1, 0)) rfl rfl rfl
theorem w100_32 {a : Nat} : W (pj lw) 100 32 L (.ref a :: S) k n H Q ↔ (isA H a = true ∧ W (pj lw) 100 33 L (.int (alen H a).toInt32 :: S) k n H Q) := W_alen (rfl : (pj lw).1 100 32 = some (.arraylength, 1, 0))
theorem w100_33 {x y : Int32} : W (pj lw) 100 33 L (.int y :: .int x :: S) k n H Q ↔ (if x < y then W (pj lw) 100 36 L S k n H Q else W (pj lw) 100 319 L S k n H Q) := W_icmp_ge (rfl : (pj lw).1 100 33 = some (.if_icmp .ge 286, 3, 0)) rfl
theorem w100_36 {x : Nat} : W (pj lw) 100 36 (.val (.ref x) :: L) S k n H Q ↔ W (pj lw) 100 37 (.val (.ref x) :: L) (.ref x :: S) k n H Q := W_s (rfl : (pj lw).1 100 36 = some (.aload_n 0, 1, 0)) rfl rfl rfl
theorem w100_37 {x : Int32} {l0 l1 l2 : Slot} : W (pj lw) 100 37 (l0 :: l1 :: l2 :: .val (.int x) :: L) S k n H Q ↔ W (pj lw) 100 38 (l0 :: l1 :: l2 :: .val (.int x) :: L) (.int x :: S) k n H Q := W_s (rfl : (pj lw).1 100 37 = some (.iload_n 3, 1, 0)) rfl rfl rfl
theorem w100_38 {i : Int32} {a : Nat} : W (pj lw) 100 38 L (.int i :: .ref a :: S) k n H Q ↔ (inA H a .int i = true ∧ W (pj lw) 100 39 L (elt H a i :: S) k n H Q) := W_iaload (rfl : (pj lw).1 100 38 = some (.iaload, 1, 0))
theorem w100_39 : W (pj lw) 100 39 L S k n H Q ↔ W (pj lw) 100 41 L (.int 7 :: S) k n H Q := W_s (rfl : (pj lw).1 100 39 = some (.bipush 7, 2, 0)) rfl rfl rfl
theorem w100_41 {x y : Int32} : W (pj lw) 100 41 L (.int y :: .int x :: S) k n H Q ↔ W (pj lw) 100 42 L (.int (x &&& y) :: S) k n H Q := W_s (rfl : (pj lw).1 100 41 = some (.iand, 1, 0)) rfl rfl rfl
theorem w100_42i {y : Int32} {x : Int32} {l0 l1 l2 l3 : Slot} : W (pj lw) 100 42 (l0 :: l1 :: l2 :: l3 :: .val (.int y) :: L) (.int x :: S) k n H Q ↔ W (pj lw) 100 44 (l0 :: l1 :: l2 :: l3 :: .val (.int x) :: L) S k n H Q := W_ist (rfl : (pj lw).1 100 42 = some (.istore 4, 2, 0)) rfl rfl
theorem w100_42 {x : Int32} {l0 l1 l2 l3 : Slot} : W (pj lw) 100 42 (l0 :: l1 :: l2 :: l3 :: .unset :: L) (.int x :: S) k n H Q ↔ W (pj lw) 100 44 (l0 :: l1 :: l2 :: l3 :: .val (.int x) :: L) S k n H Q := W_ist (rfl : (pj lw).1 100 42 = some (.istore 4, 2, 0)) rfl rfl
theorem w100_44 {x : Nat} : W (pj lw) 100 44 (.val (.ref x) :: L) S k n H Q ↔ W (pj lw) 100 45 (.val (.ref x) :: L) (.ref x :: S) k n H Q := W_s (rfl : (pj lw).1 100 44 = some (.aload_n 0, 1, 0)) rfl rfl rfl
theorem w100_45 {x : Int32} {l0 l1 l2 : Slot} : W (pj lw) 100 45 (l0 :: l1 :: l2 :: .val (.int x) :: L) S k n H Q ↔ W (pj lw) 100 46 (l0 :: l1 :: l2 :: .val (.int x) :: L) (.int x :: S) k n H Q := W_s (rfl : (pj lw).1 100 45 = some (.iload_n 3, 1, 0)) rfl rfl rfl
theorem w100_46 : W (pj lw) 100 46 L S k n H Q ↔ W (pj lw) 100 47 L (.int 1 :: S) k n H Q := W_s (rfl : (pj lw).1 100 46 = some (.iconst 1, 1, 0)) rfl rfl rfl
theorem w100_47 {x y : Int32} : W (pj lw) 100 47 L (.int y :: .int x :: S) k n H Q ↔ W (pj lw) 100 48 L (.int (x + y) :: S) k n H Q := W_s (rfl : (pj lw).1 100 47 = some (.iadd, 1, 0)) rfl rfl rfl
theorem w100_48 {i : Int32} {a : Nat} : W (pj lw) 100 48 L (.int i :: .ref a :: S) k n H Q ↔ (inA H a .int i = true ∧ W (pj lw) 100 49 L (elt H a i :: S) k n H Q) := W_iaload (rfl : (pj lw).1 100 48 = some (.iaload, 1, 0))
theorem w100_49i {y : Int32} {x : Int32} {l0 l1 l2 l3 l4 : Slot} : W (pj lw) 100 49 (l0 :: l1 :: l2 :: l3 :: l4 :: .val (.int y) :: L) (.int x :: S) k n H Q ↔ W (pj lw) 100 51 (l0 :: l1 :: l2 :: l3 :: l4 :: .val (.int x) :: L) S k n H Q := W_ist (rfl : (pj lw).1 100 49 = some (.istore 5, 2, 0)) rfl rfl
theorem w100_49 {x : Int32} {l0 l1 l2 l3 l4 : Slot} : W (pj lw) 100 49 (l0 :: l1 :: l2 :: l3 :: l4 :: .unset :: L) (.int x :: S) k n H Q ↔ W (pj lw) 100 51 (l0 :: l1 :: l2 :: l3 :: l4 :: .val (.int x) :: L) S k n H Q := W_ist (rfl : (pj lw).1 100 49 = some (.istore 5, 2, 0)) rfl rfl
theorem w100_51 {x : Nat} : W (pj lw) 100 51 (.val (.ref x) :: L) S k n H Q ↔ W (pj lw) 100 52 (.val (.ref x) :: L) (.ref x :: S) k n H Q := W_s (rfl : (pj lw).1 100 51 = some (.aload_n 0, 1, 0)) rfl rfl rfl
theorem w100_52 {x : Int32} {l0 l1 l2 : Slot} : W (pj lw) 100 52 (l0 :: l1 :: l2 :: .val (.int x) :: L) S k n H Q ↔ W (pj lw) 100 53 (l0 :: l1 :: l2 :: .val (.int x) :: L) (.int x :: S) k n H Q := W_s (rfl : (pj lw).1 100 52 = some (.iload_n 3, 1, 0)) rfl rfl rfl
theorem w100_53 : W (pj lw) 100 53 L S k n H Q ↔ W (pj lw) 100 54 L (.int 2 :: S) k n H Q := W_s (rfl : (pj lw).1 100 53 = some (.iconst 2, 1, 0)) rfl rfl rfl
theorem w100_54 {x y : Int32} : W (pj lw) 100 54 L (.int y :: .int x :: S) k n H Q ↔ W (pj lw) 100 55 L (.int (x + y) :: S) k n H Q := W_s (rfl : (pj lw).1 100 54 = some (.iadd, 1, 0)) rfl rfl rfl
theorem w100_55 {i : Int32} {a : Nat} : W (pj lw) 100 55 L (.int i :: .ref a :: S) k n H Q ↔ (inA H a .int i = true ∧ W (pj lw) 100 56 L (elt H a i :: S) k n H Q) := W_iaload (rfl : (pj lw).1 100 55 = some (.iaload, 1, 0))
theorem w100_56i {y : Int32} {x : Int32} {l0 l1 l2 l3 l4 l5 : Slot} : W (pj lw) 100 56 (l0 :: l1 :: l2 :: l3 :: l4 :: l5 :: .val (.int y) :: L) (.int x :: S) k n H Q ↔ W (pj lw) 100 58 (l0 :: l1 :: l2 :: l3 :: l4 :: l5 :: .val (.int x) :: L) S k n H Q := W_ist (rfl : (pj lw).1 100 56 = some (.istore 6, 2, 0)) rfl rfl
theorem w100_56 {x : Int32} {l0 l1 l2 l3 l4 l5 : Slot} : W (pj lw) 100 56 (l0 :: l1 :: l2 :: l3 :: l4 :: l5 :: .unset :: L) (.int x :: S) k n H Q ↔ W (pj lw) 100 58 (l0 :: l1 :: l2 :: l3 :: l4 :: l5 :: .val (.int x) :: L) S k n H Q := W_ist (rfl : (pj lw).1 100 56 = some (.istore 6, 2, 0)) rfl rfl
theorem w100_58 {x : Nat} : W (pj lw) 100 58 (.val (.ref x) :: L) S k n H Q ↔ W (pj lw) 100 59 (.val (.ref x) :: L) (.ref x :: S) k n H Q := W_s (rfl : (pj lw).1 100 58 = some (.aload_n 0, 1, 0)) rfl rfl rfl
theorem w100_59 {x : Int32} {l0 l1 l2 : Slot} : W (pj lw) 100 59 (l0 :: l1 :: l2 :: .val (.int x) :: L) S k n H Q ↔ W (pj lw) 100 60 (l0 :: l1 :: l2 :: .val (.int x) :: L) (.int x :: S) k n H Q := W_s (rfl : (pj lw).1 100 59 = some (.iload_n 3, 1, 0)) rfl rfl rfl
theorem w100_60 : W (pj lw) 100 60 L S k n H Q ↔ W (pj lw) 100 61 L (.int 3 :: S) k n H Q := W_s (rfl : (pj lw).1 100 60 = some (.iconst 3, 1, 0)) rfl rfl rfl
theorem w100_61 {x y : Int32} : W (pj lw) 100 61 L (.int y :: .int x :: S) k n H Q ↔ W (pj lw) 100 62 L (.int (x + y) :: S) k n H Q := W_s (rfl : (pj lw).1 100 61 = some (.iadd, 1, 0)) rfl rfl rfl
theorem w100_62 {i : Int32} {a : Nat} : W (pj lw) 100 62 L (.int i :: .ref a :: S) k n H Q ↔ (inA H a .int i = true ∧ W (pj lw) 100 63 L (elt H a i :: S) k n H Q) := W_iaload (rfl : (pj lw).1 100 62 = some (.iaload, 1, 0))
theorem w100_63i {y : Int32} {x : Int32} {l0 l1 l2 l3 l4 l5 l6 : Slot} : W (pj lw) 100 63 (l0 :: l1 :: l2 :: l3 :: l4 :: l5 :: l6 :: .val (.int y) :: L) (.int x :: S) k n H Q ↔ W (pj lw) 100 65 (l0 :: l1 :: l2 :: l3 :: l4 :: l5 :: l6 :: .val (.int x) :: L) S k n H Q := W_ist (rfl : (pj lw).1 100 63 = some (.istore 7, 2, 0)) rfl rfl
theorem w100_63 {x : Int32} {l0 l1 l2 l3 l4 l5 l6 : Slot} : W (pj lw) 100 63 (l0 :: l1 :: l2 :: l3 :: l4 :: l5 :: l6 :: .unset :: L) (.int x :: S) k n H Q ↔ W (pj lw) 100 65 (l0 :: l1 :: l2 :: l3 :: l4 :: l5 :: l6 :: .val (.int x) :: L) S k n H Q := W_ist (rfl : (pj lw).1 100 63 = some (.istore 7, 2, 0)) rfl rfl
theorem w100_65 {x : Int32} {l0 l1 l2 l3 : Slot} : W (pj lw) 100 65 (l0 :: l1 :: l2 :: l3 :: .val (.int x) :: L) S k n H Q ↔ W (pj lw) 100 67 (l0 :: l1 :: l2 :: l3 :: .val (.int x) :: L) (.int x :: S) k n H Q := W_s (rfl : (pj lw).1 100 65 = some (.iload 4, 2, 0)) rfl rfl rfl
theorem w100_67 {x : Int32} : W (pj lw) 100 67 L (.int x :: S) k n H Q ↔ (if x = 0 then W (pj lw) 100 70 L S k n H Q else W (pj lw) 100 85 L S k n H Q) := W_if_ne (rfl : (pj lw).1 100 67 = some (.ifCond .ne 18, 3, 0)) rfl
theorem w100_70 {x : Nat} {l0 : Slot} : W (pj lw) 100 70 (l0 :: .val (.ref x) :: L) S k n H Q ↔ W (pj lw) 100 71 (l0 :: .val (.ref x) :: L) (.ref x :: S) k n H Q := W_s (rfl : (pj lw).1 100 70 = some (.aload_n 1, 1, 0)) rfl rfl rfl
theorem w100_71 {x : Int32} {l0 l1 l2 l3 l4 : Slot} : W (pj lw) 100 71 (l0 :: l1 :: l2 :: l3 :: l4 :: .val (.int x) :: L) S k n H Q ↔ W (pj lw) 100 73 (l0 :: l1 :: l2 :: l3 :: l4 :: .val (.int x) :: L) (.int x :: S) k n H Q := W_s (rfl : (pj lw).1 100 71 = some (.iload 5, 2, 0)) rfl rfl rfl
theorem w100_73 {a : Nat} {x0 : Int32} : W (pj lw) 100 73 L (.int x0 :: .ref a :: S) k n H Q ↔ ((isO H a = true ∧ cs S + (2 + 11) + 0 ≤ 176) ∧ Cl (pj lw) 2 [.ref a, .int x0] H (fun v H => W (pj lw) 100 76 L (v.toList ++ S) k n H Q)) := W_inst (as := [.int x0]) (rfl : (pj lw).1 100 73 = some (.invokevirtual 12, 3, 2)) rfl rfl rfl (Nat.le_of_ble_eq_true rfl) (Nat.le_of_ble_eq_true rfl) ⟨rfl, rfl⟩
theorem w100_76 {x : Nat} {l0 l1 : Slot} : W (pj lw) 100 76 (l0 :: l1 :: .val (.ref x) :: L) S k n H Q ↔ W (pj lw) 100 77 (l0 :: l1 :: .val (.ref x) :: L) (.ref x :: S) k n H Q := W_s (rfl : (pj lw).1 100 76 = some (.aload_n 2, 1, 0)) rfl rfl rfl
theorem w100_77 {x : Int32} {l0 l1 l2 l3 l4 : Slot} : W (pj lw) 100 77 (l0 :: l1 :: l2 :: l3 :: l4 :: .val (.int x) :: L) S k n H Q ↔ W (pj lw) 100 79 (l0 :: l1 :: l2 :: l3 :: l4 :: .val (.int x) :: L) (.int x :: S) k n H Q := W_s (rfl : (pj lw).1 100 77 = some (.iload 5, 2, 0)) rfl rfl rfl
theorem w100_79 {a : Nat} {x0 : Int32} : W (pj lw) 100 79 L (.int x0 :: .ref a :: S) k n H Q ↔ ((isO H a = true ∧ cs S + (2 + 11) + 0 ≤ 176) ∧ Cl (pj lw) 2 [.ref a, .int x0] H (fun v H => W (pj lw) 100 82 L (v.toList ++ S) k n H Q)) := W_inst (as := [.int x0]) (rfl : (pj lw).1 100 79 = some (.invokevirtual 12, 3, 2)) rfl rfl rfl (Nat.le_of_ble_eq_true rfl) (Nat.le_of_ble_eq_true rfl) ⟨rfl, rfl⟩
theorem w100_82 : W (pj lw) 100 82 L S k n H Q ↔ W (pj lw) 100 303 L S k n H Q := W_goto (rfl : (pj lw).1 100 82 = some (.goto 221, 3, 0)) rfl
theorem w100_85 {x : Int32} {l0 l1 l2 l3 : Slot} : W (pj lw) 100 85 (l0 :: l1 :: l2 :: l3 :: .val (.int x) :: L) S k n H Q ↔ W (pj lw) 100 87 (l0 :: l1 :: l2 :: l3 :: .val (.int x) :: L) (.int x :: S) k n H Q := W_s (rfl : (pj lw).1 100 85 = some (.iload 4, 2, 0)) rfl rfl rfl
theorem w100_87 : W (pj lw) 100 87 L S k n H Q ↔ W (pj lw) 100 88 L (.int 1 :: S) k n H Q := W_s (rfl : (pj lw).1 100 87 = some (.iconst 1, 1, 0)) rfl rfl rfl
theorem w100_88 {x y : Int32} : W (pj lw) 100 88 L (.int y :: .int x :: S) k n H Q ↔ (if x = y then W (pj lw) 100 91 L S k n H Q else W (pj lw) 100 120 L S k n H Q) := W_icmp_ne (rfl : (pj lw).1 100 88 = some (.if_icmp .ne 32, 3, 0)) rfl
theorem w100_91 {x : Int32} {l0 l1 l2 l3 l4 : Slot} : W (pj lw) 100 91 (l0 :: l1 :: l2 :: l3 :: l4 :: .val (.int x) :: L) S k n H Q ↔ W (pj lw) 100 93 (l0 :: l1 :: l2 :: l3 :: l4 :: .val (.int x) :: L) (.int x :: S) k n H Q := W_s (rfl : (pj lw).1 100 91 = some (.iload 5, 2, 0)) rfl rfl rfl
theorem w100_93 : W (pj lw) 100 93 L S k n H Q ↔ W (pj lw) 100 95 L (.int 31 :: S) k n H Q := W_s (rfl : (pj lw).1 100 93 = some (.bipush 31, 2, 0)) rfl rfl rfl
theorem w100_95 {x y : Int32} : W (pj lw) 100 95 L (.int y :: .int x :: S) k n H Q ↔ W (pj lw) 100 96 L (.int (x &&& y) :: S) k n H Q := W_s (rfl : (pj lw).1 100 95 = some (.iand, 1, 0)) rfl rfl rfl
theorem w100_96 : W (pj lw) 100 96 L S k n H Q ↔ W (pj lw) 100 97 L (.int 4 :: S) k n H Q := W_s (rfl : (pj lw).1 100 96 = some (.iconst 4, 1, 0)) rfl rfl rfl
theorem w100_97 {x y : Int32} : W (pj lw) 100 97 L (.int y :: .int x :: S) k n H Q ↔ W (pj lw) 100 98 L (.int (x - y) :: S) k n H Q := W_s (rfl : (pj lw).1 100 97 = some (.isub, 1, 0)) rfl rfl rfl
theorem w100_98i {y : Int32} {x : Int32} {l0 l1 l2 l3 l4 l5 l6 l7 : Slot} : W (pj lw) 100 98 (l0 :: l1 :: l2 :: l3 :: l4 :: l5 :: l6 :: l7 :: .val (.int y) :: L) (.int x :: S) k n H Q ↔ W (pj lw) 100 100 (l0 :: l1 :: l2 :: l3 :: l4 :: l5 :: l6 :: l7 :: .val (.int x) :: L) S k n H Q := W_ist (rfl : (pj lw).1 100 98 = some (.istore 8, 2, 0)) rfl rfl
theorem w100_98 {x : Int32} {l0 l1 l2 l3 l4 l5 l6 l7 : Slot} : W (pj lw) 100 98 (l0 :: l1 :: l2 :: l3 :: l4 :: l5 :: l6 :: l7 :: .unset :: L) (.int x :: S) k n H Q ↔ W (pj lw) 100 100 (l0 :: l1 :: l2 :: l3 :: l4 :: l5 :: l6 :: l7 :: .val (.int x) :: L) S k n H Q := W_ist (rfl : (pj lw).1 100 98 = some (.istore 8, 2, 0)) rfl rfl
theorem w100_100 {x : Nat} {l0 : Slot} : W (pj lw) 100 100 (l0 :: .val (.ref x) :: L) S k n H Q ↔ W (pj lw) 100 101 (l0 :: .val (.ref x) :: L) (.ref x :: S) k n H Q := W_s (rfl : (pj lw).1 100 100 = some (.aload_n 1, 1, 0)) rfl rfl rfl
theorem w100_101 {x : Int32} {l0 l1 l2 l3 l4 l5 l6 l7 : Slot} : W (pj lw) 100 101 (l0 :: l1 :: l2 :: l3 :: l4 :: l5 :: l6 :: l7 :: .val (.int x) :: L) S k n H Q ↔ W (pj lw) 100 103 (l0 :: l1 :: l2 :: l3 :: l4 :: l5 :: l6 :: l7 :: .val (.int x) :: L) (.int x :: S) k n H Q := W_s (rfl : (pj lw).1 100 101 = some (.iload 8, 2, 0)) rfl rfl rfl
theorem w100_103 {a : Nat} {x0 : Int32} : W (pj lw) 100 103 L (.int x0 :: .ref a :: S) k n H Q ↔ ((isO H a = true ∧ cs S + (2 + 11) + 16 ≤ 176) ∧ Cl (pj lw) 3 [.ref a, .int x0] H (fun v H => W (pj lw) 100 106 L (v.toList ++ S) k n H Q)) := W_inst (as := [.int x0]) (rfl : (pj lw).1 100 103 = some (.invokevirtual 16, 3, 3)) rfl rfl rfl (Nat.le_of_ble_eq_true rfl) (Nat.le_of_ble_eq_true rfl) ⟨rfl, rfl⟩
theorem w100_106 {x : Nat} {l0 l1 : Slot} : W (pj lw) 100 106 (l0 :: l1 :: .val (.ref x) :: L) S k n H Q ↔ W (pj lw) 100 107 (l0 :: l1 :: .val (.ref x) :: L) (.ref x :: S) k n H Q := W_s (rfl : (pj lw).1 100 106 = some (.aload_n 2, 1, 0)) rfl rfl rfl
theorem w100_107 {x : Int32} {l0 l1 l2 l3 l4 l5 l6 l7 : Slot} : W (pj lw) 100 107 (l0 :: l1 :: l2 :: l3 :: l4 :: l5 :: l6 :: l7 :: .val (.int x) :: L) S k n H Q ↔ W (pj lw) 100 109 (l0 :: l1 :: l2 :: l3 :: l4 :: l5 :: l6 :: l7 :: .val (.int x) :: L) (.int x :: S) k n H Q := W_s (rfl : (pj lw).1 100 107 = some (.iload 8, 2, 0)) rfl rfl rfl
theorem w100_109 {a : Nat} {x0 : Int32} : W (pj lw) 100 109 L (.int x0 :: .ref a :: S) k n H Q ↔ ((isO H a = true ∧ cs S + (2 + 11) + 16 ≤ 176) ∧ Cl (pj lw) 3 [.ref a, .int x0] H (fun v H => W (pj lw) 100 112 L (v.toList ++ S) k n H Q)) := W_inst (as := [.int x0]) (rfl : (pj lw).1 100 109 = some (.invokevirtual 16, 3, 3)) rfl rfl rfl (Nat.le_of_ble_eq_true rfl) (Nat.le_of_ble_eq_true rfl) ⟨rfl, rfl⟩
theorem w100_112 {x y : Int32} : W (pj lw) 100 112 L (.int y :: .int x :: S) k n H Q ↔ (if x = y then W (pj lw) 100 117 L S k n H Q else W (pj lw) 100 115 L S k n H Q) := W_icmp_eq (rfl : (pj lw).1 100 112 = some (.if_icmp .eq 5, 3, 0)) rfl
theorem w100_115 : W (pj lw) 100 115 L S k n H Q ↔ W (pj lw) 100 116 L (.int 0 :: S) k n H Q := W_s (rfl : (pj lw).1 100 115 = some (.iconst 0, 1, 0)) rfl rfl rfl
theorem w100_116 {x : Int32} : W (pj lw) 100 116 L (.int x :: S) k n H Q ↔ ((x = 0 ∨ x = 1) ∧ Q (some (.int x)) H) := W_rz (rfl : (pj lw).1 100 116 = some (.ireturn, 1, 0)) rfl
theorem w100_117 : W (pj lw) 100 117 L S k n H Q ↔ W (pj lw) 100 303 L S k n H Q := W_goto (rfl : (pj lw).1 100 117 = some (.goto 186, 3, 0)) rfl
theorem w100_120 {x : Int32} {l0 l1 l2 l3 : Slot} : W (pj lw) 100 120 (l0 :: l1 :: l2 :: l3 :: .val (.int x) :: L) S k n H Q ↔ W (pj lw) 100 122 (l0 :: l1 :: l2 :: l3 :: .val (.int x) :: L) (.int x :: S) k n H Q := W_s (rfl : (pj lw).1 100 120 = some (.iload 4, 2, 0)) rfl rfl rfl
theorem w100_122 : W (pj lw) 100 122 L S k n H Q ↔ W (pj lw) 100 123 L (.int 3 :: S) k n H Q := W_s (rfl : (pj lw).1 100 122 = some (.iconst 3, 1, 0)) rfl rfl rfl
theorem w100_123 {x y : Int32} : W (pj lw) 100 123 L (.int y :: .int x :: S) k n H Q ↔ (if x = y then W (pj lw) 100 126 L S k n H Q else W (pj lw) 100 156 L S k n H Q) := W_icmp_ne (rfl : (pj lw).1 100 123 = some (.if_icmp .ne 33, 3, 0)) rfl
theorem w100_126 {x : Int32} {l0 l1 l2 l3 l4 : Slot} : W (pj lw) 100 126 (l0 :: l1 :: l2 :: l3 :: l4 :: .val (.int x) :: L) S k n H Q ↔ W (pj lw) 100 128 (l0 :: l1 :: l2 :: l3 :: l4 :: .val (.int x) :: L) (.int x :: S) k n H Q := W_s (rfl : (pj lw).1 100 126 = some (.iload 5, 2, 0)) rfl rfl rfl
theorem w100_128 : W (pj lw) 100 128 L S k n H Q ↔ W (pj lw) 100 130 L (.int 2147483647 :: S) k n H Q := W_s (rfl : (pj lw).1 100 128 = some (.ldc 20, 2, 2147483647)) rfl rfl rfl
theorem w100_130 {x y : Int32} : W (pj lw) 100 130 L (.int y :: .int x :: S) k n H Q ↔ W (pj lw) 100 131 L (.int (x &&& y) :: S) k n H Q := W_s (rfl : (pj lw).1 100 130 = some (.iand, 1, 0)) rfl rfl rfl
theorem w100_131 : W (pj lw) 100 131 L S k n H Q ↔ W (pj lw) 100 133 L (.int 9 :: S) k n H Q := W_s (rfl : (pj lw).1 100 131 = some (.bipush 9, 2, 0)) rfl rfl rfl
theorem w100_133 {x y : Int32} : W (pj lw) 100 133 L (.int y :: .int x :: S) k n H Q ↔ (¬ y = 0 ∧ W (pj lw) 100 134 L (.int (x % y) :: S) k n H Q) := W_irem (rfl : (pj lw).1 100 133 = some (.irem, 1, 0))
theorem w100_134i {y : Int32} {x : Int32} {l0 l1 l2 l3 l4 l5 l6 l7 : Slot} : W (pj lw) 100 134 (l0 :: l1 :: l2 :: l3 :: l4 :: l5 :: l6 :: l7 :: .val (.int y) :: L) (.int x :: S) k n H Q ↔ W (pj lw) 100 136 (l0 :: l1 :: l2 :: l3 :: l4 :: l5 :: l6 :: l7 :: .val (.int x) :: L) S k n H Q := W_ist (rfl : (pj lw).1 100 134 = some (.istore 8, 2, 0)) rfl rfl
theorem w100_134 {x : Int32} {l0 l1 l2 l3 l4 l5 l6 l7 : Slot} : W (pj lw) 100 134 (l0 :: l1 :: l2 :: l3 :: l4 :: l5 :: l6 :: l7 :: .unset :: L) (.int x :: S) k n H Q ↔ W (pj lw) 100 136 (l0 :: l1 :: l2 :: l3 :: l4 :: l5 :: l6 :: l7 :: .val (.int x) :: L) S k n H Q := W_ist (rfl : (pj lw).1 100 134 = some (.istore 8, 2, 0)) rfl rfl
theorem w100_136 {x : Nat} {l0 : Slot} : W (pj lw) 100 136 (l0 :: .val (.ref x) :: L) S k n H Q ↔ W (pj lw) 100 137 (l0 :: .val (.ref x) :: L) (.ref x :: S) k n H Q := W_s (rfl : (pj lw).1 100 136 = some (.aload_n 1, 1, 0)) rfl rfl rfl
theorem w100_137 {x : Int32} {l0 l1 l2 l3 l4 l5 l6 l7 : Slot} : W (pj lw) 100 137 (l0 :: l1 :: l2 :: l3 :: l4 :: l5 :: l6 :: l7 :: .val (.int x) :: L) S k n H Q ↔ W (pj lw) 100 139 (l0 :: l1 :: l2 :: l3 :: l4 :: l5 :: l6 :: l7 :: .val (.int x) :: L) (.int x :: S) k n H Q := W_s (rfl : (pj lw).1 100 137 = some (.iload 8, 2, 0)) rfl rfl rfl
theorem w100_139 {a : Nat} {x0 : Int32} : W (pj lw) 100 139 L (.int x0 :: .ref a :: S) k n H Q ↔ ((isO H a = true ∧ cs S + (2 + 11) + 13 ≤ 176) ∧ Cl (pj lw) 5 [.ref a, .int x0] H (fun v H => W (pj lw) 100 142 L (v.toList ++ S) k n H Q)) := W_inst (as := [.int x0]) (rfl : (pj lw).1 100 139 = some (.invokevirtual 21, 3, 5)) rfl rfl rfl (Nat.le_of_ble_eq_true rfl) (Nat.le_of_ble_eq_true rfl) ⟨rfl, rfl⟩
theorem w100_142 {x : Nat} {l0 l1 : Slot} : W (pj lw) 100 142 (l0 :: l1 :: .val (.ref x) :: L) S k n H Q ↔ W (pj lw) 100 143 (l0 :: l1 :: .val (.ref x) :: L) (.ref x :: S) k n H Q := W_s (rfl : (pj lw).1 100 142 = some (.aload_n 2, 1, 0)) rfl rfl rfl
theorem w100_143 {x : Int32} {l0 l1 l2 l3 l4 l5 l6 l7 : Slot} : W (pj lw) 100 143 (l0 :: l1 :: l2 :: l3 :: l4 :: l5 :: l6 :: l7 :: .val (.int x) :: L) S k n H Q ↔ W (pj lw) 100 145 (l0 :: l1 :: l2 :: l3 :: l4 :: l5 :: l6 :: l7 :: .val (.int x) :: L) (.int x :: S) k n H Q := W_s (rfl : (pj lw).1 100 143 = some (.iload 8, 2, 0)) rfl rfl rfl
theorem w100_145 {a : Nat} {x0 : Int32} : W (pj lw) 100 145 L (.int x0 :: .ref a :: S) k n H Q ↔ ((isO H a = true ∧ cs S + (2 + 11) + 13 ≤ 176) ∧ Cl (pj lw) 5 [.ref a, .int x0] H (fun v H => W (pj lw) 100 148 L (v.toList ++ S) k n H Q)) := W_inst (as := [.int x0]) (rfl : (pj lw).1 100 145 = some (.invokevirtual 21, 3, 5)) rfl rfl rfl (Nat.le_of_ble_eq_true rfl) (Nat.le_of_ble_eq_true rfl) ⟨rfl, rfl⟩
theorem w100_148 {x y : Int32} : W (pj lw) 100 148 L (.int y :: .int x :: S) k n H Q ↔ (if x = y then W (pj lw) 100 153 L S k n H Q else W (pj lw) 100 151 L S k n H Q) := W_icmp_eq (rfl : (pj lw).1 100 148 = some (.if_icmp .eq 5, 3, 0)) rfl
theorem w100_151 : W (pj lw) 100 151 L S k n H Q ↔ W (pj lw) 100 152 L (.int 0 :: S) k n H Q := W_s (rfl : (pj lw).1 100 151 = some (.iconst 0, 1, 0)) rfl rfl rfl
theorem w100_152 {x : Int32} : W (pj lw) 100 152 L (.int x :: S) k n H Q ↔ ((x = 0 ∨ x = 1) ∧ Q (some (.int x)) H) := W_rz (rfl : (pj lw).1 100 152 = some (.ireturn, 1, 0)) rfl
theorem w100_153 : W (pj lw) 100 153 L S k n H Q ↔ W (pj lw) 100 303 L S k n H Q := W_goto (rfl : (pj lw).1 100 153 = some (.goto 150, 3, 0)) rfl
theorem w100_156 {x : Int32} {l0 l1 l2 l3 : Slot} : W (pj lw) 100 156 (l0 :: l1 :: l2 :: l3 :: .val (.int x) :: L) S k n H Q ↔ W (pj lw) 100 158 (l0 :: l1 :: l2 :: l3 :: .val (.int x) :: L) (.int x :: S) k n H Q := W_s (rfl : (pj lw).1 100 156 = some (.iload 4, 2, 0)) rfl rfl rfl
theorem w100_158 : W (pj lw) 100 158 L S k n H Q ↔ W (pj lw) 100 159 L (.int 4 :: S) k n H Q := W_s (rfl : (pj lw).1 100 158 = some (.iconst 4, 1, 0)) rfl rfl rfl
theorem w100_159 {x y : Int32} : W (pj lw) 100 159 L (.int y :: .int x :: S) k n H Q ↔ (if x = y then W (pj lw) 100 162 L S k n H Q else W (pj lw) 100 192 L S k n H Q) := W_icmp_ne (rfl : (pj lw).1 100 159 = some (.if_icmp .ne 33, 3, 0)) rfl
theorem w100_162 {x : Int32} {l0 l1 l2 l3 l4 : Slot} : W (pj lw) 100 162 (l0 :: l1 :: l2 :: l3 :: l4 :: .val (.int x) :: L) S k n H Q ↔ W (pj lw) 100 164 (l0 :: l1 :: l2 :: l3 :: l4 :: .val (.int x) :: L) (.int x :: S) k n H Q := W_s (rfl : (pj lw).1 100 162 = some (.iload 5, 2, 0)) rfl rfl rfl
theorem w100_164 : W (pj lw) 100 164 L S k n H Q ↔ W (pj lw) 100 166 L (.int 2147483647 :: S) k n H Q := W_s (rfl : (pj lw).1 100 164 = some (.ldc 20, 2, 2147483647)) rfl rfl rfl
theorem w100_166 {x y : Int32} : W (pj lw) 100 166 L (.int y :: .int x :: S) k n H Q ↔ W (pj lw) 100 167 L (.int (x &&& y) :: S) k n H Q := W_s (rfl : (pj lw).1 100 166 = some (.iand, 1, 0)) rfl rfl rfl
theorem w100_167 : W (pj lw) 100 167 L S k n H Q ↔ W (pj lw) 100 169 L (.int 9 :: S) k n H Q := W_s (rfl : (pj lw).1 100 167 = some (.bipush 9, 2, 0)) rfl rfl rfl
theorem w100_169 {x y : Int32} : W (pj lw) 100 169 L (.int y :: .int x :: S) k n H Q ↔ (¬ y = 0 ∧ W (pj lw) 100 170 L (.int (x % y) :: S) k n H Q) := W_irem (rfl : (pj lw).1 100 169 = some (.irem, 1, 0))
theorem w100_170i {y : Int32} {x : Int32} {l0 l1 l2 l3 l4 l5 l6 l7 : Slot} : W (pj lw) 100 170 (l0 :: l1 :: l2 :: l3 :: l4 :: l5 :: l6 :: l7 :: .val (.int y) :: L) (.int x :: S) k n H Q ↔ W (pj lw) 100 172 (l0 :: l1 :: l2 :: l3 :: l4 :: l5 :: l6 :: l7 :: .val (.int x) :: L) S k n H Q := W_ist (rfl : (pj lw).1 100 170 = some (.istore 8, 2, 0)) rfl rfl
theorem w100_170 {x : Int32} {l0 l1 l2 l3 l4 l5 l6 l7 : Slot} : W (pj lw) 100 170 (l0 :: l1 :: l2 :: l3 :: l4 :: l5 :: l6 :: l7 :: .unset :: L) (.int x :: S) k n H Q ↔ W (pj lw) 100 172 (l0 :: l1 :: l2 :: l3 :: l4 :: l5 :: l6 :: l7 :: .val (.int x) :: L) S k n H Q := W_ist (rfl : (pj lw).1 100 170 = some (.istore 8, 2, 0)) rfl rfl
theorem w100_172 {x : Nat} {l0 : Slot} : W (pj lw) 100 172 (l0 :: .val (.ref x) :: L) S k n H Q ↔ W (pj lw) 100 173 (l0 :: .val (.ref x) :: L) (.ref x :: S) k n H Q := W_s (rfl : (pj lw).1 100 172 = some (.aload_n 1, 1, 0)) rfl rfl rfl
theorem w100_173 {x : Int32} {l0 l1 l2 l3 l4 l5 l6 l7 : Slot} : W (pj lw) 100 173 (l0 :: l1 :: l2 :: l3 :: l4 :: l5 :: l6 :: l7 :: .val (.int x) :: L) S k n H Q ↔ W (pj lw) 100 175 (l0 :: l1 :: l2 :: l3 :: l4 :: l5 :: l6 :: l7 :: .val (.int x) :: L) (.int x :: S) k n H Q := W_s (rfl : (pj lw).1 100 173 = some (.iload 8, 2, 0)) rfl rfl rfl
theorem w100_175 {a : Nat} {x0 : Int32} : W (pj lw) 100 175 L (.int x0 :: .ref a :: S) k n H Q ↔ ((isO H a = true ∧ cs S + (2 + 11) + 13 ≤ 176) ∧ Cl (pj lw) 6 [.ref a, .int x0] H (fun v H => W (pj lw) 100 178 L (v.toList ++ S) k n H Q)) := W_inst (as := [.int x0]) (rfl : (pj lw).1 100 175 = some (.invokevirtual 25, 3, 6)) rfl rfl rfl (Nat.le_of_ble_eq_true rfl) (Nat.le_of_ble_eq_true rfl) ⟨rfl, rfl⟩
theorem w100_178 {x : Nat} {l0 l1 : Slot} : W (pj lw) 100 178 (l0 :: l1 :: .val (.ref x) :: L) S k n H Q ↔ W (pj lw) 100 179 (l0 :: l1 :: .val (.ref x) :: L) (.ref x :: S) k n H Q := W_s (rfl : (pj lw).1 100 178 = some (.aload_n 2, 1, 0)) rfl rfl rfl
theorem w100_179 {x : Int32} {l0 l1 l2 l3 l4 l5 l6 l7 : Slot} : W (pj lw) 100 179 (l0 :: l1 :: l2 :: l3 :: l4 :: l5 :: l6 :: l7 :: .val (.int x) :: L) S k n H Q ↔ W (pj lw) 100 181 (l0 :: l1 :: l2 :: l3 :: l4 :: l5 :: l6 :: l7 :: .val (.int x) :: L) (.int x :: S) k n H Q := W_s (rfl : (pj lw).1 100 179 = some (.iload 8, 2, 0)) rfl rfl rfl
theorem w100_181 {a : Nat} {x0 : Int32} : W (pj lw) 100 181 L (.int x0 :: .ref a :: S) k n H Q ↔ ((isO H a = true ∧ cs S + (2 + 11) + 13 ≤ 176) ∧ Cl (pj lw) 6 [.ref a, .int x0] H (fun v H => W (pj lw) 100 184 L (v.toList ++ S) k n H Q)) := W_inst (as := [.int x0]) (rfl : (pj lw).1 100 181 = some (.invokevirtual 25, 3, 6)) rfl rfl rfl (Nat.le_of_ble_eq_true rfl) (Nat.le_of_ble_eq_true rfl) ⟨rfl, rfl⟩
theorem w100_184 {x y : Int32} : W (pj lw) 100 184 L (.int y :: .int x :: S) k n H Q ↔ (if x = y then W (pj lw) 100 189 L S k n H Q else W (pj lw) 100 187 L S k n H Q) := W_icmp_eq (rfl : (pj lw).1 100 184 = some (.if_icmp .eq 5, 3, 0)) rfl
theorem w100_187 : W (pj lw) 100 187 L S k n H Q ↔ W (pj lw) 100 188 L (.int 0 :: S) k n H Q := W_s (rfl : (pj lw).1 100 187 = some (.iconst 0, 1, 0)) rfl rfl rfl
theorem w100_188 {x : Int32} : W (pj lw) 100 188 L (.int x :: S) k n H Q ↔ ((x = 0 ∨ x = 1) ∧ Q (some (.int x)) H) := W_rz (rfl : (pj lw).1 100 188 = some (.ireturn, 1, 0)) rfl
theorem w100_189 : W (pj lw) 100 189 L S k n H Q ↔ W (pj lw) 100 303 L S k n H Q := W_goto (rfl : (pj lw).1 100 189 = some (.goto 114, 3, 0)) rfl
theorem w100_192 {x : Int32} {l0 l1 l2 l3 : Slot} : W (pj lw) 100 192 (l0 :: l1 :: l2 :: l3 :: .val (.int x) :: L) S k n H Q ↔ W (pj lw) 100 194 (l0 :: l1 :: l2 :: l3 :: .val (.int x) :: L) (.int x :: S) k n H Q := W_s (rfl : (pj lw).1 100 192 = some (.iload 4, 2, 0)) rfl rfl rfl
theorem w100_194 : W (pj lw) 100 194 L S k n H Q ↔ W (pj lw) 100 195 L (.int 5 :: S) k n H Q := W_s (rfl : (pj lw).1 100 194 = some (.iconst 5, 1, 0)) rfl rfl rfl
theorem w100_195 {x y : Int32} : W (pj lw) 100 195 L (.int y :: .int x :: S) k n H Q ↔ (if x = y then W (pj lw) 100 198 L S k n H Q else W (pj lw) 100 256 L S k n H Q) := W_icmp_ne (rfl : (pj lw).1 100 195 = some (.if_icmp .ne 61, 3, 0)) rfl
theorem w100_198 {x : Int32} {l0 l1 l2 l3 l4 : Slot} : W (pj lw) 100 198 (l0 :: l1 :: l2 :: l3 :: l4 :: .val (.int x) :: L) S k n H Q ↔ W (pj lw) 100 200 (l0 :: l1 :: l2 :: l3 :: l4 :: .val (.int x) :: L) (.int x :: S) k n H Q := W_s (rfl : (pj lw).1 100 198 = some (.iload 5, 2, 0)) rfl rfl rfl
theorem w100_200 : W (pj lw) 100 200 L S k n H Q ↔ W (pj lw) 100 202 L (.int 7 :: S) k n H Q := W_s (rfl : (pj lw).1 100 200 = some (.bipush 7, 2, 0)) rfl rfl rfl
theorem w100_202 {x y : Int32} : W (pj lw) 100 202 L (.int y :: .int x :: S) k n H Q ↔ W (pj lw) 100 203 L (.int (x &&& y) :: S) k n H Q := W_s (rfl : (pj lw).1 100 202 = some (.iand, 1, 0)) rfl rfl rfl
theorem w100_203i {y : Int32} {x : Int32} {l0 l1 l2 l3 l4 l5 l6 l7 : Slot} : W (pj lw) 100 203 (l0 :: l1 :: l2 :: l3 :: l4 :: l5 :: l6 :: l7 :: .val (.int y) :: L) (.int x :: S) k n H Q ↔ W (pj lw) 100 205 (l0 :: l1 :: l2 :: l3 :: l4 :: l5 :: l6 :: l7 :: .val (.int x) :: L) S k n H Q := W_ist (rfl : (pj lw).1 100 203 = some (.istore 8, 2, 0)) rfl rfl
theorem w100_203 {x : Int32} {l0 l1 l2 l3 l4 l5 l6 l7 : Slot} : W (pj lw) 100 203 (l0 :: l1 :: l2 :: l3 :: l4 :: l5 :: l6 :: l7 :: .unset :: L) (.int x :: S) k n H Q ↔ W (pj lw) 100 205 (l0 :: l1 :: l2 :: l3 :: l4 :: l5 :: l6 :: l7 :: .val (.int x) :: L) S k n H Q := W_ist (rfl : (pj lw).1 100 203 = some (.istore 8, 2, 0)) rfl rfl
theorem w100_205 {x : Nat} {l0 : Slot} : W (pj lw) 100 205 (l0 :: .val (.ref x) :: L) S k n H Q ↔ W (pj lw) 100 206 (l0 :: .val (.ref x) :: L) (.ref x :: S) k n H Q := W_s (rfl : (pj lw).1 100 205 = some (.aload_n 1, 1, 0)) rfl rfl rfl
theorem w100_206 {x : Int32} {l0 l1 l2 l3 l4 l5 l6 l7 : Slot} : W (pj lw) 100 206 (l0 :: l1 :: l2 :: l3 :: l4 :: l5 :: l6 :: l7 :: .val (.int x) :: L) S k n H Q ↔ W (pj lw) 100 208 (l0 :: l1 :: l2 :: l3 :: l4 :: l5 :: l6 :: l7 :: .val (.int x) :: L) (.int x :: S) k n H Q := W_s (rfl : (pj lw).1 100 206 = some (.iload 8, 2, 0)) rfl rfl rfl
theorem w100_208 {a : Nat} {x0 : Int32} : W (pj lw) 100 208 L (.int x0 :: .ref a :: S) k n H Q ↔ ((isO H a = true ∧ cs S + (4 + 11) + 55 ≤ 176) ∧ Cl (pj lw) 7 [.ref a, .int x0] H (fun v H => W (pj lw) 100 211 L (v.toList ++ S) k n H Q)) := W_inst (as := [.int x0]) (rfl : (pj lw).1 100 208 = some (.invokevirtual 28, 3, 7)) rfl rfl rfl (Nat.le_of_ble_eq_true rfl) (Nat.le_of_ble_eq_true rfl) ⟨rfl, rfl⟩
theorem w100_211i {y : Int32} {x : Int32} {l0 l1 l2 l3 l4 l5 l6 l7 l8 : Slot} : W (pj lw) 100 211 (l0 :: l1 :: l2 :: l3 :: l4 :: l5 :: l6 :: l7 :: l8 :: .val (.int y) :: L) (.int x :: S) k n H Q ↔ W (pj lw) 100 213 (l0 :: l1 :: l2 :: l3 :: l4 :: l5 :: l6 :: l7 :: l8 :: .val (.int x) :: L) S k n H Q := W_ist (rfl : (pj lw).1 100 211 = some (.istore 9, 2, 0)) rfl rfl
theorem w100_211 {x : Int32} {l0 l1 l2 l3 l4 l5 l6 l7 l8 : Slot} : W (pj lw) 100 211 (l0 :: l1 :: l2 :: l3 :: l4 :: l5 :: l6 :: l7 :: l8 :: .unset :: L) (.int x :: S) k n H Q ↔ W (pj lw) 100 213 (l0 :: l1 :: l2 :: l3 :: l4 :: l5 :: l6 :: l7 :: l8 :: .val (.int x) :: L) S k n H Q := W_ist (rfl : (pj lw).1 100 211 = some (.istore 9, 2, 0)) rfl rfl
theorem w100_213 {x : Nat} {l0 l1 : Slot} : W (pj lw) 100 213 (l0 :: l1 :: .val (.ref x) :: L) S k n H Q ↔ W (pj lw) 100 214 (l0 :: l1 :: .val (.ref x) :: L) (.ref x :: S) k n H Q := W_s (rfl : (pj lw).1 100 213 = some (.aload_n 2, 1, 0)) rfl rfl rfl
theorem w100_214 : W (pj lw) 100 214 L S k n H Q ↔ W (pj lw) 100 216 L (.int 10 :: S) k n H Q := W_s (rfl : (pj lw).1 100 214 = some (.bipush 10, 2, 0)) rfl rfl rfl
theorem w100_216 {a : Nat} {x0 : Int32} : W (pj lw) 100 216 L (.int x0 :: .ref a :: S) k n H Q ↔ ((isO H a = true ∧ cs S + (2 + 11) + 16 ≤ 176) ∧ Cl (pj lw) 16 [.ref a, .int x0] H (fun v H => W (pj lw) 100 219 L (v.toList ++ S) k n H Q)) := W_inst (as := [.int x0]) (rfl : (pj lw).1 100 216 = some (.invokevirtual 31, 3, 16)) rfl rfl rfl (Nat.le_of_ble_eq_true rfl) (Nat.le_of_ble_eq_true rfl) ⟨rfl, rfl⟩
theorem w100_219i {y : Int32} {x : Int32} {l0 l1 l2 l3 l4 l5 l6 l7 l8 l9 : Slot} : W (pj lw) 100 219 (l0 :: l1 :: l2 :: l3 :: l4 :: l5 :: l6 :: l7 :: l8 :: l9 :: .val (.int y) :: L) (.int x :: S) k n H Q ↔ W (pj lw) 100 221 (l0 :: l1 :: l2 :: l3 :: l4 :: l5 :: l6 :: l7 :: l8 :: l9 :: .val (.int x) :: L) S k n H Q := W_ist (rfl : (pj lw).1 100 219 = some (.istore 10, 2, 0)) rfl rfl
theorem w100_219 {x : Int32} {l0 l1 l2 l3 l4 l5 l6 l7 l8 l9 : Slot} : W (pj lw) 100 219 (l0 :: l1 :: l2 :: l3 :: l4 :: l5 :: l6 :: l7 :: l8 :: l9 :: .unset :: L) (.int x :: S) k n H Q ↔ W (pj lw) 100 221 (l0 :: l1 :: l2 :: l3 :: l4 :: l5 :: l6 :: l7 :: l8 :: l9 :: .val (.int x) :: L) S k n H Q := W_ist (rfl : (pj lw).1 100 219 = some (.istore 10, 2, 0)) rfl rfl
theorem w100_221 : W (pj lw) 100 221 L S k n H Q ↔ W (pj lw) 100 222 L (.int 0 :: S) k n H Q := W_s (rfl : (pj lw).1 100 221 = some (.iconst 0, 1, 0)) rfl rfl rfl
theorem w100_222i {y : Int32} {x : Int32} {l0 l1 l2 l3 l4 l5 l6 l7 l8 l9 l10 : Slot} : W (pj lw) 100 222 (l0 :: l1 :: l2 :: l3 :: l4 :: l5 :: l6 :: l7 :: l8 :: l9 :: l10 :: .val (.int y) :: L) (.int x :: S) k n H Q ↔ W (pj lw) 100 224 (l0 :: l1 :: l2 :: l3 :: l4 :: l5 :: l6 :: l7 :: l8 :: l9 :: l10 :: .val (.int x) :: L) S k n H Q := W_ist (rfl : (pj lw).1 100 222 = some (.istore 11, 2, 0)) rfl rfl
theorem w100_222 {x : Int32} {l0 l1 l2 l3 l4 l5 l6 l7 l8 l9 l10 : Slot} : W (pj lw) 100 222 (l0 :: l1 :: l2 :: l3 :: l4 :: l5 :: l6 :: l7 :: l8 :: l9 :: l10 :: .unset :: L) (.int x :: S) k n H Q ↔ W (pj lw) 100 224 (l0 :: l1 :: l2 :: l3 :: l4 :: l5 :: l6 :: l7 :: l8 :: l9 :: l10 :: .val (.int x) :: L) S k n H Q := W_ist (rfl : (pj lw).1 100 222 = some (.istore 11, 2, 0)) rfl rfl
theorem w100_224 {x : Int32} {l0 l1 l2 l3 l4 l5 l6 l7 l8 l9 l10 : Slot} : W (pj lw) 100 224 (l0 :: l1 :: l2 :: l3 :: l4 :: l5 :: l6 :: l7 :: l8 :: l9 :: l10 :: .val (.int x) :: L) S k n H Q ↔ W (pj lw) 100 226 (l0 :: l1 :: l2 :: l3 :: l4 :: l5 :: l6 :: l7 :: l8 :: l9 :: l10 :: .val (.int x) :: L) (.int x :: S) k n H Q := W_s (rfl : (pj lw).1 100 224 = some (.iload 11, 2, 0)) rfl rfl rfl
theorem w100_226 {x : Int32} {l0 l1 l2 l3 l4 l5 l6 l7 : Slot} : W (pj lw) 100 226 (l0 :: l1 :: l2 :: l3 :: l4 :: l5 :: l6 :: l7 :: .val (.int x) :: L) S k n H Q ↔ W (pj lw) 100 228 (l0 :: l1 :: l2 :: l3 :: l4 :: l5 :: l6 :: l7 :: .val (.int x) :: L) (.int x :: S) k n H Q := W_s (rfl : (pj lw).1 100 226 = some (.iload 8, 2, 0)) rfl rfl rfl
theorem w100_228 {x y : Int32} : W (pj lw) 100 228 L (.int y :: .int x :: S) k n H Q ↔ (if x < y then W (pj lw) 100 231 L S k n H Q else W (pj lw) 100 244 L S k n H Q) := W_icmp_ge (rfl : (pj lw).1 100 228 = some (.if_icmp .ge 16, 3, 0)) rfl
theorem w100_231 {x : Nat} {l0 l1 : Slot} : W (pj lw) 100 231 (l0 :: l1 :: .val (.ref x) :: L) S k n H Q ↔ W (pj lw) 100 232 (l0 :: l1 :: .val (.ref x) :: L) (.ref x :: S) k n H Q := W_s (rfl : (pj lw).1 100 231 = some (.aload_n 2, 1, 0)) rfl rfl rfl
theorem w100_232 : W (pj lw) 100 232 L S k n H Q ↔ W (pj lw) 100 233 L (.int 1 :: S) k n H Q := W_s (rfl : (pj lw).1 100 232 = some (.iconst 1, 1, 0)) rfl rfl rfl
theorem w100_233 {a : Nat} {x0 : Int32} : W (pj lw) 100 233 L (.int x0 :: .ref a :: S) k n H Q ↔ ((isO H a = true ∧ cs S + (4 + 11) + 55 ≤ 176) ∧ Cl (pj lw) 7 [.ref a, .int x0] H (fun v H => W (pj lw) 100 236 L (v.toList ++ S) k n H Q)) := W_inst (as := [.int x0]) (rfl : (pj lw).1 100 233 = some (.invokevirtual 28, 3, 7)) rfl rfl rfl (Nat.le_of_ble_eq_true rfl) (Nat.le_of_ble_eq_true rfl) ⟨rfl, rfl⟩
theorem w100_236i {y : Int32} {x : Int32} {l0 l1 l2 l3 l4 l5 l6 l7 l8 l9 : Slot} : W (pj lw) 100 236 (l0 :: l1 :: l2 :: l3 :: l4 :: l5 :: l6 :: l7 :: l8 :: l9 :: .val (.int y) :: L) (.int x :: S) k n H Q ↔ W (pj lw) 100 238 (l0 :: l1 :: l2 :: l3 :: l4 :: l5 :: l6 :: l7 :: l8 :: l9 :: .val (.int x) :: L) S k n H Q := W_ist (rfl : (pj lw).1 100 236 = some (.istore 10, 2, 0)) rfl rfl
theorem w100_238 {x : Int32} {l0 l1 l2 l3 l4 l5 l6 l7 l8 l9 l10 : Slot} : W (pj lw) 100 238 (l0 :: l1 :: l2 :: l3 :: l4 :: l5 :: l6 :: l7 :: l8 :: l9 :: l10 :: .val (.int x) :: L) S k n H Q ↔ W (pj lw) 100 241 (l0 :: l1 :: l2 :: l3 :: l4 :: l5 :: l6 :: l7 :: l8 :: l9 :: l10 :: .val (.int (x + 1)) :: L) S k n H Q := W_s (rfl : (pj lw).1 100 238 = some (.iinc 11 1, 3, 0)) rfl rfl rfl
theorem w100_241 : W (pj lw) 100 241 L S k n H Q ↔ W (pj lw) 100 224 L S k n H Q := W_goto (rfl : (pj lw).1 100 241 = some (.goto (-17), 3, 0)) rfl
theorem w100_244 {x : Int32} {l0 l1 l2 l3 l4 l5 l6 l7 l8 : Slot} : W (pj lw) 100 244 (l0 :: l1 :: l2 :: l3 :: l4 :: l5 :: l6 :: l7 :: l8 :: .val (.int x) :: L) S k n H Q ↔ W (pj lw) 100 246 (l0 :: l1 :: l2 :: l3 :: l4 :: l5 :: l6 :: l7 :: l8 :: .val (.int x) :: L) (.int x :: S) k n H Q := W_s (rfl : (pj lw).1 100 244 = some (.iload 9, 2, 0)) rfl rfl rfl
theorem w100_246 {x : Int32} {l0 l1 l2 l3 l4 l5 l6 l7 l8 l9 : Slot} : W (pj lw) 100 246 (l0 :: l1 :: l2 :: l3 :: l4 :: l5 :: l6 :: l7 :: l8 :: l9 :: .val (.int x) :: L) S k n H Q ↔ W (pj lw) 100 248 (l0 :: l1 :: l2 :: l3 :: l4 :: l5 :: l6 :: l7 :: l8 :: l9 :: .val (.int x) :: L) (.int x :: S) k n H Q := W_s (rfl : (pj lw).1 100 246 = some (.iload 10, 2, 0)) rfl rfl rfl
theorem w100_248 {x y : Int32} : W (pj lw) 100 248 L (.int y :: .int x :: S) k n H Q ↔ (if x = y then W (pj lw) 100 253 L S k n H Q else W (pj lw) 100 251 L S k n H Q) := W_icmp_eq (rfl : (pj lw).1 100 248 = some (.if_icmp .eq 5, 3, 0)) rfl
theorem w100_251 : W (pj lw) 100 251 L S k n H Q ↔ W (pj lw) 100 252 L (.int 0 :: S) k n H Q := W_s (rfl : (pj lw).1 100 251 = some (.iconst 0, 1, 0)) rfl rfl rfl
theorem w100_252 {x : Int32} : W (pj lw) 100 252 L (.int x :: S) k n H Q ↔ ((x = 0 ∨ x = 1) ∧ Q (some (.int x)) H) := W_rz (rfl : (pj lw).1 100 252 = some (.ireturn, 1, 0)) rfl
theorem w100_253 : W (pj lw) 100 253 L S k n H Q ↔ W (pj lw) 100 303 L S k n H Q := W_goto (rfl : (pj lw).1 100 253 = some (.goto 50, 3, 0)) rfl
theorem w100_256 {x : Int32} {l0 l1 l2 l3 l4 : Slot} : W (pj lw) 100 256 (l0 :: l1 :: l2 :: l3 :: l4 :: .val (.int x) :: L) S k n H Q ↔ W (pj lw) 100 258 (l0 :: l1 :: l2 :: l3 :: l4 :: .val (.int x) :: L) (.int x :: S) k n H Q := W_s (rfl : (pj lw).1 100 256 = some (.iload 5, 2, 0)) rfl rfl rfl
theorem w100_258 : W (pj lw) 100 258 L S k n H Q ↔ W (pj lw) 100 260 L (.int 7 :: S) k n H Q := W_s (rfl : (pj lw).1 100 258 = some (.bipush 7, 2, 0)) rfl rfl rfl
theorem w100_260 {x y : Int32} : W (pj lw) 100 260 L (.int y :: .int x :: S) k n H Q ↔ W (pj lw) 100 261 L (.int (x &&& y) :: S) k n H Q := W_s (rfl : (pj lw).1 100 260 = some (.iand, 1, 0)) rfl rfl rfl
theorem w100_261i {y : Int32} {x : Int32} {l0 l1 l2 l3 l4 l5 l6 l7 : Slot} : W (pj lw) 100 261 (l0 :: l1 :: l2 :: l3 :: l4 :: l5 :: l6 :: l7 :: .val (.int y) :: L) (.int x :: S) k n H Q ↔ W (pj lw) 100 263 (l0 :: l1 :: l2 :: l3 :: l4 :: l5 :: l6 :: l7 :: .val (.int x) :: L) S k n H Q := W_ist (rfl : (pj lw).1 100 261 = some (.istore 8, 2, 0)) rfl rfl
theorem w100_261 {x : Int32} {l0 l1 l2 l3 l4 l5 l6 l7 : Slot} : W (pj lw) 100 261 (l0 :: l1 :: l2 :: l3 :: l4 :: l5 :: l6 :: l7 :: .unset :: L) (.int x :: S) k n H Q ↔ W (pj lw) 100 263 (l0 :: l1 :: l2 :: l3 :: l4 :: l5 :: l6 :: l7 :: .val (.int x) :: L) S k n H Q := W_ist (rfl : (pj lw).1 100 261 = some (.istore 8, 2, 0)) rfl rfl
theorem w100_263 {x : Int32} {l0 l1 l2 l3 l4 l5 : Slot} : W (pj lw) 100 263 (l0 :: l1 :: l2 :: l3 :: l4 :: l5 :: .val (.int x) :: L) S k n H Q ↔ W (pj lw) 100 265 (l0 :: l1 :: l2 :: l3 :: l4 :: l5 :: .val (.int x) :: L) (.int x :: S) k n H Q := W_s (rfl : (pj lw).1 100 263 = some (.iload 6, 2, 0)) rfl rfl rfl
theorem w100_265 : W (pj lw) 100 265 L S k n H Q ↔ W (pj lw) 100 267 L (.int 7 :: S) k n H Q := W_s (rfl : (pj lw).1 100 265 = some (.bipush 7, 2, 0)) rfl rfl rfl
theorem w100_267 {x y : Int32} : W (pj lw) 100 267 L (.int y :: .int x :: S) k n H Q ↔ W (pj lw) 100 268 L (.int (x &&& y) :: S) k n H Q := W_s (rfl : (pj lw).1 100 267 = some (.iand, 1, 0)) rfl rfl rfl
theorem w100_268i {y : Int32} {x : Int32} {l0 l1 l2 l3 l4 l5 l6 l7 l8 : Slot} : W (pj lw) 100 268 (l0 :: l1 :: l2 :: l3 :: l4 :: l5 :: l6 :: l7 :: l8 :: .val (.int y) :: L) (.int x :: S) k n H Q ↔ W (pj lw) 100 270 (l0 :: l1 :: l2 :: l3 :: l4 :: l5 :: l6 :: l7 :: l8 :: .val (.int x) :: L) S k n H Q := W_ist (rfl : (pj lw).1 100 268 = some (.istore 9, 2, 0)) rfl rfl
theorem w100_268 {x : Int32} {l0 l1 l2 l3 l4 l5 l6 l7 l8 : Slot} : W (pj lw) 100 268 (l0 :: l1 :: l2 :: l3 :: l4 :: l5 :: l6 :: l7 :: l8 :: .unset :: L) (.int x :: S) k n H Q ↔ W (pj lw) 100 270 (l0 :: l1 :: l2 :: l3 :: l4 :: l5 :: l6 :: l7 :: l8 :: .val (.int x) :: L) S k n H Q := W_ist (rfl : (pj lw).1 100 268 = some (.istore 9, 2, 0)) rfl rfl
theorem w100_270 {x : Int32} {l0 l1 l2 l3 l4 l5 l6 : Slot} : W (pj lw) 100 270 (l0 :: l1 :: l2 :: l3 :: l4 :: l5 :: l6 :: .val (.int x) :: L) S k n H Q ↔ W (pj lw) 100 272 (l0 :: l1 :: l2 :: l3 :: l4 :: l5 :: l6 :: .val (.int x) :: L) (.int x :: S) k n H Q := W_s (rfl : (pj lw).1 100 270 = some (.iload 7, 2, 0)) rfl rfl rfl
theorem w100_272 : W (pj lw) 100 272 L S k n H Q ↔ W (pj lw) 100 275 L (.int 1023 :: S) k n H Q := W_s (rfl : (pj lw).1 100 272 = some (.sipush 1023, 3, 0)) rfl rfl rfl
theorem w100_275 {x y : Int32} : W (pj lw) 100 275 L (.int y :: .int x :: S) k n H Q ↔ W (pj lw) 100 276 L (.int (x &&& y) :: S) k n H Q := W_s (rfl : (pj lw).1 100 275 = some (.iand, 1, 0)) rfl rfl rfl
theorem w100_276i {y : Int32} {x : Int32} {l0 l1 l2 l3 l4 l5 l6 l7 l8 l9 : Slot} : W (pj lw) 100 276 (l0 :: l1 :: l2 :: l3 :: l4 :: l5 :: l6 :: l7 :: l8 :: l9 :: .val (.int y) :: L) (.int x :: S) k n H Q ↔ W (pj lw) 100 278 (l0 :: l1 :: l2 :: l3 :: l4 :: l5 :: l6 :: l7 :: l8 :: l9 :: .val (.int x) :: L) S k n H Q := W_ist (rfl : (pj lw).1 100 276 = some (.istore 10, 2, 0)) rfl rfl
theorem w100_276 {x : Int32} {l0 l1 l2 l3 l4 l5 l6 l7 l8 l9 : Slot} : W (pj lw) 100 276 (l0 :: l1 :: l2 :: l3 :: l4 :: l5 :: l6 :: l7 :: l8 :: l9 :: .unset :: L) (.int x :: S) k n H Q ↔ W (pj lw) 100 278 (l0 :: l1 :: l2 :: l3 :: l4 :: l5 :: l6 :: l7 :: l8 :: l9 :: .val (.int x) :: L) S k n H Q := W_ist (rfl : (pj lw).1 100 276 = some (.istore 10, 2, 0)) rfl rfl
theorem w100_278 {x : Nat} {l0 : Slot} : W (pj lw) 100 278 (l0 :: .val (.ref x) :: L) S k n H Q ↔ W (pj lw) 100 279 (l0 :: .val (.ref x) :: L) (.ref x :: S) k n H Q := W_s (rfl : (pj lw).1 100 278 = some (.aload_n 1, 1, 0)) rfl rfl rfl
theorem w100_279 {x : Int32} {l0 l1 l2 l3 l4 l5 l6 l7 : Slot} : W (pj lw) 100 279 (l0 :: l1 :: l2 :: l3 :: l4 :: l5 :: l6 :: l7 :: .val (.int x) :: L) S k n H Q ↔ W (pj lw) 100 281 (l0 :: l1 :: l2 :: l3 :: l4 :: l5 :: l6 :: l7 :: .val (.int x) :: L) (.int x :: S) k n H Q := W_s (rfl : (pj lw).1 100 279 = some (.iload 8, 2, 0)) rfl rfl rfl
theorem w100_281 {x : Int32} {l0 l1 l2 l3 l4 l5 l6 l7 l8 : Slot} : W (pj lw) 100 281 (l0 :: l1 :: l2 :: l3 :: l4 :: l5 :: l6 :: l7 :: l8 :: .val (.int x) :: L) S k n H Q ↔ W (pj lw) 100 283 (l0 :: l1 :: l2 :: l3 :: l4 :: l5 :: l6 :: l7 :: l8 :: .val (.int x) :: L) (.int x :: S) k n H Q := W_s (rfl : (pj lw).1 100 281 = some (.iload 9, 2, 0)) rfl rfl rfl
theorem w100_283 {x : Int32} {l0 l1 l2 l3 l4 l5 l6 l7 l8 l9 : Slot} : W (pj lw) 100 283 (l0 :: l1 :: l2 :: l3 :: l4 :: l5 :: l6 :: l7 :: l8 :: l9 :: .val (.int x) :: L) S k n H Q ↔ W (pj lw) 100 285 (l0 :: l1 :: l2 :: l3 :: l4 :: l5 :: l6 :: l7 :: l8 :: l9 :: .val (.int x) :: L) (.int x :: S) k n H Q := W_s (rfl : (pj lw).1 100 283 = some (.iload 10, 2, 0)) rfl rfl rfl
theorem w100_285 {a : Nat} {x0 : Int32} {x1 : Int32} {x2 : Int32} : W (pj lw) 100 285 L (.int x2 :: .int x1 :: .int x0 :: .ref a :: S) k n H Q ↔ ((isO H a = true ∧ cs S + (5 + 11) + 17 ≤ 176) ∧ Cl (pj lw) 4 [.ref a, .int x0, .int x1, .int x2] H (fun v H => W (pj lw) 100 288 L (v.toList ++ S) k n H Q)) := W_inst (as := [.int x0, .int x1, .int x2]) (rfl : (pj lw).1 100 285 = some (.invokevirtual 34, 3, 4)) rfl rfl rfl (Nat.le_of_ble_eq_true rfl) (Nat.le_of_ble_eq_true rfl) ⟨rfl, rfl⟩
theorem w100_288 {x : Nat} {l0 l1 : Slot} : W (pj lw) 100 288 (l0 :: l1 :: .val (.ref x) :: L) S k n H Q ↔ W (pj lw) 100 289 (l0 :: l1 :: .val (.ref x) :: L) (.ref x :: S) k n H Q := W_s (rfl : (pj lw).1 100 288 = some (.aload_n 2, 1, 0)) rfl rfl rfl
theorem w100_289 {x : Int32} {l0 l1 l2 l3 l4 l5 l6 l7 : Slot} : W (pj lw) 100 289 (l0 :: l1 :: l2 :: l3 :: l4 :: l5 :: l6 :: l7 :: .val (.int x) :: L) S k n H Q ↔ W (pj lw) 100 291 (l0 :: l1 :: l2 :: l3 :: l4 :: l5 :: l6 :: l7 :: .val (.int x) :: L) (.int x :: S) k n H Q := W_s (rfl : (pj lw).1 100 289 = some (.iload 8, 2, 0)) rfl rfl rfl
theorem w100_291 {x : Int32} {l0 l1 l2 l3 l4 l5 l6 l7 l8 : Slot} : W (pj lw) 100 291 (l0 :: l1 :: l2 :: l3 :: l4 :: l5 :: l6 :: l7 :: l8 :: .val (.int x) :: L) S k n H Q ↔ W (pj lw) 100 293 (l0 :: l1 :: l2 :: l3 :: l4 :: l5 :: l6 :: l7 :: l8 :: .val (.int x) :: L) (.int x :: S) k n H Q := W_s (rfl : (pj lw).1 100 291 = some (.iload 9, 2, 0)) rfl rfl rfl
theorem w100_293 {x : Int32} {l0 l1 l2 l3 l4 l5 l6 l7 l8 l9 : Slot} : W (pj lw) 100 293 (l0 :: l1 :: l2 :: l3 :: l4 :: l5 :: l6 :: l7 :: l8 :: l9 :: .val (.int x) :: L) S k n H Q ↔ W (pj lw) 100 295 (l0 :: l1 :: l2 :: l3 :: l4 :: l5 :: l6 :: l7 :: l8 :: l9 :: .val (.int x) :: L) (.int x :: S) k n H Q := W_s (rfl : (pj lw).1 100 293 = some (.iload 10, 2, 0)) rfl rfl rfl
theorem w100_295 {a : Nat} {x0 : Int32} {x1 : Int32} {x2 : Int32} : W (pj lw) 100 295 L (.int x2 :: .int x1 :: .int x0 :: .ref a :: S) k n H Q ↔ ((isO H a = true ∧ cs S + (5 + 11) + 17 ≤ 176) ∧ Cl (pj lw) 4 [.ref a, .int x0, .int x1, .int x2] H (fun v H => W (pj lw) 100 298 L (v.toList ++ S) k n H Q)) := W_inst (as := [.int x0, .int x1, .int x2]) (rfl : (pj lw).1 100 295 = some (.invokevirtual 34, 3, 4)) rfl rfl rfl (Nat.le_of_ble_eq_true rfl) (Nat.le_of_ble_eq_true rfl) ⟨rfl, rfl⟩
theorem w100_298 {x y : Int32} : W (pj lw) 100 298 L (.int y :: .int x :: S) k n H Q ↔ (if x = y then W (pj lw) 100 303 L S k n H Q else W (pj lw) 100 301 L S k n H Q) := W_icmp_eq (rfl : (pj lw).1 100 298 = some (.if_icmp .eq 5, 3, 0)) rfl
theorem w100_301 : W (pj lw) 100 301 L S k n H Q ↔ W (pj lw) 100 302 L (.int 0 :: S) k n H Q := W_s (rfl : (pj lw).1 100 301 = some (.iconst 0, 1, 0)) rfl rfl rfl
theorem w100_302 {x : Int32} : W (pj lw) 100 302 L (.int x :: S) k n H Q ↔ ((x = 0 ∨ x = 1) ∧ Q (some (.int x)) H) := W_rz (rfl : (pj lw).1 100 302 = some (.ireturn, 1, 0)) rfl
theorem w100_303 {x : Nat} {l0 : Slot} : W (pj lw) 100 303 (l0 :: .val (.ref x) :: L) S k n H Q ↔ W (pj lw) 100 304 (l0 :: .val (.ref x) :: L) (.ref x :: S) k n H Q := W_s (rfl : (pj lw).1 100 303 = some (.aload_n 1, 1, 0)) rfl rfl rfl
theorem w100_304 {x : Nat} {l0 l1 : Slot} : W (pj lw) 100 304 (l0 :: l1 :: .val (.ref x) :: L) S k n H Q ↔ W (pj lw) 100 305 (l0 :: l1 :: .val (.ref x) :: L) (.ref x :: S) k n H Q := W_s (rfl : (pj lw).1 100 304 = some (.aload_n 2, 1, 0)) rfl rfl rfl
theorem w100_305 {x0 : Nat} {x1 : Nat} : W (pj lw) 100 305 L (.ref x1 :: .ref x0 :: S) k n H Q ↔ (cs S + (3 + 11) + 30 ≤ 176 ∧ Cl (pj lw) 103 [.ref x0, .ref x1] H (fun v H => W (pj lw) 100 308 L (v.toList ++ S) k n H Q)) := W_stat (a := [.ref x0, .ref x1]) (rfl : (pj lw).1 100 305 = some (.invokestatic 38, 3, 103)) rfl rfl rfl (Nat.le_of_ble_eq_true rfl) (Nat.le_of_ble_eq_true rfl) ⟨rfl, rfl⟩
theorem w100_308 {x : Int32} : W (pj lw) 100 308 L (.int x :: S) k n H Q ↔ (if x = 0 then W (pj lw) 100 311 L S k n H Q else W (pj lw) 100 313 L S k n H Q) := W_if_ne (rfl : (pj lw).1 100 308 = some (.ifCond .ne 5, 3, 0)) rfl
theorem w100_311 : W (pj lw) 100 311 L S k n H Q ↔ W (pj lw) 100 312 L (.int 0 :: S) k n H Q := W_s (rfl : (pj lw).1 100 311 = some (.iconst 0, 1, 0)) rfl rfl rfl
theorem w100_312 {x : Int32} : W (pj lw) 100 312 L (.int x :: S) k n H Q ↔ ((x = 0 ∨ x = 1) ∧ Q (some (.int x)) H) := W_rz (rfl : (pj lw).1 100 312 = some (.ireturn, 1, 0)) rfl
theorem w100_313 {x : Int32} {l0 l1 l2 : Slot} : W (pj lw) 100 313 (l0 :: l1 :: l2 :: .val (.int x) :: L) S k n H Q ↔ W (pj lw) 100 316 (l0 :: l1 :: l2 :: .val (.int (x + 4)) :: L) S k n H Q := W_s (rfl : (pj lw).1 100 313 = some (.iinc 3 4, 3, 0)) rfl rfl rfl
theorem w100_316 : W (pj lw) 100 316 L S k n H Q ↔ W (pj lw) 100 28 L S k n H Q := W_goto (rfl : (pj lw).1 100 316 = some (.goto (-288), 3, 0)) rfl
theorem w100_319 : W (pj lw) 100 319 L S k n H Q ↔ W (pj lw) 100 320 L (.int 1 :: S) k n H Q := W_s (rfl : (pj lw).1 100 319 = some (.iconst 1, 1, 0)) rfl rfl rfl
theorem w100_320 {x : Int32} : W (pj lw) 100 320 L (.int x :: S) k n H Q ↔ ((x = 0 ∨ x = 1) ∧ Q (some (.int x)) H) := W_rz (rfl : (pj lw).1 100 320 = some (.ireturn, 1, 0)) rfl
theorem c103 {x0 : Nat} {x1 : Nat} : Cl (pj lw) 103 [.ref x0, .ref x1] H Q ↔ W (pj lw) 103 0 [.val (.ref x0), .val (.ref x1), .unset] [] 0 0 H Q := cl_unf rfl
theorem w103_0 : W (pj lw) 103 0 L S k n H Q ↔ W (pj lw) 103 1 L (.int 0 :: S) k n H Q := W_s (rfl : (pj lw).1 103 0 = some (.iconst 0, 1, 0)) rfl rfl rfl
theorem w103_1 {x : Int32} {l0 l1 : Slot} : W (pj lw) 103 1 (l0 :: l1 :: .unset :: L) (.int x :: S) k n H Q ↔ W (pj lw) 103 2 (l0 :: l1 :: .val (.int x) :: L) S k n H Q := W_istn (rfl : (pj lw).1 103 1 = some (.istore_n 2, 1, 0)) rfl rfl
theorem w103_2 {x : Int32} {l0 l1 : Slot} : W (pj lw) 103 2 (l0 :: l1 :: .val (.int x) :: L) S k n H Q ↔ W (pj lw) 103 3 (l0 :: l1 :: .val (.int x) :: L) (.int x :: S) k n H Q := W_s (rfl : (pj lw).1 103 2 = some (.iload_n 2, 1, 0)) rfl rfl rfl
theorem w103_3 : W (pj lw) 103 3 L S k n H Q ↔ W (pj lw) 103 5 L (.int 11 :: S) k n H Q := W_s (rfl : (pj lw).1 103 3 = some (.bipush 11, 2, 0)) rfl rfl rfl
theorem w103_5 {x y : Int32} : W (pj lw) 103 5 L (.int y :: .int x :: S) k n H Q ↔ (if y < x then W (pj lw) 103 29 L S k n H Q else W (pj lw) 103 8 L S k n H Q) := W_icmp_gt (rfl : (pj lw).1 103 5 = some (.if_icmp .gt 24, 3, 0)) rfl
theorem w103_8 {x : Nat} : W (pj lw) 103 8 (.val (.ref x) :: L) S k n H Q ↔ W (pj lw) 103 9 (.val (.ref x) :: L) (.ref x :: S) k n H Q := W_s (rfl : (pj lw).1 103 8 = some (.aload_n 0, 1, 0)) rfl rfl rfl
theorem w103_9 {x : Int32} {l0 l1 : Slot} : W (pj lw) 103 9 (l0 :: l1 :: .val (.int x) :: L) S k n H Q ↔ W (pj lw) 103 10 (l0 :: l1 :: .val (.int x) :: L) (.int x :: S) k n H Q := W_s (rfl : (pj lw).1 103 9 = some (.iload_n 2, 1, 0)) rfl rfl rfl
theorem w103_10 {a : Nat} {x0 : Int32} : W (pj lw) 103 10 L (.int x0 :: .ref a :: S) k n H Q ↔ ((isO H a = true ∧ cs S + (2 + 11) + 16 ≤ 30) ∧ Cl (pj lw) 16 [.ref a, .int x0] H (fun v H => W (pj lw) 103 13 L (v.toList ++ S) k n H Q)) := W_inst (as := [.int x0]) (rfl : (pj lw).1 103 10 = some (.invokevirtual 31, 3, 16)) rfl rfl rfl (Nat.le_of_ble_eq_true rfl) (Nat.le_of_ble_eq_true rfl) ⟨rfl, rfl⟩
theorem w103_13 {x : Nat} {l0 : Slot} : W (pj lw) 103 13 (l0 :: .val (.ref x) :: L) S k n H Q ↔ W (pj lw) 103 14 (l0 :: .val (.ref x) :: L) (.ref x :: S) k n H Q := W_s (rfl : (pj lw).1 103 13 = some (.aload_n 1, 1, 0)) rfl rfl rfl
theorem w103_14 {x : Int32} {l0 l1 : Slot} : W (pj lw) 103 14 (l0 :: l1 :: .val (.int x) :: L) S k n H Q ↔ W (pj lw) 103 15 (l0 :: l1 :: .val (.int x) :: L) (.int x :: S) k n H Q := W_s (rfl : (pj lw).1 103 14 = some (.iload_n 2, 1, 0)) rfl rfl rfl
theorem w103_15 {a : Nat} {x0 : Int32} : W (pj lw) 103 15 L (.int x0 :: .ref a :: S) k n H Q ↔ ((isO H a = true ∧ cs S + (2 + 11) + 16 ≤ 30) ∧ Cl (pj lw) 16 [.ref a, .int x0] H (fun v H => W (pj lw) 103 18 L (v.toList ++ S) k n H Q)) := W_inst (as := [.int x0]) (rfl : (pj lw).1 103 15 = some (.invokevirtual 31, 3, 16)) rfl rfl rfl (Nat.le_of_ble_eq_true rfl) (Nat.le_of_ble_eq_true rfl) ⟨rfl, rfl⟩
theorem w103_18 {x y : Int32} : W (pj lw) 103 18 L (.int y :: .int x :: S) k n H Q ↔ (if x = y then W (pj lw) 103 23 L S k n H Q else W (pj lw) 103 21 L S k n H Q) := W_icmp_eq (rfl : (pj lw).1 103 18 = some (.if_icmp .eq 5, 3, 0)) rfl
theorem w103_21 : W (pj lw) 103 21 L S k n H Q ↔ W (pj lw) 103 22 L (.int 0 :: S) k n H Q := W_s (rfl : (pj lw).1 103 21 = some (.iconst 0, 1, 0)) rfl rfl rfl
theorem w103_22 {x : Int32} : W (pj lw) 103 22 L (.int x :: S) k n H Q ↔ ((x = 0 ∨ x = 1) ∧ Q (some (.int x)) H) := W_rz (rfl : (pj lw).1 103 22 = some (.ireturn, 1, 0)) rfl
theorem w103_23 {x : Int32} {l0 l1 : Slot} : W (pj lw) 103 23 (l0 :: l1 :: .val (.int x) :: L) S k n H Q ↔ W (pj lw) 103 26 (l0 :: l1 :: .val (.int (x + 1)) :: L) S k n H Q := W_s (rfl : (pj lw).1 103 23 = some (.iinc 2 1, 3, 0)) rfl rfl rfl
theorem w103_26 : W (pj lw) 103 26 L S k n H Q ↔ W (pj lw) 103 2 L S k n H Q := W_goto (rfl : (pj lw).1 103 26 = some (.goto (-24), 3, 0)) rfl
theorem w103_29 : W (pj lw) 103 29 L S k n H Q ↔ W (pj lw) 103 30 L (.int 0 :: S) k n H Q := W_s (rfl : (pj lw).1 103 29 = some (.iconst 0, 1, 0)) rfl rfl rfl
theorem w103_30i {y : Int32} {x : Int32} {l0 l1 : Slot} : W (pj lw) 103 30 (l0 :: l1 :: .val (.int y) :: L) (.int x :: S) k n H Q ↔ W (pj lw) 103 31 (l0 :: l1 :: .val (.int x) :: L) S k n H Q := W_istn (rfl : (pj lw).1 103 30 = some (.istore_n 2, 1, 0)) rfl rfl
theorem w103_31 {x : Int32} {l0 l1 : Slot} : W (pj lw) 103 31 (l0 :: l1 :: .val (.int x) :: L) S k n H Q ↔ W (pj lw) 103 32 (l0 :: l1 :: .val (.int x) :: L) (.int x :: S) k n H Q := W_s (rfl : (pj lw).1 103 31 = some (.iload_n 2, 1, 0)) rfl rfl rfl
theorem w103_32 : W (pj lw) 103 32 L S k n H Q ↔ W (pj lw) 103 34 L (.int 8 :: S) k n H Q := W_s (rfl : (pj lw).1 103 32 = some (.bipush 8, 2, 0)) rfl rfl rfl
theorem w103_34 {x y : Int32} : W (pj lw) 103 34 L (.int y :: .int x :: S) k n H Q ↔ (if x < y then W (pj lw) 103 37 L S k n H Q else W (pj lw) 103 155 L S k n H Q) := W_icmp_ge (rfl : (pj lw).1 103 34 = some (.if_icmp .ge 121, 3, 0)) rfl
theorem w103_37 {x : Nat} : W (pj lw) 103 37 (.val (.ref x) :: L) S k n H Q ↔ W (pj lw) 103 38 (.val (.ref x) :: L) (.ref x :: S) k n H Q := W_s (rfl : (pj lw).1 103 37 = some (.aload_n 0, 1, 0)) rfl rfl rfl
theorem w103_38 {x : Int32} {l0 l1 : Slot} : W (pj lw) 103 38 (l0 :: l1 :: .val (.int x) :: L) S k n H Q ↔ W (pj lw) 103 39 (l0 :: l1 :: .val (.int x) :: L) (.int x :: S) k n H Q := W_s (rfl : (pj lw).1 103 38 = some (.iload_n 2, 1, 0)) rfl rfl rfl
theorem w103_39 {a : Nat} {x0 : Int32} : W (pj lw) 103 39 L (.int x0 :: .ref a :: S) k n H Q ↔ ((isO H a = true ∧ cs S + (2 + 11) + 13 ≤ 30) ∧ Cl (pj lw) 8 [.ref a, .int x0] H (fun v H => W (pj lw) 103 42 L (v.toList ++ S) k n H Q)) := W_inst (as := [.int x0]) (rfl : (pj lw).1 103 39 = some (.invokevirtual 44, 3, 8)) rfl rfl rfl (Nat.le_of_ble_eq_true rfl) (Nat.le_of_ble_eq_true rfl) ⟨rfl, rfl⟩
theorem w103_42 {x : Nat} {l0 : Slot} : W (pj lw) 103 42 (l0 :: .val (.ref x) :: L) S k n H Q ↔ W (pj lw) 103 43 (l0 :: .val (.ref x) :: L) (.ref x :: S) k n H Q := W_s (rfl : (pj lw).1 103 42 = some (.aload_n 1, 1, 0)) rfl rfl rfl
theorem w103_43 {x : Int32} {l0 l1 : Slot} : W (pj lw) 103 43 (l0 :: l1 :: .val (.int x) :: L) S k n H Q ↔ W (pj lw) 103 44 (l0 :: l1 :: .val (.int x) :: L) (.int x :: S) k n H Q := W_s (rfl : (pj lw).1 103 43 = some (.iload_n 2, 1, 0)) rfl rfl rfl
theorem w103_44 {a : Nat} {x0 : Int32} : W (pj lw) 103 44 L (.int x0 :: .ref a :: S) k n H Q ↔ ((isO H a = true ∧ cs S + (2 + 11) + 13 ≤ 30) ∧ Cl (pj lw) 8 [.ref a, .int x0] H (fun v H => W (pj lw) 103 47 L (v.toList ++ S) k n H Q)) := W_inst (as := [.int x0]) (rfl : (pj lw).1 103 44 = some (.invokevirtual 44, 3, 8)) rfl rfl rfl (Nat.le_of_ble_eq_true rfl) (Nat.le_of_ble_eq_true rfl) ⟨rfl, rfl⟩
theorem w103_47 {x y : Int32} : W (pj lw) 103 47 L (.int y :: .int x :: S) k n H Q ↔ (if x = y then W (pj lw) 103 50 L S k n H Q else W (pj lw) 103 63 L S k n H Q) := W_icmp_ne (rfl : (pj lw).1 103 47 = some (.if_icmp .ne 16, 3, 0)) rfl
theorem w103_50 {x : Nat} : W (pj lw) 103 50 (.val (.ref x) :: L) S k n H Q ↔ W (pj lw) 103 51 (.val (.ref x) :: L) (.ref x :: S) k n H Q := W_s (rfl : (pj lw).1 103 50 = some (.aload_n 0, 1, 0)) rfl rfl rfl
theorem w103_51 {x : Int32} {l0 l1 : Slot} : W (pj lw) 103 51 (l0 :: l1 :: .val (.int x) :: L) S k n H Q ↔ W (pj lw) 103 52 (l0 :: l1 :: .val (.int x) :: L) (.int x :: S) k n H Q := W_s (rfl : (pj lw).1 103 51 = some (.iload_n 2, 1, 0)) rfl rfl rfl
theorem w103_52 {a : Nat} {x0 : Int32} : W (pj lw) 103 52 L (.int x0 :: .ref a :: S) k n H Q ↔ ((isO H a = true ∧ cs S + (2 + 11) + 13 ≤ 30) ∧ Cl (pj lw) 9 [.ref a, .int x0] H (fun v H => W (pj lw) 103 55 L (v.toList ++ S) k n H Q)) := W_inst (as := [.int x0]) (rfl : (pj lw).1 103 52 = some (.invokevirtual 47, 3, 9)) rfl rfl rfl (Nat.le_of_ble_eq_true rfl) (Nat.le_of_ble_eq_true rfl) ⟨rfl, rfl⟩
theorem w103_55 {x : Nat} {l0 : Slot} : W (pj lw) 103 55 (l0 :: .val (.ref x) :: L) S k n H Q ↔ W (pj lw) 103 56 (l0 :: .val (.ref x) :: L) (.ref x :: S) k n H Q := W_s (rfl : (pj lw).1 103 55 = some (.aload_n 1, 1, 0)) rfl rfl rfl
theorem w103_56 {x : Int32} {l0 l1 : Slot} : W (pj lw) 103 56 (l0 :: l1 :: .val (.int x) :: L) S k n H Q ↔ W (pj lw) 103 57 (l0 :: l1 :: .val (.int x) :: L) (.int x :: S) k n H Q := W_s (rfl : (pj lw).1 103 56 = some (.iload_n 2, 1, 0)) rfl rfl rfl
theorem w103_57 {a : Nat} {x0 : Int32} : W (pj lw) 103 57 L (.int x0 :: .ref a :: S) k n H Q ↔ ((isO H a = true ∧ cs S + (2 + 11) + 13 ≤ 30) ∧ Cl (pj lw) 9 [.ref a, .int x0] H (fun v H => W (pj lw) 103 60 L (v.toList ++ S) k n H Q)) := W_inst (as := [.int x0]) (rfl : (pj lw).1 103 57 = some (.invokevirtual 47, 3, 9)) rfl rfl rfl (Nat.le_of_ble_eq_true rfl) (Nat.le_of_ble_eq_true rfl) ⟨rfl, rfl⟩
theorem w103_60 {x y : Int32} : W (pj lw) 103 60 L (.int y :: .int x :: S) k n H Q ↔ (if x = y then W (pj lw) 103 65 L S k n H Q else W (pj lw) 103 63 L S k n H Q) := W_icmp_eq (rfl : (pj lw).1 103 60 = some (.if_icmp .eq 5, 3, 0)) rfl
theorem w103_63 : W (pj lw) 103 63 L S k n H Q ↔ W (pj lw) 103 64 L (.int 0 :: S) k n H Q := W_s (rfl : (pj lw).1 103 63 = some (.iconst 0, 1, 0)) rfl rfl rfl
theorem w103_64 {x : Int32} : W (pj lw) 103 64 L (.int x :: S) k n H Q ↔ ((x = 0 ∨ x = 1) ∧ Q (some (.int x)) H) := W_rz (rfl : (pj lw).1 103 64 = some (.ireturn, 1, 0)) rfl
theorem w103_65 {x : Nat} : W (pj lw) 103 65 (.val (.ref x) :: L) S k n H Q ↔ W (pj lw) 103 66 (.val (.ref x) :: L) (.ref x :: S) k n H Q := W_s (rfl : (pj lw).1 103 65 = some (.aload_n 0, 1, 0)) rfl rfl rfl
theorem w103_66 {x : Int32} {l0 l1 : Slot} : W (pj lw) 103 66 (l0 :: l1 :: .val (.int x) :: L) S k n H Q ↔ W (pj lw) 103 67 (l0 :: l1 :: .val (.int x) :: L) (.int x :: S) k n H Q := W_s (rfl : (pj lw).1 103 66 = some (.iload_n 2, 1, 0)) rfl rfl rfl
theorem w103_67 {a : Nat} {x0 : Int32} : W (pj lw) 103 67 L (.int x0 :: .ref a :: S) k n H Q ↔ ((isO H a = true ∧ cs S + (2 + 11) + 13 ≤ 30) ∧ Cl (pj lw) 10 [.ref a, .int x0] H (fun v H => W (pj lw) 103 70 L (v.toList ++ S) k n H Q)) := W_inst (as := [.int x0]) (rfl : (pj lw).1 103 67 = some (.invokevirtual 50, 3, 10)) rfl rfl rfl (Nat.le_of_ble_eq_true rfl) (Nat.le_of_ble_eq_true rfl) ⟨rfl, rfl⟩
theorem w103_70 {x : Nat} {l0 : Slot} : W (pj lw) 103 70 (l0 :: .val (.ref x) :: L) S k n H Q ↔ W (pj lw) 103 71 (l0 :: .val (.ref x) :: L) (.ref x :: S) k n H Q := W_s (rfl : (pj lw).1 103 70 = some (.aload_n 1, 1, 0)) rfl rfl rfl
theorem w103_71 {x : Int32} {l0 l1 : Slot} : W (pj lw) 103 71 (l0 :: l1 :: .val (.int x) :: L) S k n H Q ↔ W (pj lw) 103 72 (l0 :: l1 :: .val (.int x) :: L) (.int x :: S) k n H Q := W_s (rfl : (pj lw).1 103 71 = some (.iload_n 2, 1, 0)) rfl rfl rfl
theorem w103_72 {a : Nat} {x0 : Int32} : W (pj lw) 103 72 L (.int x0 :: .ref a :: S) k n H Q ↔ ((isO H a = true ∧ cs S + (2 + 11) + 13 ≤ 30) ∧ Cl (pj lw) 10 [.ref a, .int x0] H (fun v H => W (pj lw) 103 75 L (v.toList ++ S) k n H Q)) := W_inst (as := [.int x0]) (rfl : (pj lw).1 103 72 = some (.invokevirtual 50, 3, 10)) rfl rfl rfl (Nat.le_of_ble_eq_true rfl) (Nat.le_of_ble_eq_true rfl) ⟨rfl, rfl⟩
theorem w103_75 {x y : Int32} : W (pj lw) 103 75 L (.int y :: .int x :: S) k n H Q ↔ (if x = y then W (pj lw) 103 78 L S k n H Q else W (pj lw) 103 91 L S k n H Q) := W_icmp_ne (rfl : (pj lw).1 103 75 = some (.if_icmp .ne 16, 3, 0)) rfl
theorem w103_78 {x : Nat} : W (pj lw) 103 78 (.val (.ref x) :: L) S k n H Q ↔ W (pj lw) 103 79 (.val (.ref x) :: L) (.ref x :: S) k n H Q := W_s (rfl : (pj lw).1 103 78 = some (.aload_n 0, 1, 0)) rfl rfl rfl
theorem w103_79 {x : Int32} {l0 l1 : Slot} : W (pj lw) 103 79 (l0 :: l1 :: .val (.int x) :: L) S k n H Q ↔ W (pj lw) 103 80 (l0 :: l1 :: .val (.int x) :: L) (.int x :: S) k n H Q := W_s (rfl : (pj lw).1 103 79 = some (.iload_n 2, 1, 0)) rfl rfl rfl
theorem w103_80 {a : Nat} {x0 : Int32} : W (pj lw) 103 80 L (.int x0 :: .ref a :: S) k n H Q ↔ ((isO H a = true ∧ cs S + (3 + 11) + 13 ≤ 30) ∧ Cl (pj lw) 11 [.ref a, .int x0] H (fun v H => W (pj lw) 103 83 L (v.toList ++ S) k n H Q)) := W_inst (as := [.int x0]) (rfl : (pj lw).1 103 80 = some (.invokevirtual 53, 3, 11)) rfl rfl rfl (Nat.le_of_ble_eq_true rfl) (Nat.le_of_ble_eq_true rfl) ⟨rfl, rfl⟩
theorem w103_83 {x : Nat} {l0 : Slot} : W (pj lw) 103 83 (l0 :: .val (.ref x) :: L) S k n H Q ↔ W (pj lw) 103 84 (l0 :: .val (.ref x) :: L) (.ref x :: S) k n H Q := W_s (rfl : (pj lw).1 103 83 = some (.aload_n 1, 1, 0)) rfl rfl rfl
theorem w103_84 {x : Int32} {l0 l1 : Slot} : W (pj lw) 103 84 (l0 :: l1 :: .val (.int x) :: L) S k n H Q ↔ W (pj lw) 103 85 (l0 :: l1 :: .val (.int x) :: L) (.int x :: S) k n H Q := W_s (rfl : (pj lw).1 103 84 = some (.iload_n 2, 1, 0)) rfl rfl rfl
theorem w103_85 {a : Nat} {x0 : Int32} : W (pj lw) 103 85 L (.int x0 :: .ref a :: S) k n H Q ↔ ((isO H a = true ∧ cs S + (3 + 11) + 13 ≤ 30) ∧ Cl (pj lw) 11 [.ref a, .int x0] H (fun v H => W (pj lw) 103 88 L (v.toList ++ S) k n H Q)) := W_inst (as := [.int x0]) (rfl : (pj lw).1 103 85 = some (.invokevirtual 53, 3, 11)) rfl rfl rfl (Nat.le_of_ble_eq_true rfl) (Nat.le_of_ble_eq_true rfl) ⟨rfl, rfl⟩
theorem w103_88 {x y : Int32} : W (pj lw) 103 88 L (.int y :: .int x :: S) k n H Q ↔ (if x = y then W (pj lw) 103 93 L S k n H Q else W (pj lw) 103 91 L S k n H Q) := W_icmp_eq (rfl : (pj lw).1 103 88 = some (.if_icmp .eq 5, 3, 0)) rfl
theorem w103_91 : W (pj lw) 103 91 L S k n H Q ↔ W (pj lw) 103 92 L (.int 0 :: S) k n H Q := W_s (rfl : (pj lw).1 103 91 = some (.iconst 0, 1, 0)) rfl rfl rfl
theorem w103_92 {x : Int32} : W (pj lw) 103 92 L (.int x :: S) k n H Q ↔ ((x = 0 ∨ x = 1) ∧ Q (some (.int x)) H) := W_rz (rfl : (pj lw).1 103 92 = some (.ireturn, 1, 0)) rfl
theorem w103_93 {x : Nat} : W (pj lw) 103 93 (.val (.ref x) :: L) S k n H Q ↔ W (pj lw) 103 94 (.val (.ref x) :: L) (.ref x :: S) k n H Q := W_s (rfl : (pj lw).1 103 93 = some (.aload_n 0, 1, 0)) rfl rfl rfl
theorem w103_94 {x : Int32} {l0 l1 : Slot} : W (pj lw) 103 94 (l0 :: l1 :: .val (.int x) :: L) S k n H Q ↔ W (pj lw) 103 95 (l0 :: l1 :: .val (.int x) :: L) (.int x :: S) k n H Q := W_s (rfl : (pj lw).1 103 94 = some (.iload_n 2, 1, 0)) rfl rfl rfl
theorem w103_95 {a : Nat} {x0 : Int32} : W (pj lw) 103 95 L (.int x0 :: .ref a :: S) k n H Q ↔ ((isO H a = true ∧ cs S + (2 + 11) + 13 ≤ 30) ∧ Cl (pj lw) 12 [.ref a, .int x0] H (fun v H => W (pj lw) 103 98 L (v.toList ++ S) k n H Q)) := W_inst (as := [.int x0]) (rfl : (pj lw).1 103 95 = some (.invokevirtual 56, 3, 12)) rfl rfl rfl (Nat.le_of_ble_eq_true rfl) (Nat.le_of_ble_eq_true rfl) ⟨rfl, rfl⟩
theorem w103_98 {x : Nat} {l0 : Slot} : W (pj lw) 103 98 (l0 :: .val (.ref x) :: L) S k n H Q ↔ W (pj lw) 103 99 (l0 :: .val (.ref x) :: L) (.ref x :: S) k n H Q := W_s (rfl : (pj lw).1 103 98 = some (.aload_n 1, 1, 0)) rfl rfl rfl
theorem w103_99 {x : Int32} {l0 l1 : Slot} : W (pj lw) 103 99 (l0 :: l1 :: .val (.int x) :: L) S k n H Q ↔ W (pj lw) 103 100 (l0 :: l1 :: .val (.int x) :: L) (.int x :: S) k n H Q := W_s (rfl : (pj lw).1 103 99 = some (.iload_n 2, 1, 0)) rfl rfl rfl
theorem w103_100 {a : Nat} {x0 : Int32} : W (pj lw) 103 100 L (.int x0 :: .ref a :: S) k n H Q ↔ ((isO H a = true ∧ cs S + (2 + 11) + 13 ≤ 30) ∧ Cl (pj lw) 12 [.ref a, .int x0] H (fun v H => W (pj lw) 103 103 L (v.toList ++ S) k n H Q)) := W_inst (as := [.int x0]) (rfl : (pj lw).1 103 100 = some (.invokevirtual 56, 3, 12)) rfl rfl rfl (Nat.le_of_ble_eq_true rfl) (Nat.le_of_ble_eq_true rfl) ⟨rfl, rfl⟩
theorem w103_103 {x y : Int32} : W (pj lw) 103 103 L (.int y :: .int x :: S) k n H Q ↔ (if x = y then W (pj lw) 103 106 L S k n H Q else W (pj lw) 103 119 L S k n H Q) := W_icmp_ne (rfl : (pj lw).1 103 103 = some (.if_icmp .ne 16, 3, 0)) rfl
theorem w103_106 {x : Nat} : W (pj lw) 103 106 (.val (.ref x) :: L) S k n H Q ↔ W (pj lw) 103 107 (.val (.ref x) :: L) (.ref x :: S) k n H Q := W_s (rfl : (pj lw).1 103 106 = some (.aload_n 0, 1, 0)) rfl rfl rfl
theorem w103_107 {x : Int32} {l0 l1 : Slot} : W (pj lw) 103 107 (l0 :: l1 :: .val (.int x) :: L) S k n H Q ↔ W (pj lw) 103 108 (l0 :: l1 :: .val (.int x) :: L) (.int x :: S) k n H Q := W_s (rfl : (pj lw).1 103 107 = some (.iload_n 2, 1, 0)) rfl rfl rfl
theorem w103_108 {a : Nat} {x0 : Int32} : W (pj lw) 103 108 L (.int x0 :: .ref a :: S) k n H Q ↔ ((isO H a = true ∧ cs S + (2 + 11) + 13 ≤ 30) ∧ Cl (pj lw) 13 [.ref a, .int x0] H (fun v H => W (pj lw) 103 111 L (v.toList ++ S) k n H Q)) := W_inst (as := [.int x0]) (rfl : (pj lw).1 103 108 = some (.invokevirtual 59, 3, 13)) rfl rfl rfl (Nat.le_of_ble_eq_true rfl) (Nat.le_of_ble_eq_true rfl) ⟨rfl, rfl⟩
theorem w103_111 {x : Nat} {l0 : Slot} : W (pj lw) 103 111 (l0 :: .val (.ref x) :: L) S k n H Q ↔ W (pj lw) 103 112 (l0 :: .val (.ref x) :: L) (.ref x :: S) k n H Q := W_s (rfl : (pj lw).1 103 111 = some (.aload_n 1, 1, 0)) rfl rfl rfl
theorem w103_112 {x : Int32} {l0 l1 : Slot} : W (pj lw) 103 112 (l0 :: l1 :: .val (.int x) :: L) S k n H Q ↔ W (pj lw) 103 113 (l0 :: l1 :: .val (.int x) :: L) (.int x :: S) k n H Q := W_s (rfl : (pj lw).1 103 112 = some (.iload_n 2, 1, 0)) rfl rfl rfl
theorem w103_113 {a : Nat} {x0 : Int32} : W (pj lw) 103 113 L (.int x0 :: .ref a :: S) k n H Q ↔ ((isO H a = true ∧ cs S + (2 + 11) + 13 ≤ 30) ∧ Cl (pj lw) 13 [.ref a, .int x0] H (fun v H => W (pj lw) 103 116 L (v.toList ++ S) k n H Q)) := W_inst (as := [.int x0]) (rfl : (pj lw).1 103 113 = some (.invokevirtual 59, 3, 13)) rfl rfl rfl (Nat.le_of_ble_eq_true rfl) (Nat.le_of_ble_eq_true rfl) ⟨rfl, rfl⟩
theorem w103_116 {x y : Int32} : W (pj lw) 103 116 L (.int y :: .int x :: S) k n H Q ↔ (if x = y then W (pj lw) 103 121 L S k n H Q else W (pj lw) 103 119 L S k n H Q) := W_icmp_eq (rfl : (pj lw).1 103 116 = some (.if_icmp .eq 5, 3, 0)) rfl
theorem w103_119 : W (pj lw) 103 119 L S k n H Q ↔ W (pj lw) 103 120 L (.int 0 :: S) k n H Q := W_s (rfl : (pj lw).1 103 119 = some (.iconst 0, 1, 0)) rfl rfl rfl
theorem w103_120 {x : Int32} : W (pj lw) 103 120 L (.int x :: S) k n H Q ↔ ((x = 0 ∨ x = 1) ∧ Q (some (.int x)) H) := W_rz (rfl : (pj lw).1 103 120 = some (.ireturn, 1, 0)) rfl
theorem w103_121 {x : Nat} : W (pj lw) 103 121 (.val (.ref x) :: L) S k n H Q ↔ W (pj lw) 103 122 (.val (.ref x) :: L) (.ref x :: S) k n H Q := W_s (rfl : (pj lw).1 103 121 = some (.aload_n 0, 1, 0)) rfl rfl rfl
theorem w103_122 {x : Int32} {l0 l1 : Slot} : W (pj lw) 103 122 (l0 :: l1 :: .val (.int x) :: L) S k n H Q ↔ W (pj lw) 103 123 (l0 :: l1 :: .val (.int x) :: L) (.int x :: S) k n H Q := W_s (rfl : (pj lw).1 103 122 = some (.iload_n 2, 1, 0)) rfl rfl rfl
theorem w103_123 {a : Nat} {x0 : Int32} : W (pj lw) 103 123 L (.int x0 :: .ref a :: S) k n H Q ↔ ((isO H a = true ∧ cs S + (2 + 11) + 13 ≤ 30) ∧ Cl (pj lw) 14 [.ref a, .int x0] H (fun v H => W (pj lw) 103 126 L (v.toList ++ S) k n H Q)) := W_inst (as := [.int x0]) (rfl : (pj lw).1 103 123 = some (.invokevirtual 62, 3, 14)) rfl rfl rfl (Nat.le_of_ble_eq_true rfl) (Nat.le_of_ble_eq_true rfl) ⟨rfl, rfl⟩
theorem w103_126 {x : Nat} {l0 : Slot} : W (pj lw) 103 126 (l0 :: .val (.ref x) :: L) S k n H Q ↔ W (pj lw) 103 127 (l0 :: .val (.ref x) :: L) (.ref x :: S) k n H Q := W_s (rfl : (pj lw).1 103 126 = some (.aload_n 1, 1, 0)) rfl rfl rfl
theorem w103_127 {x : Int32} {l0 l1 : Slot} : W (pj lw) 103 127 (l0 :: l1 :: .val (.int x) :: L) S k n H Q ↔ W (pj lw) 103 128 (l0 :: l1 :: .val (.int x) :: L) (.int x :: S) k n H Q := W_s (rfl : (pj lw).1 103 127 = some (.iload_n 2, 1, 0)) rfl rfl rfl
theorem w103_128 {a : Nat} {x0 : Int32} : W (pj lw) 103 128 L (.int x0 :: .ref a :: S) k n H Q ↔ ((isO H a = true ∧ cs S + (2 + 11) + 13 ≤ 30) ∧ Cl (pj lw) 14 [.ref a, .int x0] H (fun v H => W (pj lw) 103 131 L (v.toList ++ S) k n H Q)) := W_inst (as := [.int x0]) (rfl : (pj lw).1 103 128 = some (.invokevirtual 62, 3, 14)) rfl rfl rfl (Nat.le_of_ble_eq_true rfl) (Nat.le_of_ble_eq_true rfl) ⟨rfl, rfl⟩
theorem w103_131 {x y : Int32} : W (pj lw) 103 131 L (.int y :: .int x :: S) k n H Q ↔ (if x = y then W (pj lw) 103 134 L S k n H Q else W (pj lw) 103 147 L S k n H Q) := W_icmp_ne (rfl : (pj lw).1 103 131 = some (.if_icmp .ne 16, 3, 0)) rfl
theorem w103_134 {x : Nat} : W (pj lw) 103 134 (.val (.ref x) :: L) S k n H Q ↔ W (pj lw) 103 135 (.val (.ref x) :: L) (.ref x :: S) k n H Q := W_s (rfl : (pj lw).1 103 134 = some (.aload_n 0, 1, 0)) rfl rfl rfl
theorem w103_135 {x : Int32} {l0 l1 : Slot} : W (pj lw) 103 135 (l0 :: l1 :: .val (.int x) :: L) S k n H Q ↔ W (pj lw) 103 136 (l0 :: l1 :: .val (.int x) :: L) (.int x :: S) k n H Q := W_s (rfl : (pj lw).1 103 135 = some (.iload_n 2, 1, 0)) rfl rfl rfl
theorem w103_136 {a : Nat} {x0 : Int32} : W (pj lw) 103 136 L (.int x0 :: .ref a :: S) k n H Q ↔ ((isO H a = true ∧ cs S + (4 + 11) + 13 ≤ 30) ∧ Cl (pj lw) 15 [.ref a, .int x0] H (fun v H => W (pj lw) 103 139 L (v.toList ++ S) k n H Q)) := W_inst (as := [.int x0]) (rfl : (pj lw).1 103 136 = some (.invokevirtual 65, 3, 15)) rfl rfl rfl (Nat.le_of_ble_eq_true rfl) (Nat.le_of_ble_eq_true rfl) ⟨rfl, rfl⟩
theorem w103_139 {x : Nat} {l0 : Slot} : W (pj lw) 103 139 (l0 :: .val (.ref x) :: L) S k n H Q ↔ W (pj lw) 103 140 (l0 :: .val (.ref x) :: L) (.ref x :: S) k n H Q := W_s (rfl : (pj lw).1 103 139 = some (.aload_n 1, 1, 0)) rfl rfl rfl
theorem w103_140 {x : Int32} {l0 l1 : Slot} : W (pj lw) 103 140 (l0 :: l1 :: .val (.int x) :: L) S k n H Q ↔ W (pj lw) 103 141 (l0 :: l1 :: .val (.int x) :: L) (.int x :: S) k n H Q := W_s (rfl : (pj lw).1 103 140 = some (.iload_n 2, 1, 0)) rfl rfl rfl
theorem w103_141 {a : Nat} {x0 : Int32} : W (pj lw) 103 141 L (.int x0 :: .ref a :: S) k n H Q ↔ ((isO H a = true ∧ cs S + (4 + 11) + 13 ≤ 30) ∧ Cl (pj lw) 15 [.ref a, .int x0] H (fun v H => W (pj lw) 103 144 L (v.toList ++ S) k n H Q)) := W_inst (as := [.int x0]) (rfl : (pj lw).1 103 141 = some (.invokevirtual 65, 3, 15)) rfl rfl rfl (Nat.le_of_ble_eq_true rfl) (Nat.le_of_ble_eq_true rfl) ⟨rfl, rfl⟩
theorem w103_144 {x y : Int32} : W (pj lw) 103 144 L (.int y :: .int x :: S) k n H Q ↔ (if x = y then W (pj lw) 103 149 L S k n H Q else W (pj lw) 103 147 L S k n H Q) := W_icmp_eq (rfl : (pj lw).1 103 144 = some (.if_icmp .eq 5, 3, 0)) rfl
theorem w103_147 : W (pj lw) 103 147 L S k n H Q ↔ W (pj lw) 103 148 L (.int 0 :: S) k n H Q := W_s (rfl : (pj lw).1 103 147 = some (.iconst 0, 1, 0)) rfl rfl rfl
theorem w103_148 {x : Int32} : W (pj lw) 103 148 L (.int x :: S) k n H Q ↔ ((x = 0 ∨ x = 1) ∧ Q (some (.int x)) H) := W_rz (rfl : (pj lw).1 103 148 = some (.ireturn, 1, 0)) rfl
theorem w103_149 {x : Int32} {l0 l1 : Slot} : W (pj lw) 103 149 (l0 :: l1 :: .val (.int x) :: L) S k n H Q ↔ W (pj lw) 103 152 (l0 :: l1 :: .val (.int (x + 1)) :: L) S k n H Q := W_s (rfl : (pj lw).1 103 149 = some (.iinc 2 1, 3, 0)) rfl rfl rfl
theorem w103_152 : W (pj lw) 103 152 L S k n H Q ↔ W (pj lw) 103 31 L S k n H Q := W_goto (rfl : (pj lw).1 103 152 = some (.goto (-121), 3, 0)) rfl
theorem w103_155 : W (pj lw) 103 155 L S k n H Q ↔ W (pj lw) 103 156 L (.int 1 :: S) k n H Q := W_s (rfl : (pj lw).1 103 155 = some (.iconst 1, 1, 0)) rfl rfl rfl
theorem w103_156 {x : Int32} : W (pj lw) 103 156 L (.int x :: S) k n H Q ↔ ((x = 0 ∨ x = 1) ∧ Q (some (.int x)) H) := W_rz (rfl : (pj lw).1 103 156 = some (.ireturn, 1, 0)) rfl
end LPc
section X9
variable {H : AH} {p q : Nat} {s s' : St} {Q : Option Value → AH → Prop} {k n : Nat}
theorem isO2 (hs : p + 14 < q) : isO (ob (ob H p s) q s') p = true := by rw [ob_comm hs]; exact isO_put
theorem l103a (hs : p + 14 < q) (hI : Iv s) (m : Nat) : ∀ (i : Int32), i.toInt = 12 - m → m ≤ 12 →
    (W (pj lw) 103 2 [.val (.ref p), .val (.ref q), .val (.int i)] [] k n (ob (ob H p s) q s) Q ↔ W (pj lw) 103 31 [.val (.ref p), .val (.ref q), .val (.int 0)] [] k n (ob (ob H p s) q s) Q) := by
  have A16 := fun (e : Int32) (Q : Option Value → AH → Prop) => lft (lw := lw) (H := H) (s' := s) (Q := Q) hs (fun H Q => t16 (lw := lw) (H := H) (p := p) (Q := Q) (e := e) (Iv_b hI))
  have B16 := fun (e : Int32) (Q : Option Value → AH → Prop) => t16 (lw := lw) (H := ob H p s) (p := q) (Q := Q) (e := e) (Iv_b hI)
  have O2 := isO2 (H := H) (s := s) (s' := s) hs
  induction m with
  | zero =>
    intro i hi _
    have h1 : 11 < i := by rw [lt32]; simp only [Int32.reduceToInt]; omega
    rw [w103_2]; simp +decide only [w103_3, w103_5, w103_8, w103_9, w103_10, w103_13, w103_14, w103_15, w103_18, w103_21, w103_22, w103_23, w103_26, w103_29, w103_30i, zr_z0, zr_uI, zr_uJ, isO_put, isOw_put, put_fst, okv_int, okv_long, okv_ref, okv_bool, okv_byte, cat1_unset, cat1_int, cat1_ref, cs_nil, cs_int, cs_ref, cs_long, cmpL_lt, cmpL_gt, cmpL_eq, sI_uI, sI_uJ, sI_uA, sI_uB, sJ_uI, sJ_uJ, sJ_uA, sJ_uB, sA_uI, sA_uJ, sA_uA, sA_uB, sB_uI, sB_uJ, sB_uA, sB_uB, sI_fA, sJ_fA, sA_fA, sB_fA, sI_z0, sJ_z0, sA_z0, sB_z0, Option.toList_some, Option.toList_none, List.cons_append, List.nil_append, true_and, and_true, false_and, and_false, or_false, false_or, or_true, true_or, not_true_eq_false, not_false_eq_true, ↓reduceIte, Nat.reduceAdd, Nat.reduceLeDiff, Nat.reduceEqDiff, Nat.reduceSub, Int32.reduceAdd, Int32.reduceSub, Int32.reduceMul, Int32.reduceToNatClampNeg, Int64.reduceAdd, Int64.reduceSub, Int64.reduceMul, Int64.reduceLT, Int32.reduceLT, Int32.reduceToInt, Nat.add_zero, Nat.zero_add, Nat.le_refl, eq_self, implies_true, ne_eq, h1]
  | succ m ih =>
    intro i hi hm
    have h1 : ¬ 11 < i := by rw [lt32]; simp only [Int32.reduceToInt]; omega
    have h2 : (i + 1).toInt = i.toInt + 1 := ia (by simp only [Int32.reduceToInt]; omega) (by simp only [Int32.reduceToInt]; omega)
    rw [w103_2]; simp +decide only [w103_3, w103_5, w103_8, w103_9, w103_10, w103_13, w103_14, w103_15, w103_18, w103_21, w103_22, w103_23, w103_26, w103_29, w103_30i, zr_z0, zr_uI, zr_uJ, isO_put, isOw_put, put_fst, okv_int, okv_long, okv_ref, okv_bool, okv_byte, cat1_unset, cat1_int, cat1_ref, cs_nil, cs_int, cs_ref, cs_long, cmpL_lt, cmpL_gt, cmpL_eq, sI_uI, sI_uJ, sI_uA, sI_uB, sJ_uI, sJ_uJ, sJ_uA, sJ_uB, sA_uI, sA_uJ, sA_uA, sA_uB, sB_uI, sB_uJ, sB_uA, sB_uB, sI_fA, sJ_fA, sA_fA, sB_fA, sI_z0, sJ_z0, sA_z0, sB_z0, Option.toList_some, Option.toList_none, List.cons_append, List.nil_append, true_and, and_true, false_and, and_false, or_false, false_or, or_true, true_or, not_true_eq_false, not_false_eq_true, ↓reduceIte, Nat.reduceAdd, Nat.reduceLeDiff, Nat.reduceEqDiff, Nat.reduceSub, Int32.reduceAdd, Int32.reduceSub, Int32.reduceMul, Int32.reduceToNatClampNeg, Int64.reduceAdd, Int64.reduceSub, Int64.reduceMul, Int64.reduceLT, Int32.reduceLT, Int32.reduceToInt, Nat.add_zero, Nat.zero_add, Nat.le_refl, eq_self, implies_true, ne_eq, h1, A16, B16, O2]
    rw [ih (i + 1) (by omega) (by omega)]
set_option maxRecDepth 100000 in
theorem l103b (hs : p + 14 < q) (hI : Iv s) (m : Nat) : ∀ (i : Int32), i.toInt = 8 - m → m ≤ 8 →
    (W (pj lw) 103 31 [.val (.ref p), .val (.ref q), .val (.int i)] [] k n (ob (ob H p s) q s) Q ↔ Q (some (.int 1)) (ob (ob H p s) q s)) := by
  have A8 := fun (e : Int32) (Q : Option Value → AH → Prop) => lft (lw := lw) (H := H) (s' := s) (Q := Q) hs (fun H Q => t8 (lw := lw) (H := H) (p := p) (Q := Q) (a := e) (Iv_b hI).2)
  have B8 := fun (e : Int32) (Q : Option Value → AH → Prop) => t8 (lw := lw) (H := ob H p s) (p := q) (Q := Q) (a := e) (Iv_b hI).2
  have A9 := fun (e : Int32) (Q : Option Value → AH → Prop) => lft (lw := lw) (H := H) (s' := s) (Q := Q) hs (fun H Q => t9 (lw := lw) (H := H) (p := p) (Q := Q) (a := e) (Iv_b hI).2)
  have B9 := fun (e : Int32) (Q : Option Value → AH → Prop) => t9 (lw := lw) (H := ob H p s) (p := q) (Q := Q) (a := e) (Iv_b hI).2
  have A10 := fun (e : Int32) (Q : Option Value → AH → Prop) => lft (lw := lw) (H := H) (s' := s) (Q := Q) hs (fun H Q => t10 (lw := lw) (H := H) (p := p) (Q := Q) (a := e) (Iv_b hI).2)
  have B10 := fun (e : Int32) (Q : Option Value → AH → Prop) => t10 (lw := lw) (H := ob H p s) (p := q) (Q := Q) (a := e) (Iv_b hI).2
  have A11 := fun (e : Int32) (Q : Option Value → AH → Prop) => lft (lw := lw) (H := H) (s' := s) (Q := Q) hs (fun H Q => t11 (lw := lw) (H := H) (p := p) (Q := Q) (a := e) (Iv_b hI).2)
  have B11 := fun (e : Int32) (Q : Option Value → AH → Prop) => t11 (lw := lw) (H := ob H p s) (p := q) (Q := Q) (a := e) (Iv_b hI).2
  have A12 := fun (e : Int32) (Q : Option Value → AH → Prop) => lft (lw := lw) (H := H) (s' := s) (Q := Q) hs (fun H Q => t12 (lw := lw) (H := H) (p := p) (Q := Q) (a := e) (Iv_b hI).2)
  have B12 := fun (e : Int32) (Q : Option Value → AH → Prop) => t12 (lw := lw) (H := ob H p s) (p := q) (Q := Q) (a := e) (Iv_b hI).2
  have A13 := fun (e : Int32) (Q : Option Value → AH → Prop) => lft (lw := lw) (H := H) (s' := s) (Q := Q) hs (fun H Q => t13 (lw := lw) (H := H) (p := p) (Q := Q) (a := e) (Iv_b hI).2)
  have B13 := fun (e : Int32) (Q : Option Value → AH → Prop) => t13 (lw := lw) (H := ob H p s) (p := q) (Q := Q) (a := e) (Iv_b hI).2
  have A14 := fun (e : Int32) (Q : Option Value → AH → Prop) => lft (lw := lw) (H := H) (s' := s) (Q := Q) hs (fun H Q => t14 (lw := lw) (H := H) (p := p) (Q := Q) (a := e) (Iv_b hI).2)
  have B14 := fun (e : Int32) (Q : Option Value → AH → Prop) => t14 (lw := lw) (H := ob H p s) (p := q) (Q := Q) (a := e) (Iv_b hI).2
  have A15 := fun (e : Int32) (Q : Option Value → AH → Prop) => lft (lw := lw) (H := H) (s' := s) (Q := Q) hs (fun H Q => t15 (lw := lw) (H := H) (p := p) (Q := Q) (e := e) (Iv_b hI))
  have B15 := fun (e : Int32) (Q : Option Value → AH → Prop) => t15 (lw := lw) (H := ob H p s) (p := q) (Q := Q) (e := e) (Iv_b hI)
  have O2 := isO2 (H := H) (s := s) (s' := s) hs
  induction m with
  | zero =>
    intro i hi _
    have h1 : ¬ i < 8 := by rw [lt32]; simp only [Int32.reduceToInt]; omega
    rw [w103_31]; simp +decide only [w103_32, w103_34, w103_37, w103_38, w103_39, w103_42, w103_43, w103_44, w103_47, w103_50, w103_51, w103_52, w103_55, w103_56, w103_57, w103_60, w103_63, w103_64, w103_65, w103_66, w103_67, w103_70, w103_71, w103_72, w103_75, w103_78, w103_79, w103_80, w103_83, w103_84, w103_85, w103_88, w103_91, w103_92, w103_93, w103_94, w103_95, w103_98, w103_99, w103_100, w103_103, w103_106, w103_107, w103_108, w103_111, w103_112, w103_113, w103_116, w103_119, w103_120, w103_121, w103_122, w103_123, w103_126, w103_127, w103_128, w103_131, w103_134, w103_135, w103_136, w103_139, w103_140, w103_141, w103_144, w103_147, w103_148, w103_149, w103_152, w103_155, w103_156, zr_z0, zr_uI, zr_uJ, isO_put, isOw_put, put_fst, okv_int, okv_long, okv_ref, okv_bool, okv_byte, cat1_unset, cat1_int, cat1_ref, cs_nil, cs_int, cs_ref, cs_long, cmpL_lt, cmpL_gt, cmpL_eq, sI_uI, sI_uJ, sI_uA, sI_uB, sJ_uI, sJ_uJ, sJ_uA, sJ_uB, sA_uI, sA_uJ, sA_uA, sA_uB, sB_uI, sB_uJ, sB_uA, sB_uB, sI_fA, sJ_fA, sA_fA, sB_fA, sI_z0, sJ_z0, sA_z0, sB_z0, Option.toList_some, Option.toList_none, List.cons_append, List.nil_append, true_and, and_true, false_and, and_false, or_false, false_or, or_true, true_or, not_true_eq_false, not_false_eq_true, ↓reduceIte, Nat.reduceAdd, Nat.reduceLeDiff, Nat.reduceEqDiff, Nat.reduceSub, Int32.reduceAdd, Int32.reduceSub, Int32.reduceMul, Int32.reduceToNatClampNeg, Int64.reduceAdd, Int64.reduceSub, Int64.reduceMul, Int64.reduceLT, Int32.reduceLT, Int32.reduceToInt, Nat.add_zero, Nat.zero_add, Nat.le_refl, eq_self, implies_true, ne_eq, h1]
  | succ m ih =>
    intro i hi hm
    have h1 : i < 8 := by rw [lt32]; simp only [Int32.reduceToInt]; omega
    have h2 : (i + 1).toInt = i.toInt + 1 := ia (by simp only [Int32.reduceToInt]; omega) (by simp only [Int32.reduceToInt]; omega)
    rw [w103_31]; simp +decide only [w103_32, w103_34, w103_37, w103_38, w103_39, w103_42, w103_43, w103_44, w103_47, w103_50, w103_51, w103_52, w103_55, w103_56, w103_57, w103_60, w103_63, w103_64, w103_65, w103_66, w103_67, w103_70, w103_71, w103_72, w103_75, w103_78, w103_79, w103_80, w103_83, w103_84, w103_85, w103_88, w103_91, w103_92, w103_93, w103_94, w103_95, w103_98, w103_99, w103_100, w103_103, w103_106, w103_107, w103_108, w103_111, w103_112, w103_113, w103_116, w103_119, w103_120, w103_121, w103_122, w103_123, w103_126, w103_127, w103_128, w103_131, w103_134, w103_135, w103_136, w103_139, w103_140, w103_141, w103_144, w103_147, w103_148, w103_149, w103_152, w103_155, w103_156, zr_z0, zr_uI, zr_uJ, isO_put, isOw_put, put_fst, okv_int, okv_long, okv_ref, okv_bool, okv_byte, cat1_unset, cat1_int, cat1_ref, cs_nil, cs_int, cs_ref, cs_long, cmpL_lt, cmpL_gt, cmpL_eq, sI_uI, sI_uJ, sI_uA, sI_uB, sJ_uI, sJ_uJ, sJ_uA, sJ_uB, sA_uI, sA_uJ, sA_uA, sA_uB, sB_uI, sB_uJ, sB_uA, sB_uB, sI_fA, sJ_fA, sA_fA, sB_fA, sI_z0, sJ_z0, sA_z0, sB_z0, Option.toList_some, Option.toList_none, List.cons_append, List.nil_append, true_and, and_true, false_and, and_false, or_false, false_or, or_true, true_or, not_true_eq_false, not_false_eq_true, ↓reduceIte, Nat.reduceAdd, Nat.reduceLeDiff, Nat.reduceEqDiff, Nat.reduceSub, Int32.reduceAdd, Int32.reduceSub, Int32.reduceMul, Int32.reduceToNatClampNeg, Int64.reduceAdd, Int64.reduceSub, Int64.reduceMul, Int64.reduceLT, Int32.reduceLT, Int32.reduceToInt, Nat.add_zero, Nat.zero_add, Nat.le_refl, eq_self, implies_true, ne_eq, h1, A8, B8, A9, B9, A10, B10, A11, B11, A12, B12, A13, B13, A14, B14, A15, B15, O2]
    rw [ih (i + 1) (by omega) (by omega)]
theorem s103 (hs : p + 14 < q) (hI : Iv s) : Cl (pj lw) 103 [.ref p, .ref q] (ob (ob H p s) q s) Q ↔ Q (some (.int 1)) (ob (ob H p s) q s) := by
  rw [c103]; simp +decide only [w103_0, w103_1, zr_z0, zr_uI, zr_uJ, isO_put, isOw_put, put_fst, okv_int, okv_long, okv_ref, okv_bool, okv_byte, cat1_unset, cat1_int, cat1_ref, cs_nil, cs_int, cs_ref, cs_long, cmpL_lt, cmpL_gt, cmpL_eq, sI_uI, sI_uJ, sI_uA, sI_uB, sJ_uI, sJ_uJ, sJ_uA, sJ_uB, sA_uI, sA_uJ, sA_uA, sA_uB, sB_uI, sB_uJ, sB_uA, sB_uB, sI_fA, sJ_fA, sA_fA, sB_fA, sI_z0, sJ_z0, sA_z0, sB_z0, Option.toList_some, Option.toList_none, List.cons_append, List.nil_append, true_and, and_true, false_and, and_false, or_false, false_or, or_true, true_or, not_true_eq_false, not_false_eq_true, ↓reduceIte, Nat.reduceAdd, Nat.reduceLeDiff, Nat.reduceEqDiff, Nat.reduceSub, Int32.reduceAdd, Int32.reduceSub, Int32.reduceMul, Int32.reduceToNatClampNeg, Int64.reduceAdd, Int64.reduceSub, Int64.reduceMul, Int64.reduceLT, Int32.reduceLT, Int32.reduceToInt, Nat.add_zero, Nat.zero_add, Nat.le_refl, eq_self, implies_true, ne_eq]
  rw [l103a hs hI 12 0 (by decide) (by decide), l103b hs hI 8 0 (by decide) (by decide)]
theorem li {r x0 x1 x2 x3 x4 : Int32} {a : Nat} {d : Int32} {s1 : St} (hs : p + 14 < q) (hd : d.toInt ≤ 8) (m : Nat) : ∀ (j : Int32) (s2 : St), Iv s2 → j.toInt = d.toInt - m → 0 ≤ j.toInt →
    (W (pj lw) 100 224 [.val (.ref a), .val (.ref p), .val (.ref q), .val (.int x0), .val (.int x1), .val (.int x2), .val (.int x3), .val (.int x4), .val (.int d), .val (.int r), .val (.int (sI s2 22)), .val (.int j)] [] k n (ob (ob H p s1) q s2) Q ↔
     W (pj lw) 100 244 [.val (.ref a), .val (.ref p), .val (.ref q), .val (.int x0), .val (.int x1), .val (.int x2), .val (.int x3), .val (.int x4), .val (.int d), .val (.int r), .val (.int (sI (runF m s2) 22)), .val (.int d)] [] k n (ob (ob H p s1) q (runF m s2)) Q) := by
  induction m with
  | zero =>
    intro j s2 hI hj h0
    have h1 : ¬ j < d := by rw [lt32]; omega
    have h2 : j = d := by rw [eq32]; omega
    subst h2
    rw [w100_224]; simp +decide only [w100_226, w100_228, w100_231, w100_232, w100_233, w100_236i, w100_238, w100_241, zr_z0, zr_uI, zr_uJ, isO_put, isOw_put, put_fst, okv_int, okv_long, okv_ref, okv_bool, okv_byte, cat1_unset, cat1_int, cat1_ref, cs_nil, cs_int, cs_ref, cs_long, cmpL_lt, cmpL_gt, cmpL_eq, sI_uI, sI_uJ, sI_uA, sI_uB, sJ_uI, sJ_uJ, sJ_uA, sJ_uB, sA_uI, sA_uJ, sA_uA, sA_uB, sB_uI, sB_uJ, sB_uA, sB_uB, sI_fA, sJ_fA, sA_fA, sB_fA, sI_z0, sJ_z0, sA_z0, sB_z0, Option.toList_some, Option.toList_none, List.cons_append, List.nil_append, true_and, and_true, false_and, and_false, or_false, false_or, or_true, true_or, not_true_eq_false, not_false_eq_true, ↓reduceIte, Nat.reduceAdd, Nat.reduceLeDiff, Nat.reduceEqDiff, Nat.reduceSub, Int32.reduceAdd, Int32.reduceSub, Int32.reduceMul, Int32.reduceToNatClampNeg, Int64.reduceAdd, Int64.reduceSub, Int64.reduceMul, Int64.reduceLT, Int32.reduceLT, Int32.reduceToInt, Nat.add_zero, Nat.zero_add, Nat.le_refl, eq_self, implies_true, ne_eq, h1, runF]
  | succ m ih =>
    intro j s2 hI hj h0
    have h1 : j < d := by rw [lt32]; omega
    have h2 : (j + 1).toInt = j.toInt + 1 := ia (by simp only [Int32.reduceToInt]; omega) (by simp only [Int32.reduceToInt]; omega)
    have B7 := fun (Q : Option Value → AH → Prop) => t7 (lw := lw) (H := ob H p s1) (p := q) (Q := Q) (a := 1) hI
    simp only [runF_1] at B7
    rw [w100_224]; simp +decide only [w100_226, w100_228, w100_231, w100_232, w100_233, w100_236i, w100_238, w100_241, zr_z0, zr_uI, zr_uJ, isO_put, isOw_put, put_fst, okv_int, okv_long, okv_ref, okv_bool, okv_byte, cat1_unset, cat1_int, cat1_ref, cs_nil, cs_int, cs_ref, cs_long, cmpL_lt, cmpL_gt, cmpL_eq, sI_uI, sI_uJ, sI_uA, sI_uB, sJ_uI, sJ_uJ, sJ_uA, sJ_uB, sA_uI, sA_uJ, sA_uA, sA_uB, sB_uI, sB_uJ, sB_uA, sB_uB, sI_fA, sJ_fA, sA_fA, sB_fA, sI_z0, sJ_z0, sA_z0, sB_z0, Option.toList_some, Option.toList_none, List.cons_append, List.nil_append, true_and, and_true, false_and, and_false, or_false, false_or, or_true, true_or, not_true_eq_false, not_false_eq_true, ↓reduceIte, Nat.reduceAdd, Nat.reduceLeDiff, Nat.reduceEqDiff, Nat.reduceSub, Int32.reduceAdd, Int32.reduceSub, Int32.reduceMul, Int32.reduceToNatClampNeg, Int64.reduceAdd, Int64.reduceSub, Int64.reduceMul, Int64.reduceLT, Int32.reduceLT, Int32.reduceToInt, Nat.add_zero, Nat.zero_add, Nat.le_refl, eq_self, implies_true, ne_eq, h1, B7]
    rw [ih (j + 1) (dayS s2) (Iv_day hI) (by omega) (by omega), runF]
set_option maxRecDepth 100000 in
set_option maxHeartbeats 4000000 in
theorem lp {a len : Nat} {f : Nat → Int32} {c : Nat} (ha : a < p) (hs : p + 14 < q) (hl : len ≤ 100000) (m : Nat) : ∀ (i : Int32) (s : St), Iv s → 0 ≤ i.toInt → i.toInt ≤ len + 4 → len + 4 ≤ i.toInt + m →
    W (pj lw) 100 28 [.val (.ref a), .val (.ref p), .val (.ref q), .val (.int i), .unset, .unset, .unset, .unset, .unset, .unset, .unset, .unset] [] k n (ob (ob (H1 c a len f) p s) q s) (fun v _ => v = some (.int 1)) := by
  have O2 : ∀ (s s' : St), isO (ob (ob (H1 c a len f) p s) q s') p = true := fun s s' => isO2 hs
  have hlen : (len.toInt32).toInt = len := len32 (by omega)
  induction m with
  | zero =>
    intro i s hI h0 h4 hm
    have h3 : (i + 3).toInt = i.toInt + 3 := ia (by simp only [Int32.reduceToInt]; omega) (by simp only [Int32.reduceToInt]; omega)
    obtain ⟨y1, y2, y3, y4⟩ := sc2 (c := c) (len := len) (f := f) (s := s) (s' := s) ha hs
    have hlt : ¬ i + 3 < len.toInt32 := by rw [lt32]; omega
    rw [w100_28]; simp +decide only [w100_29, w100_30, w100_31, w100_32, w100_33, w100_319, w100_320, zr_z0, zr_uI, zr_uJ, isO_put, isOw_put, put_fst, okv_int, okv_long, okv_ref, okv_bool, okv_byte, cat1_unset, cat1_int, cat1_ref, cs_nil, cs_int, cs_ref, cs_long, cmpL_lt, cmpL_gt, cmpL_eq, sI_uI, sI_uJ, sI_uA, sI_uB, sJ_uI, sJ_uJ, sJ_uA, sJ_uB, sA_uI, sA_uJ, sA_uA, sA_uB, sB_uI, sB_uJ, sB_uA, sB_uB, sI_fA, sJ_fA, sA_fA, sB_fA, sI_z0, sJ_z0, sA_z0, sB_z0, Option.toList_some, Option.toList_none, List.cons_append, List.nil_append, true_and, and_true, false_and, and_false, or_false, false_or, or_true, true_or, not_true_eq_false, not_false_eq_true, ↓reduceIte, Nat.reduceAdd, Nat.reduceLeDiff, Nat.reduceEqDiff, Nat.reduceSub, Int32.reduceAdd, Int32.reduceSub, Int32.reduceMul, Int32.reduceToNatClampNeg, Int64.reduceAdd, Int64.reduceSub, Int64.reduceMul, Int64.reduceLT, Int32.reduceLT, Int32.reduceToInt, Nat.add_zero, Nat.zero_add, Nat.le_refl, eq_self, implies_true, ne_eq, y1, y2, hlt]
  | succ m ih =>
    intro i s hI h0 h4 hm
    have h1 : (i + 1).toInt = i.toInt + 1 := ia (by simp only [Int32.reduceToInt]; omega) (by simp only [Int32.reduceToInt]; omega)
    have h2 : (i + 2).toInt = i.toInt + 2 := ia (by simp only [Int32.reduceToInt]; omega) (by simp only [Int32.reduceToInt]; omega)
    have h3 : (i + 3).toInt = i.toInt + 3 := ia (by simp only [Int32.reduceToInt]; omega) (by simp only [Int32.reduceToInt]; omega)
    obtain ⟨y1, y2, y3, y4⟩ := sc2 (c := c) (len := len) (f := f) (s := s) (s' := s) ha hs
    by_cases hlt : i + 3 < len.toInt32
    rotate_left
    · rw [w100_28]; simp +decide only [w100_29, w100_30, w100_31, w100_32, w100_33, w100_319, w100_320, zr_z0, zr_uI, zr_uJ, isO_put, isOw_put, put_fst, okv_int, okv_long, okv_ref, okv_bool, okv_byte, cat1_unset, cat1_int, cat1_ref, cs_nil, cs_int, cs_ref, cs_long, cmpL_lt, cmpL_gt, cmpL_eq, sI_uI, sI_uJ, sI_uA, sI_uB, sJ_uI, sJ_uJ, sJ_uA, sJ_uB, sA_uI, sA_uJ, sA_uA, sA_uB, sB_uI, sB_uJ, sB_uA, sB_uB, sI_fA, sJ_fA, sA_fA, sB_fA, sI_z0, sJ_z0, sA_z0, sB_z0, Option.toList_some, Option.toList_none, List.cons_append, List.nil_append, true_and, and_true, false_and, and_false, or_false, false_or, or_true, true_or, not_true_eq_false, not_false_eq_true, ↓reduceIte, Nat.reduceAdd, Nat.reduceLeDiff, Nat.reduceEqDiff, Nat.reduceSub, Int32.reduceAdd, Int32.reduceSub, Int32.reduceMul, Int32.reduceToNatClampNeg, Int64.reduceAdd, Int64.reduceSub, Int64.reduceMul, Int64.reduceLT, Int32.reduceLT, Int32.reduceToInt, Nat.add_zero, Nat.zero_add, Nat.le_refl, eq_self, implies_true, ne_eq, y1, y2, hlt]
    have hb : i.toInt + 3 < len := by rw [lt32] at hlt; omega
    have h5 : (i + 4).toInt = i.toInt + 4 := ia (by simp only [Int32.reduceToInt]; omega) (by simp only [Int32.reduceToInt]; omega)
    have j0 : 0 ≤ i.toInt ∧ i.toInt < (len : Int) := by omega
    have j1 : 0 ≤ (i + 1).toInt ∧ (i + 1).toInt < (len : Int) := by omega
    have j2 : 0 ≤ (i + 2).toInt ∧ (i + 2).toInt < (len : Int) := by omega
    have j3 : 0 ≤ (i + 3).toInt ∧ (i + 3).toInt < (len : Int) := by omega
    have key : ∀ (s' : St) (l4 l5 l6 l7 l8 l9 l10 l11 : Slot), Iv s' → cat1 l4 = true → cat1 l5 = true → cat1 l6 = true → cat1 l7 = true → cat1 l8 = true → cat1 l9 = true → cat1 l10 = true → cat1 l11 = true →
        W (pj lw) 100 303 [.val (.ref a), .val (.ref p), .val (.ref q), .val (.int i), l4, l5, l6, l7, l8, l9, l10, l11] [] k n (ob (ob (H1 c a len f) p s') q s') (fun v _ => v = some (.int 1)) := by
      intro s' l4 l5 l6 l7 l8 l9 l10 l11 hI' c4 c5 c6 c7 c8 c9 c10 c11
      simp +decide only [w100_303, w100_304, w100_305, w100_308, w100_311, w100_312, w100_313, w100_316, zr_z0, zr_uI, zr_uJ, isO_put, isOw_put, put_fst, okv_int, okv_long, okv_ref, okv_bool, okv_byte, cat1_unset, cat1_int, cat1_ref, cs_nil, cs_int, cs_ref, cs_long, cmpL_lt, cmpL_gt, cmpL_eq, sI_uI, sI_uJ, sI_uA, sI_uB, sJ_uI, sJ_uJ, sJ_uA, sJ_uB, sA_uI, sA_uJ, sA_uA, sA_uB, sB_uI, sB_uJ, sB_uA, sB_uB, sI_fA, sJ_fA, sA_fA, sB_fA, sI_z0, sJ_z0, sA_z0, sB_z0, Option.toList_some, Option.toList_none, List.cons_append, List.nil_append, true_and, and_true, false_and, and_false, or_false, false_or, or_true, true_or, not_true_eq_false, not_false_eq_true, ↓reduceIte, Nat.reduceAdd, Nat.reduceLeDiff, Nat.reduceEqDiff, Nat.reduceSub, Int32.reduceAdd, Int32.reduceSub, Int32.reduceMul, Int32.reduceToNatClampNeg, Int64.reduceAdd, Int64.reduceSub, Int64.reduceMul, Int64.reduceLT, Int32.reduceLT, Int32.reduceToInt, Nat.add_zero, Nat.zero_add, Nat.le_refl, eq_self, implies_true, ne_eq, s103 hs hI']
      exact W_fg (lel_cons <| lel_cons <| lel_cons <| lel_cons <| lel_un c4 <| lel_un c5 <| lel_un c6 <| lel_un c7 <| lel_un c8 <| lel_un c9 <| lel_un c10 <| lel_un c11 lel_refl) (ih (i + 4) s' hI' (by omega) (by omega) (by omega))
    clear ih
    rw [w100_28]; simp +decide only [w100_29, w100_30, w100_31, w100_32, w100_33, w100_36, w100_37, w100_38, w100_39, w100_41, w100_42i, w100_42, w100_44, w100_45, w100_46, w100_47, w100_48, w100_49i, w100_49, w100_51, w100_52, w100_53, w100_54, w100_55, w100_56i, w100_56, w100_58, w100_59, w100_60, w100_61, w100_62, w100_63i, w100_63, zr_z0, zr_uI, zr_uJ, isO_put, isOw_put, put_fst, okv_int, okv_long, okv_ref, okv_bool, okv_byte, cat1_unset, cat1_int, cat1_ref, cs_nil, cs_int, cs_ref, cs_long, cmpL_lt, cmpL_gt, cmpL_eq, sI_uI, sI_uJ, sI_uA, sI_uB, sJ_uI, sJ_uJ, sJ_uA, sJ_uB, sA_uI, sA_uJ, sA_uA, sA_uB, sB_uI, sB_uJ, sB_uA, sB_uB, sI_fA, sJ_fA, sA_fA, sB_fA, sI_z0, sJ_z0, sA_z0, sB_z0, Option.toList_some, Option.toList_none, List.cons_append, List.nil_append, true_and, and_true, false_and, and_false, or_false, false_or, or_true, true_or, not_true_eq_false, not_false_eq_true, ↓reduceIte, Nat.reduceAdd, Nat.reduceLeDiff, Nat.reduceEqDiff, Nat.reduceSub, Int32.reduceAdd, Int32.reduceSub, Int32.reduceMul, Int32.reduceToNatClampNeg, Int64.reduceAdd, Int64.reduceSub, Int64.reduceMul, Int64.reduceLT, Int32.reduceLT, Int32.reduceToInt, Nat.add_zero, Nat.zero_add, Nat.le_refl, eq_self, implies_true, ne_eq, y1, y2, y3, y4, hlt, j0, j1, j2, j3]
    generalize f i.toNatClampNeg &&& 7 = op
    generalize f (i + 1).toNatClampNeg = x
    generalize f (i + 2).toNatClampNeg = y
    generalize f (i + 3).toNatClampNeg = z
    by_cases e0 : op = 0
    · have A2 := fun (e : Int32) (Q : Option Value → AH → Prop) => lft (lw := lw) (H := H1 c a len f) (s := s) (s' := s) (Q := Q) hs (fun H Q => t2 (lw := lw) (H := H) (p := p) (s := s) (Q := Q) (a := e))
      simp +decide only [w100_65, w100_67, w100_70, w100_71, w100_73, w100_76, w100_77, w100_79, w100_82, w100_85, w100_87, w100_88, w100_91, w100_93, w100_95, w100_96, w100_97, w100_98i, w100_98, w100_100, w100_101, w100_103, w100_106, w100_107, w100_109, w100_112, w100_115, w100_116, w100_117, w100_120, w100_122, w100_123, w100_126, w100_128, w100_130, w100_131, w100_133, w100_134i, w100_134, w100_136, w100_137, w100_139, w100_142, w100_143, w100_145, w100_148, w100_151, w100_152, w100_153, w100_156, w100_158, w100_159, w100_162, w100_164, w100_166, w100_167, w100_169, w100_170i, w100_170, w100_172, w100_173, w100_175, w100_178, w100_179, w100_181, w100_184, w100_187, w100_188, w100_189, w100_192, w100_194, w100_195, w100_198, w100_200, w100_202, w100_203i, w100_203, w100_205, w100_206, w100_208, w100_211i, w100_211, w100_213, w100_214, w100_216, w100_219i, w100_219, w100_221, w100_222i, w100_222, w100_226, w100_228, w100_231, w100_232, w100_233, w100_236i, w100_238, w100_241, w100_244, w100_246, w100_248, w100_251, w100_252, w100_253, w100_256, w100_258, w100_260, w100_261i, w100_261, w100_263, w100_265, w100_267, w100_268i, w100_268, w100_270, w100_272, w100_275, w100_276i, w100_276, w100_278, w100_279, w100_281, w100_283, w100_285, w100_288, w100_289, w100_291, w100_293, w100_295, w100_298, w100_301, w100_302, zr_z0, zr_uI, zr_uJ, isO_put, isOw_put, put_fst, okv_int, okv_long, okv_ref, okv_bool, okv_byte, cat1_unset, cat1_int, cat1_ref, cs_nil, cs_int, cs_ref, cs_long, cmpL_lt, cmpL_gt, cmpL_eq, sI_uI, sI_uJ, sI_uA, sI_uB, sJ_uI, sJ_uJ, sJ_uA, sJ_uB, sA_uI, sA_uJ, sA_uA, sA_uB, sB_uI, sB_uJ, sB_uA, sB_uB, sI_fA, sJ_fA, sA_fA, sB_fA, sI_z0, sJ_z0, sA_z0, sB_z0, Option.toList_some, Option.toList_none, List.cons_append, List.nil_append, true_and, and_true, false_and, and_false, or_false, false_or, or_true, true_or, not_true_eq_false, not_false_eq_true, ↓reduceIte, Nat.reduceAdd, Nat.reduceLeDiff, Nat.reduceEqDiff, Nat.reduceSub, Int32.reduceAdd, Int32.reduceSub, Int32.reduceMul, Int32.reduceToNatClampNeg, Int64.reduceAdd, Int64.reduceSub, Int64.reduceMul, Int64.reduceLT, Int32.reduceLT, Int32.reduceToInt, Nat.add_zero, Nat.zero_add, Nat.le_refl, eq_self, implies_true, ne_eq, e0, A2, t2, O2]
      exact key _ _ _ _ _ _ _ _ _ (Iv_sr hI) rfl rfl rfl rfl rfl rfl rfl rfl
    by_cases e1 : op = 1
    · have A3 := fun (e : Int32) (Q : Option Value → AH → Prop) => lft (lw := lw) (H := H1 c a len f) (s := s) (s' := s) (Q := Q) hs (fun H Q => t3 (lw := lw) (H := H) (p := p) (s := s) (Q := Q) (a := e))
      simp +decide only [w100_65, w100_67, w100_70, w100_71, w100_73, w100_76, w100_77, w100_79, w100_82, w100_85, w100_87, w100_88, w100_91, w100_93, w100_95, w100_96, w100_97, w100_98i, w100_98, w100_100, w100_101, w100_103, w100_106, w100_107, w100_109, w100_112, w100_115, w100_116, w100_117, w100_120, w100_122, w100_123, w100_126, w100_128, w100_130, w100_131, w100_133, w100_134i, w100_134, w100_136, w100_137, w100_139, w100_142, w100_143, w100_145, w100_148, w100_151, w100_152, w100_153, w100_156, w100_158, w100_159, w100_162, w100_164, w100_166, w100_167, w100_169, w100_170i, w100_170, w100_172, w100_173, w100_175, w100_178, w100_179, w100_181, w100_184, w100_187, w100_188, w100_189, w100_192, w100_194, w100_195, w100_198, w100_200, w100_202, w100_203i, w100_203, w100_205, w100_206, w100_208, w100_211i, w100_211, w100_213, w100_214, w100_216, w100_219i, w100_219, w100_221, w100_222i, w100_222, w100_226, w100_228, w100_231, w100_232, w100_233, w100_236i, w100_238, w100_241, w100_244, w100_246, w100_248, w100_251, w100_252, w100_253, w100_256, w100_258, w100_260, w100_261i, w100_261, w100_263, w100_265, w100_267, w100_268i, w100_268, w100_270, w100_272, w100_275, w100_276i, w100_276, w100_278, w100_279, w100_281, w100_283, w100_285, w100_288, w100_289, w100_291, w100_293, w100_295, w100_298, w100_301, w100_302, zr_z0, zr_uI, zr_uJ, isO_put, isOw_put, put_fst, okv_int, okv_long, okv_ref, okv_bool, okv_byte, cat1_unset, cat1_int, cat1_ref, cs_nil, cs_int, cs_ref, cs_long, cmpL_lt, cmpL_gt, cmpL_eq, sI_uI, sI_uJ, sI_uA, sI_uB, sJ_uI, sJ_uJ, sJ_uA, sJ_uB, sA_uI, sA_uJ, sA_uA, sA_uB, sB_uI, sB_uJ, sB_uA, sB_uB, sI_fA, sJ_fA, sA_fA, sB_fA, sI_z0, sJ_z0, sA_z0, sB_z0, Option.toList_some, Option.toList_none, List.cons_append, List.nil_append, true_and, and_true, false_and, and_false, or_false, false_or, or_true, true_or, not_true_eq_false, not_false_eq_true, ↓reduceIte, Nat.reduceAdd, Nat.reduceLeDiff, Nat.reduceEqDiff, Nat.reduceSub, Int32.reduceAdd, Int32.reduceSub, Int32.reduceMul, Int32.reduceToNatClampNeg, Int64.reduceAdd, Int64.reduceSub, Int64.reduceMul, Int64.reduceLT, Int32.reduceLT, Int32.reduceToInt, Nat.add_zero, Nat.zero_add, Nat.le_refl, eq_self, implies_true, ne_eq, e0, e1, A3, t3, O2]
      exact key _ _ _ _ _ _ _ _ _ (Iv_sc hI) rfl rfl rfl rfl rfl rfl rfl rfl
    by_cases e3 : op = 3
    · have A5 := fun (e : Int32) (Q : Option Value → AH → Prop) => lft (lw := lw) (H := H1 c a len f) (s := s) (s' := s) (Q := Q) hs (fun H Q => t5' (lw := lw) (H := H) (p := p) (s := s) (Q := Q) (a := e) (Iv_b hI).2)
      have B5 := fun (e : Int32) (s1 : St) (Q : Option Value → AH → Prop) => t5' (lw := lw) (H := ob (H1 c a len f) p s1) (p := q) (s := s) (Q := Q) (a := e) (Iv_b hI).2
      simp +decide only [w100_65, w100_67, w100_70, w100_71, w100_73, w100_76, w100_77, w100_79, w100_82, w100_85, w100_87, w100_88, w100_91, w100_93, w100_95, w100_96, w100_97, w100_98i, w100_98, w100_100, w100_101, w100_103, w100_106, w100_107, w100_109, w100_112, w100_115, w100_116, w100_117, w100_120, w100_122, w100_123, w100_126, w100_128, w100_130, w100_131, w100_133, w100_134i, w100_134, w100_136, w100_137, w100_139, w100_142, w100_143, w100_145, w100_148, w100_151, w100_152, w100_153, w100_156, w100_158, w100_159, w100_162, w100_164, w100_166, w100_167, w100_169, w100_170i, w100_170, w100_172, w100_173, w100_175, w100_178, w100_179, w100_181, w100_184, w100_187, w100_188, w100_189, w100_192, w100_194, w100_195, w100_198, w100_200, w100_202, w100_203i, w100_203, w100_205, w100_206, w100_208, w100_211i, w100_211, w100_213, w100_214, w100_216, w100_219i, w100_219, w100_221, w100_222i, w100_222, w100_226, w100_228, w100_231, w100_232, w100_233, w100_236i, w100_238, w100_241, w100_244, w100_246, w100_248, w100_251, w100_252, w100_253, w100_256, w100_258, w100_260, w100_261i, w100_261, w100_263, w100_265, w100_267, w100_268i, w100_268, w100_270, w100_272, w100_275, w100_276i, w100_276, w100_278, w100_279, w100_281, w100_283, w100_285, w100_288, w100_289, w100_291, w100_293, w100_295, w100_298, w100_301, w100_302, zr_z0, zr_uI, zr_uJ, isO_put, isOw_put, put_fst, okv_int, okv_long, okv_ref, okv_bool, okv_byte, cat1_unset, cat1_int, cat1_ref, cs_nil, cs_int, cs_ref, cs_long, cmpL_lt, cmpL_gt, cmpL_eq, sI_uI, sI_uJ, sI_uA, sI_uB, sJ_uI, sJ_uJ, sJ_uA, sJ_uB, sA_uI, sA_uJ, sA_uA, sA_uB, sB_uI, sB_uJ, sB_uA, sB_uB, sI_fA, sJ_fA, sA_fA, sB_fA, sI_z0, sJ_z0, sA_z0, sB_z0, Option.toList_some, Option.toList_none, List.cons_append, List.nil_append, true_and, and_true, false_and, and_false, or_false, false_or, or_true, true_or, not_true_eq_false, not_false_eq_true, ↓reduceIte, Nat.reduceAdd, Nat.reduceLeDiff, Nat.reduceEqDiff, Nat.reduceSub, Int32.reduceAdd, Int32.reduceSub, Int32.reduceMul, Int32.reduceToNatClampNeg, Int64.reduceAdd, Int64.reduceSub, Int64.reduceMul, Int64.reduceLT, Int32.reduceLT, Int32.reduceToInt, Nat.add_zero, Nat.zero_add, Nat.le_refl, eq_self, implies_true, ne_eq, e0, e1, e3, A5, B5, O2]
      exact key _ _ _ _ _ _ _ _ _ (Iv_in hI) rfl rfl rfl rfl rfl rfl rfl rfl
    by_cases e4 : op = 4
    · have A6 := fun (e : Int32) (Q : Option Value → AH → Prop) => lft (lw := lw) (H := H1 c a len f) (s := s) (s' := s) (Q := Q) hs (fun H Q => t6' (lw := lw) (H := H) (p := p) (s := s) (Q := Q) (a := e) (Iv_b hI).2)
      have B6 := fun (e : Int32) (s1 : St) (Q : Option Value → AH → Prop) => t6' (lw := lw) (H := ob (H1 c a len f) p s1) (p := q) (s := s) (Q := Q) (a := e) (Iv_b hI).2
      simp +decide only [w100_65, w100_67, w100_70, w100_71, w100_73, w100_76, w100_77, w100_79, w100_82, w100_85, w100_87, w100_88, w100_91, w100_93, w100_95, w100_96, w100_97, w100_98i, w100_98, w100_100, w100_101, w100_103, w100_106, w100_107, w100_109, w100_112, w100_115, w100_116, w100_117, w100_120, w100_122, w100_123, w100_126, w100_128, w100_130, w100_131, w100_133, w100_134i, w100_134, w100_136, w100_137, w100_139, w100_142, w100_143, w100_145, w100_148, w100_151, w100_152, w100_153, w100_156, w100_158, w100_159, w100_162, w100_164, w100_166, w100_167, w100_169, w100_170i, w100_170, w100_172, w100_173, w100_175, w100_178, w100_179, w100_181, w100_184, w100_187, w100_188, w100_189, w100_192, w100_194, w100_195, w100_198, w100_200, w100_202, w100_203i, w100_203, w100_205, w100_206, w100_208, w100_211i, w100_211, w100_213, w100_214, w100_216, w100_219i, w100_219, w100_221, w100_222i, w100_222, w100_226, w100_228, w100_231, w100_232, w100_233, w100_236i, w100_238, w100_241, w100_244, w100_246, w100_248, w100_251, w100_252, w100_253, w100_256, w100_258, w100_260, w100_261i, w100_261, w100_263, w100_265, w100_267, w100_268i, w100_268, w100_270, w100_272, w100_275, w100_276i, w100_276, w100_278, w100_279, w100_281, w100_283, w100_285, w100_288, w100_289, w100_291, w100_293, w100_295, w100_298, w100_301, w100_302, zr_z0, zr_uI, zr_uJ, isO_put, isOw_put, put_fst, okv_int, okv_long, okv_ref, okv_bool, okv_byte, cat1_unset, cat1_int, cat1_ref, cs_nil, cs_int, cs_ref, cs_long, cmpL_lt, cmpL_gt, cmpL_eq, sI_uI, sI_uJ, sI_uA, sI_uB, sJ_uI, sJ_uJ, sJ_uA, sJ_uB, sA_uI, sA_uJ, sA_uA, sA_uB, sB_uI, sB_uJ, sB_uA, sB_uB, sI_fA, sJ_fA, sA_fA, sB_fA, sI_z0, sJ_z0, sA_z0, sB_z0, Option.toList_some, Option.toList_none, List.cons_append, List.nil_append, true_and, and_true, false_and, and_false, or_false, false_or, or_true, true_or, not_true_eq_false, not_false_eq_true, ↓reduceIte, Nat.reduceAdd, Nat.reduceLeDiff, Nat.reduceEqDiff, Nat.reduceSub, Int32.reduceAdd, Int32.reduceSub, Int32.reduceMul, Int32.reduceToNatClampNeg, Int64.reduceAdd, Int64.reduceSub, Int64.reduceMul, Int64.reduceLT, Int32.reduceLT, Int32.reduceToInt, Nat.add_zero, Nat.zero_add, Nat.le_refl, eq_self, implies_true, ne_eq, e0, e1, e3, e4, A6, B6, O2]
      exact key _ _ _ _ _ _ _ _ _ (Iv_rq hI) rfl rfl rfl rfl rfl rfl rfl rfl
    by_cases e5 : op = 5
    · have A7 := fun (e : Int32) (Q : Option Value → AH → Prop) => lft (lw := lw) (H := H1 c a len f) (s := s) (s' := s) (Q := Q) hs (fun H Q => t7 (lw := lw) (H := H) (p := p) (s := s) (Q := Q) (a := e) hI)
      have B16 := fun (e : Int32) (s1 : St) (Q : Option Value → AH → Prop) => t16 (lw := lw) (H := ob (H1 c a len f) p s1) (p := q) (s := s) (Q := Q) (e := e) (Iv_b hI)
      have c10 : cntK s 10 = sI s 22 := by unfold cntK; simp +decide only [↓reduceIte]
      have hd := and_rg (x := x) (m := 7) (by decide)
      simp only [Int32.reduceToInt] at hd
      simp +decide only [w100_65, w100_67, w100_70, w100_71, w100_73, w100_76, w100_77, w100_79, w100_82, w100_85, w100_87, w100_88, w100_91, w100_93, w100_95, w100_96, w100_97, w100_98i, w100_98, w100_100, w100_101, w100_103, w100_106, w100_107, w100_109, w100_112, w100_115, w100_116, w100_117, w100_120, w100_122, w100_123, w100_126, w100_128, w100_130, w100_131, w100_133, w100_134i, w100_134, w100_136, w100_137, w100_139, w100_142, w100_143, w100_145, w100_148, w100_151, w100_152, w100_153, w100_156, w100_158, w100_159, w100_162, w100_164, w100_166, w100_167, w100_169, w100_170i, w100_170, w100_172, w100_173, w100_175, w100_178, w100_179, w100_181, w100_184, w100_187, w100_188, w100_189, w100_192, w100_194, w100_195, w100_198, w100_200, w100_202, w100_203i, w100_203, w100_205, w100_206, w100_208, w100_211i, w100_211, w100_213, w100_214, w100_216, w100_219i, w100_219, w100_221, w100_222i, w100_222, w100_226, w100_228, w100_231, w100_232, w100_233, w100_236i, w100_238, w100_241, w100_244, w100_246, w100_248, w100_251, w100_252, w100_253, w100_256, w100_258, w100_260, w100_261i, w100_261, w100_263, w100_265, w100_267, w100_268i, w100_268, w100_270, w100_272, w100_275, w100_276i, w100_276, w100_278, w100_279, w100_281, w100_283, w100_285, w100_288, w100_289, w100_291, w100_293, w100_295, w100_298, w100_301, w100_302, zr_z0, zr_uI, zr_uJ, isO_put, isOw_put, put_fst, okv_int, okv_long, okv_ref, okv_bool, okv_byte, cat1_unset, cat1_int, cat1_ref, cs_nil, cs_int, cs_ref, cs_long, cmpL_lt, cmpL_gt, cmpL_eq, sI_uI, sI_uJ, sI_uA, sI_uB, sJ_uI, sJ_uJ, sJ_uA, sJ_uB, sA_uI, sA_uJ, sA_uA, sA_uB, sB_uI, sB_uJ, sB_uA, sB_uB, sI_fA, sJ_fA, sA_fA, sB_fA, sI_z0, sJ_z0, sA_z0, sB_z0, Option.toList_some, Option.toList_none, List.cons_append, List.nil_append, true_and, and_true, false_and, and_false, or_false, false_or, or_true, true_or, not_true_eq_false, not_false_eq_true, ↓reduceIte, Nat.reduceAdd, Nat.reduceLeDiff, Nat.reduceEqDiff, Nat.reduceSub, Int32.reduceAdd, Int32.reduceSub, Int32.reduceMul, Int32.reduceToNatClampNeg, Int64.reduceAdd, Int64.reduceSub, Int64.reduceMul, Int64.reduceLT, Int32.reduceLT, Int32.reduceToInt, Nat.add_zero, Nat.zero_add, Nat.le_refl, eq_self, implies_true, ne_eq, e0, e1, e3, e4, e5, A7, B16, O2, c10]
      generalize x &&& 7 = d at *
      have hc : cl 0 8 d = d := by
        unfold cl; rw [if_neg (by rw [lt32]; simp only [Int32.reduceToInt]; omega), if_neg (by rw [lt32]; simp only [Int32.reduceToInt]; omega)]
      rw [hc, li (d := d) hs (by omega) d.toInt.toNat 0 s hI (by simp only [Int32.reduceToInt]; omega) (by decide)]
      simp +decide only [w100_65, w100_67, w100_70, w100_71, w100_73, w100_76, w100_77, w100_79, w100_82, w100_85, w100_87, w100_88, w100_91, w100_93, w100_95, w100_96, w100_97, w100_98i, w100_98, w100_100, w100_101, w100_103, w100_106, w100_107, w100_109, w100_112, w100_115, w100_116, w100_117, w100_120, w100_122, w100_123, w100_126, w100_128, w100_130, w100_131, w100_133, w100_134i, w100_134, w100_136, w100_137, w100_139, w100_142, w100_143, w100_145, w100_148, w100_151, w100_152, w100_153, w100_156, w100_158, w100_159, w100_162, w100_164, w100_166, w100_167, w100_169, w100_170i, w100_170, w100_172, w100_173, w100_175, w100_178, w100_179, w100_181, w100_184, w100_187, w100_188, w100_189, w100_192, w100_194, w100_195, w100_198, w100_200, w100_202, w100_203i, w100_203, w100_205, w100_206, w100_208, w100_211i, w100_211, w100_213, w100_214, w100_216, w100_219i, w100_219, w100_221, w100_222i, w100_222, w100_226, w100_228, w100_231, w100_232, w100_233, w100_236i, w100_238, w100_241, w100_244, w100_246, w100_248, w100_251, w100_252, w100_253, w100_256, w100_258, w100_260, w100_261i, w100_261, w100_263, w100_265, w100_267, w100_268i, w100_268, w100_270, w100_272, w100_275, w100_276i, w100_276, w100_278, w100_279, w100_281, w100_283, w100_285, w100_288, w100_289, w100_291, w100_293, w100_295, w100_298, w100_301, w100_302, zr_z0, zr_uI, zr_uJ, isO_put, isOw_put, put_fst, okv_int, okv_long, okv_ref, okv_bool, okv_byte, cat1_unset, cat1_int, cat1_ref, cs_nil, cs_int, cs_ref, cs_long, cmpL_lt, cmpL_gt, cmpL_eq, sI_uI, sI_uJ, sI_uA, sI_uB, sJ_uI, sJ_uJ, sJ_uA, sJ_uB, sA_uI, sA_uJ, sA_uA, sA_uB, sB_uI, sB_uJ, sB_uA, sB_uB, sI_fA, sJ_fA, sA_fA, sB_fA, sI_z0, sJ_z0, sA_z0, sB_z0, Option.toList_some, Option.toList_none, List.cons_append, List.nil_append, true_and, and_true, false_and, and_false, or_false, false_or, or_true, true_or, not_true_eq_false, not_false_eq_true, ↓reduceIte, Nat.reduceAdd, Nat.reduceLeDiff, Nat.reduceEqDiff, Nat.reduceSub, Int32.reduceAdd, Int32.reduceSub, Int32.reduceMul, Int32.reduceToNatClampNeg, Int64.reduceAdd, Int64.reduceSub, Int64.reduceMul, Int64.reduceLT, Int32.reduceLT, Int32.reduceToInt, Nat.add_zero, Nat.zero_add, Nat.le_refl, eq_self, implies_true, ne_eq]
      exact key _ _ _ _ _ _ _ _ _ (Iv_run _ _ hI) rfl rfl rfl rfl rfl rfl rfl rfl
    · have A4 := fun (u v w : Int32) (Q : Option Value → AH → Prop) => lft (lw := lw) (H := H1 c a len f) (s := s) (s' := s) (Q := Q) hs (fun H Q => t4' (lw := lw) (H := H) (p := p) (s := s) (Q := Q) (a := u) (b := v) (w := w) hI.1.2.1)
      have B4 := fun (u v w : Int32) (s1 : St) (Q : Option Value → AH → Prop) => t4' (lw := lw) (H := ob (H1 c a len f) p s1) (p := q) (s := s) (Q := Q) (a := u) (b := v) (w := w) hI.1.2.1
      simp +decide only [w100_65, w100_67, w100_70, w100_71, w100_73, w100_76, w100_77, w100_79, w100_82, w100_85, w100_87, w100_88, w100_91, w100_93, w100_95, w100_96, w100_97, w100_98i, w100_98, w100_100, w100_101, w100_103, w100_106, w100_107, w100_109, w100_112, w100_115, w100_116, w100_117, w100_120, w100_122, w100_123, w100_126, w100_128, w100_130, w100_131, w100_133, w100_134i, w100_134, w100_136, w100_137, w100_139, w100_142, w100_143, w100_145, w100_148, w100_151, w100_152, w100_153, w100_156, w100_158, w100_159, w100_162, w100_164, w100_166, w100_167, w100_169, w100_170i, w100_170, w100_172, w100_173, w100_175, w100_178, w100_179, w100_181, w100_184, w100_187, w100_188, w100_189, w100_192, w100_194, w100_195, w100_198, w100_200, w100_202, w100_203i, w100_203, w100_205, w100_206, w100_208, w100_211i, w100_211, w100_213, w100_214, w100_216, w100_219i, w100_219, w100_221, w100_222i, w100_222, w100_226, w100_228, w100_231, w100_232, w100_233, w100_236i, w100_238, w100_241, w100_244, w100_246, w100_248, w100_251, w100_252, w100_253, w100_256, w100_258, w100_260, w100_261i, w100_261, w100_263, w100_265, w100_267, w100_268i, w100_268, w100_270, w100_272, w100_275, w100_276i, w100_276, w100_278, w100_279, w100_281, w100_283, w100_285, w100_288, w100_289, w100_291, w100_293, w100_295, w100_298, w100_301, w100_302, zr_z0, zr_uI, zr_uJ, isO_put, isOw_put, put_fst, okv_int, okv_long, okv_ref, okv_bool, okv_byte, cat1_unset, cat1_int, cat1_ref, cs_nil, cs_int, cs_ref, cs_long, cmpL_lt, cmpL_gt, cmpL_eq, sI_uI, sI_uJ, sI_uA, sI_uB, sJ_uI, sJ_uJ, sJ_uA, sJ_uB, sA_uI, sA_uJ, sA_uA, sA_uB, sB_uI, sB_uJ, sB_uA, sB_uB, sI_fA, sJ_fA, sA_fA, sB_fA, sI_z0, sJ_z0, sA_z0, sB_z0, Option.toList_some, Option.toList_none, List.cons_append, List.nil_append, true_and, and_true, false_and, and_false, or_false, false_or, or_true, true_or, not_true_eq_false, not_false_eq_true, ↓reduceIte, Nat.reduceAdd, Nat.reduceLeDiff, Nat.reduceEqDiff, Nat.reduceSub, Int32.reduceAdd, Int32.reduceSub, Int32.reduceMul, Int32.reduceToNatClampNeg, Int64.reduceAdd, Int64.reduceSub, Int64.reduceMul, Int64.reduceLT, Int32.reduceLT, Int32.reduceToInt, Nat.add_zero, Nat.zero_add, Nat.le_refl, eq_self, implies_true, ne_eq, e0, e1, e3, e4, e5, A4, B4, O2]
      exact key _ _ _ _ _ _ _ _ _ (Iv_ae hI) rfl rfl rfl rfl rfl rfl rfl rfl
theorem put_c {c : Nat} : (c, (ob H p s).2) = ob (c, H.2) p s := rfl
theorem H1_c {c N a len : Nat} {f : Nat → Int32} : (c, (H1 N a len f).2) = H1 c a len f := rfl
set_option maxRecDepth 100000 in
theorem law_ok (N a len : Nat) (f : Nat → Int32) (ha : a < N) (hl : len ≤ 260) : Cl (pj lw) 100 [.ref a] (H1 N a len f) (fun v _ => v = some (.int 1)) := by
  rw [c100]
  have e1 : (H1 N a len f).1 = N := rfl
  simp +decide only [w100_0, w100_3, w100_4, w100_6, w100_7, w100_8, w100_9, w100_12, w100_13, w100_16, w100_17, w100_19, w100_20, w100_21, w100_22, w100_25, w100_26, w100_27, zr_z0, zr_uI, zr_uJ, isO_put, isOw_put, put_fst, okv_int, okv_long, okv_ref, okv_bool, okv_byte, cat1_unset, cat1_int, cat1_ref, cs_nil, cs_int, cs_ref, cs_long, cmpL_lt, cmpL_gt, cmpL_eq, sI_uI, sI_uJ, sI_uA, sI_uB, sJ_uI, sJ_uJ, sJ_uA, sJ_uB, sA_uI, sA_uJ, sA_uA, sA_uB, sB_uI, sB_uJ, sB_uA, sB_uB, sI_fA, sJ_fA, sA_fA, sB_fA, sI_z0, sJ_z0, sA_z0, sB_z0, Option.toList_some, Option.toList_none, List.cons_append, List.nil_append, true_and, and_true, false_and, and_false, or_false, false_or, or_true, true_or, not_true_eq_false, not_false_eq_true, ↓reduceIte, Nat.reduceAdd, Nat.reduceLeDiff, Nat.reduceEqDiff, Nat.reduceSub, Int32.reduceAdd, Int32.reduceSub, Int32.reduceMul, Int32.reduceToNatClampNeg, Int64.reduceAdd, Int64.reduceSub, Int64.reduceMul, Int64.reduceLT, Int32.reduceLT, Int32.reduceToInt, Nat.add_zero, Nat.zero_add, Nat.le_refl, eq_self, implies_true, ne_eq, mkO_ob, t1, e1]
  simp only [put_c, H1_c]
  exact lp (p := N) (q := N + 15) ha (by omega) (by omega) (len + 4) 0 _ Iv_ini (by decide) (by simp only [Int32.reduceToInt]; omega) (by simp only [Int32.reduceToInt]; omega)
end X9

end Jvm.JX.Lw
namespace Jvm.Pilot.@@N@@
open Jvm Jvm.ClassFile Sem Op Lib Jvm.Free Jvm.Stand Jvm.LawKit Jvm.RoadKit Bundle Jvm.Pilot.@@N@@.Jvm.D Jvm.JX Jvm.JX.Pj Jvm.JX.Lw
def nmL : List (Nat × MethodName) := [(1, ⟨"EpidemicTrace", "<init>", "(IIII)V"⟩), (2, ⟨"EpidemicTrace", "seedRandom", "(I)V"⟩), (3, ⟨"EpidemicTrace", "setCapacity", "(I)I"⟩), (4, ⟨"EpidemicTrace", "addEdge", "(III)I"⟩), (5, ⟨"EpidemicTrace", "infect", "(I)Z"⟩), (6, ⟨"EpidemicTrace", "requestTest", "(I)Z"⟩), (7, ⟨"EpidemicTrace", "run", "(I)I"⟩), (8, ⟨"EpidemicTrace", "compartment", "(I)I"⟩), (9, ⟨"EpidemicTrace", "timer", "(I)I"⟩), (10, ⟨"EpidemicTrace", "quarantineLeft", "(I)I"⟩), (11, ⟨"EpidemicTrace", "flags", "(I)I"⟩), (12, ⟨"EpidemicTrace", "source", "(I)I"⟩), (13, ⟨"EpidemicTrace", "infectionDay", "(I)I"⟩), (14, ⟨"EpidemicTrace", "generation", "(I)I"⟩), (15, ⟨"EpidemicTrace", "secondaryCases", "(I)I"⟩), (16, ⟨"EpidemicTrace", "count", "(I)I"⟩), (17, ⟨"EpidemicTrace", "clamp", "(III)I"⟩), (18, ⟨"EpidemicTrace", "valid", "(I)Z"⟩), (19, ⟨"EpidemicTrace", "draw", "()I"⟩), (20, ⟨"EpidemicTrace", "edgeExists", "(II)Z"⟩), (21, ⟨"EpidemicTrace", "simulateDay", "()V"⟩), (22, ⟨"EpidemicTrace", "snapshot", "()V"⟩), (23, ⟨"EpidemicTrace", "canInfect", "(II)Z"⟩), (24, ⟨"EpidemicTrace", "transmit", "()V"⟩), (25, ⟨"EpidemicTrace", "tryInfect", "(III)V"⟩), (26, ⟨"EpidemicTrace", "progress", "()V"⟩), (27, ⟨"EpidemicTrace", "quarantineTick", "()V"⟩), (28, ⟨"EpidemicTrace", "testing", "()V"⟩), (29, ⟨"EpidemicTrace", "testOne", "(I)V"⟩), (30, ⟨"EpidemicTrace", "trace", "(I)V"⟩), (31, ⟨"EpidemicTrace", "countCompartment", "(I)I"⟩), (32, ⟨"EpidemicTrace", "countQuarantined", "()I"⟩), (33, ⟨"EpidemicTrace", "countFlag", "(Z)I"⟩), (34, ⟨"EpidemicTrace", "countInfected", "()I"⟩), (100, ⟨"EpidemicTraceL7", "law", "([I)Z"⟩), (103, ⟨"EpidemicTraceL7", "same", "(LEpidemicTrace;LEpidemicTrace;)Z"⟩)]
def nm (m : Nat) : MethodName := (nmL.lookup m).getD ⟨"", "", ""⟩
def btL : List (Nat × ByteArray) := [(1, prog_1_method_1_code), (2, prog_1_method_2_code), (3, prog_1_method_3_code), (4, prog_1_method_4_code), (5, prog_1_method_5_code), (6, prog_1_method_6_code), (7, prog_1_method_7_code), (8, prog_1_method_8_code), (9, prog_1_method_9_code), (10, prog_1_method_10_code), (11, prog_1_method_11_code), (12, prog_1_method_12_code), (13, prog_1_method_13_code), (14, prog_1_method_14_code), (15, prog_1_method_15_code), (16, prog_1_method_16_code), (17, prog_1_method_17_code), (18, prog_1_method_18_code), (19, prog_1_method_19_code), (20, prog_1_method_20_code), (21, prog_1_method_21_code), (22, prog_1_method_22_code), (23, prog_1_method_23_code), (24, prog_1_method_24_code), (25, prog_1_method_25_code), (26, prog_1_method_26_code), (27, prog_1_method_27_code), (28, prog_1_method_28_code), (29, prog_1_method_29_code), (30, prog_1_method_30_code), (31, prog_1_method_31_code), (32, prog_1_method_32_code), (33, prog_1_method_33_code), (34, prog_1_method_34_code), (100, code), (103, method_3_code)]
def bt (m : Nat) : ByteArray := (btL.lookup m).getD ⟨#[]⟩
def fnL : List (String × String) := [("n", "I"), ("latent", "I"), ("infectious", "I"), ("qdays", "I"), ("comp", "[I"), ("timer", "[I"), ("qleft", "[I"), ("detected", "[Z"), ("pending", "[Z"), ("src", "[I"), ("infDay", "[I"), ("gen", "[I"), ("snapComp", "[I"), ("snapQ", "[Z"), ("selected", "[I"), ("edgeA", "[I"), ("edgeB", "[I"), ("edgeP", "[I"), ("edgeCount", "I"), ("cap", "I"), ("tests", "I"), ("positives", "I"), ("day", "I"), ("g", "I")]
def fn (k : Nat) : String × String := fnL.getD k ("", "")
def RL : List Nat := [1, 2, 3, 4, 5, 6, 7, 8, 9, 10, 11, 12, 13, 14, 15, 16, 17, 18, 19, 20, 21, 22, 23, 24, 25, 26, 27, 28, 29, 30, 31, 32, 33, 34, 100, 103]
def FS : List Nat := [0, 1, 2, 3, 4, 5, 6, 7, 8, 9, 10, 11, 12, 13, 14, 15, 16, 17, 18, 19, 20, 21, 22, 23]
def WF : List Nat := [0, 1, 2, 3, 18, 19, 20, 21, 22, 23]
def FL : List (Nat × Nat × Nat) := [(0, 7, 4), (0, 13, 5), (0, 16, 6), (0, 19, 7), (0, 23, 8), (0, 26, 9), (0, 29, 10), (0, 32, 11), (0, 35, 12), (0, 38, 13), (0, 41, 14), (0, 44, 15), (0, 47, 16), (0, 50, 17), (0, 57, 0), (0, 61, 1), (0, 64, 2), (0, 67, 3), (0, 70, 18), (0, 73, 19), (0, 76, 20), (0, 79, 21), (0, 82, 22), (0, 85, 23)]
def ML : List (Nat × Nat × Nat) := [(0, 53, 17), (0, 88, 18), (0, 92, 20), (0, 96, 21), (0, 99, 31), (0, 103, 32), (0, 107, 33), (0, 111, 34), (0, 116, 22), (0, 119, 24), (0, 122, 26), (0, 125, 27), (0, 128, 28), (0, 131, 23), (0, 134, 25), (0, 138, 19), (0, 141, 29), (0, 145, 30), (1, 9, 1), (1, 12, 2), (1, 16, 3), (1, 21, 5), (1, 25, 6), (1, 28, 7), (1, 31, 16), (1, 34, 4), (1, 38, 103), (1, 44, 8), (1, 47, 9), (1, 50, 10), (1, 53, 11), (1, 56, 12), (1, 59, 13), (1, 62, 14), (1, 65, 15)]
def KI : List (Nat × Nat × Int) := [(0, 114, 1103515245), (0, 115, 16777215), (1, 20, 2147483647)]
def KJ : List (Nat × Nat × Int) := []
def ATL : List FieldType := [.boolean, .int]
def cn (j : Nat) : String := if j = 0 then "EpidemicTrace" else "EpidemicTraceL7"
def own (m : Nat) : Nat := if m < 100 then 0 else 1
def ini (m : Nat) : Bool := m == 1
def rowsOf (m : Nat) : List Jvm.JX.Row := if m < 100 then prows.getD m [] else lrows.getD (m - 100) []
theorem hFL : ∀ t ∈ FL, t.2.2 ∈ FS ∧ Jvm.Cond.fieldLink (cn t.1) t.2.1 "EpidemicTrace" (fn t.2.2).1 (fn t.2.2).2 ∈ tables_1 := (faS ⟨by decide, (List.mem_of_getElem? (i := 10) rfl)⟩ (faS ⟨by decide, (List.mem_of_getElem? (i := 12) rfl)⟩ (faS ⟨by decide, (List.mem_of_getElem? (i := 14) rfl)⟩ (faS ⟨by decide, (List.mem_of_getElem? (i := 17) rfl)⟩ (faS ⟨by decide, (List.mem_of_getElem? (i := 19) rfl)⟩ (faS ⟨by decide, (List.mem_of_getElem? (i := 21) rfl)⟩ (faS ⟨by decide, (List.mem_of_getElem? (i := 23) rfl)⟩ (faS ⟨by decide, (List.mem_of_getElem? (i := 25) rfl)⟩ (faS ⟨by decide, (List.mem_of_getElem? (i := 27) rfl)⟩ (faS ⟨by decide, (List.mem_of_getElem? (i := 29) rfl)⟩ (faS ⟨by decide, (List.mem_of_getElem? (i := 31) rfl)⟩ (faS ⟨by decide, (List.mem_of_getElem? (i := 33) rfl)⟩ (faS ⟨by decide, (List.mem_of_getElem? (i := 35) rfl)⟩ (faS ⟨by decide, (List.mem_of_getElem? (i := 37) rfl)⟩ (faS ⟨by decide, (List.mem_of_getElem? (i := 43) rfl)⟩ (faS ⟨by decide, (List.mem_of_getElem? (i := 45) rfl)⟩ (faS ⟨by decide, (List.mem_of_getElem? (i := 47) rfl)⟩ (faS ⟨by decide, (List.mem_of_getElem? (i := 49) rfl)⟩ (faS ⟨by decide, (List.mem_of_getElem? (i := 51) rfl)⟩ (faS ⟨by decide, (List.mem_of_getElem? (i := 53) rfl)⟩ (faS ⟨by decide, (List.mem_of_getElem? (i := 55) rfl)⟩ (faS ⟨by decide, (List.mem_of_getElem? (i := 57) rfl)⟩ (faS ⟨by decide, (List.mem_of_getElem? (i := 59) rfl)⟩ (faS ⟨by decide, (List.mem_of_getElem? (i := 61) rfl)⟩ fa0))))))))))))))))))))))))
theorem hWF : ∀ k ∈ WF, Jvm.Cond.lays "EpidemicTrace" "EpidemicTrace" (fn k).1 (fn k).2 ∈ tables_1 := (faS (List.mem_of_getElem? (i := 44) rfl) (faS (List.mem_of_getElem? (i := 46) rfl) (faS (List.mem_of_getElem? (i := 48) rfl) (faS (List.mem_of_getElem? (i := 50) rfl) (faS (List.mem_of_getElem? (i := 52) rfl) (faS (List.mem_of_getElem? (i := 54) rfl) (faS (List.mem_of_getElem? (i := 56) rfl) (faS (List.mem_of_getElem? (i := 58) rfl) (faS (List.mem_of_getElem? (i := 60) rfl) (faS (List.mem_of_getElem? (i := 62) rfl) fa0))))))))))
theorem hML : ∀ t ∈ ML, t.2.2 ∈ RL ∧ Jvm.Cond.methodLink (cn t.1) t.2.1 (nm t.2.2) ∈ tables_1 := (faS ⟨by decide, (List.mem_of_getElem? (i := 39) rfl)⟩ (faS ⟨by decide, (List.mem_of_getElem? (i := 69) rfl)⟩ (faS ⟨by decide, (List.mem_of_getElem? (i := 153) rfl)⟩ (faS ⟨by decide, (List.mem_of_getElem? (i := 167) rfl)⟩ (faS ⟨by decide, (List.mem_of_getElem? (i := 82) rfl)⟩ (faS ⟨by decide, (List.mem_of_getElem? (i := 86) rfl)⟩ (faS ⟨by decide, (List.mem_of_getElem? (i := 90) rfl)⟩ (faS ⟨by decide, (List.mem_of_getElem? (i := 94) rfl)⟩ (faS ⟨by decide, (List.mem_of_getElem? (i := 171) rfl)⟩ (faS ⟨by decide, (List.mem_of_getElem? (i := 175) rfl)⟩ (faS ⟨by decide, (List.mem_of_getElem? (i := 183) rfl)⟩ (faS ⟨by decide, (List.mem_of_getElem? (i := 187) rfl)⟩ (faS ⟨by decide, (List.mem_of_getElem? (i := 191) rfl)⟩ (faS ⟨by decide, (List.mem_of_getElem? (i := 179) rfl)⟩ (faS ⟨by decide, (List.mem_of_getElem? (i := 195) rfl)⟩ (faS ⟨by decide, (List.mem_of_getElem? (i := 199) rfl)⟩ (faS ⟨by decide, (List.mem_of_getElem? (i := 205) rfl)⟩ (faS ⟨by decide, (List.mem_of_getElem? (i := 209) rfl)⟩ (faS ⟨by decide, (List.mem_of_getElem? (i := 3) rfl)⟩ (faS ⟨by decide, (List.mem_of_getElem? (i := 143) rfl)⟩ (faS ⟨by decide, (List.mem_of_getElem? (i := 138) rfl)⟩ (faS ⟨by decide, (List.mem_of_getElem? (i := 64) rfl)⟩ (faS ⟨by decide, (List.mem_of_getElem? (i := 162) rfl)⟩ (faS ⟨by decide, (List.mem_of_getElem? (i := 157) rfl)⟩ (faS ⟨by decide, (List.mem_of_getElem? (i := 77) rfl)⟩ (faS ⟨by decide, (List.mem_of_getElem? (i := 148) rfl)⟩ (faS ⟨by decide, (List.mem_of_getElem? (i := 73) rfl)⟩ (faS ⟨by decide, (List.mem_of_getElem? (i := 98) rfl)⟩ (faS ⟨by decide, (List.mem_of_getElem? (i := 103) rfl)⟩ (faS ⟨by decide, (List.mem_of_getElem? (i := 108) rfl)⟩ (faS ⟨by decide, (List.mem_of_getElem? (i := 113) rfl)⟩ (faS ⟨by decide, (List.mem_of_getElem? (i := 118) rfl)⟩ (faS ⟨by decide, (List.mem_of_getElem? (i := 123) rfl)⟩ (faS ⟨by decide, (List.mem_of_getElem? (i := 128) rfl)⟩ (faS ⟨by decide, (List.mem_of_getElem? (i := 133) rfl)⟩ fa0)))))))))))))))))))))))))))))))))))
theorem hKI : ∀ t ∈ KI, Jvm.Cond.constant (cn t.1) t.2.1 (Int32.ofInt t.2.2) ∈ tables_1 := (faS (List.mem_of_getElem? (i := 203) rfl) (faS (List.mem_of_getElem? (i := 204) rfl) (faS (List.mem_of_getElem? (i := 63) rfl) fa0)))
theorem hKJ : ∀ t ∈ KJ, Jvm.Cond.constantLong (cn t.1) t.2.1 (Int64.ofInt t.2.2) ∈ tables_1 := fa0
theorem hAT : ∀ t ∈ ATL, Jvm.Cond.arrayClass t ∈ tables_1 := (faS (List.mem_of_getElem? (i := 16) rfl) (faS (List.mem_of_getElem? (i := 9) rfl) fa0))
theorem hrows : RL.all (fun m => (rowsOf m).all (rowOne FL ML KI KJ ATL WF 24 7 bt own ini m)) = true := by decide +kernel
theorem cal1 : CalOk (pj lw) tables_1 "EpidemicTrace" nm bt 1 := ⟨(List.mem_of_getElem? (i := 5) rfl), (List.mem_of_getElem? (i := 2) rfl), ⟨[.int, .int, .int, .int], none, by decide +kernel, rfl⟩, fun h => absurd h (by decide), fun _ => ⟨rfl, (List.mem_of_getElem? (i := 4) rfl)⟩, fun h => absurd h (by decide), fun h => absurd h (by decide), fun _ => ⟨rfl, rfl⟩⟩
theorem cal2 : CalOk (pj lw) tables_1 "EpidemicTrace" nm bt 2 := ⟨(List.mem_of_getElem? (i := 147) rfl), (List.mem_of_getElem? (i := 2) rfl), ⟨[.int], none, by decide +kernel, rfl⟩, fun h => absurd h (by decide), fun _ => ⟨rfl, (List.mem_of_getElem? (i := 145) rfl)⟩, fun _ => ⟨(List.mem_of_getElem? (i := 144) rfl), (List.mem_of_getElem? (i := 146) rfl)⟩, fun h => absurd h (by decide), fun h => absurd h (by decide)⟩
theorem cal3 : CalOk (pj lw) tables_1 "EpidemicTrace" nm bt 3 := ⟨(List.mem_of_getElem? (i := 142) rfl), (List.mem_of_getElem? (i := 2) rfl), ⟨[.int], some .int, by decide +kernel, rfl⟩, fun h => absurd h (by decide), fun _ => ⟨rfl, (List.mem_of_getElem? (i := 140) rfl)⟩, fun _ => ⟨(List.mem_of_getElem? (i := 139) rfl), (List.mem_of_getElem? (i := 141) rfl)⟩, fun h => absurd h (by decide), fun h => absurd h (by decide)⟩
theorem cal4 : CalOk (pj lw) tables_1 "EpidemicTrace" nm bt 4 := ⟨(List.mem_of_getElem? (i := 152) rfl), (List.mem_of_getElem? (i := 2) rfl), ⟨[.int, .int, .int], some .int, by decide +kernel, rfl⟩, fun h => absurd h (by decide), fun _ => ⟨rfl, (List.mem_of_getElem? (i := 150) rfl)⟩, fun _ => ⟨(List.mem_of_getElem? (i := 149) rfl), (List.mem_of_getElem? (i := 151) rfl)⟩, fun h => absurd h (by decide), fun h => absurd h (by decide)⟩
theorem cal5 : CalOk (pj lw) tables_1 "EpidemicTrace" nm bt 5 := ⟨(List.mem_of_getElem? (i := 68) rfl), (List.mem_of_getElem? (i := 2) rfl), ⟨[.int], some .boolean, by decide +kernel, rfl⟩, fun h => absurd h (by decide), fun _ => ⟨rfl, (List.mem_of_getElem? (i := 66) rfl)⟩, fun _ => ⟨(List.mem_of_getElem? (i := 65) rfl), (List.mem_of_getElem? (i := 67) rfl)⟩, fun h => absurd h (by decide), fun h => absurd h (by decide)⟩
theorem cal6 : CalOk (pj lw) tables_1 "EpidemicTrace" nm bt 6 := ⟨(List.mem_of_getElem? (i := 166) rfl), (List.mem_of_getElem? (i := 2) rfl), ⟨[.int], some .boolean, by decide +kernel, rfl⟩, fun h => absurd h (by decide), fun _ => ⟨rfl, (List.mem_of_getElem? (i := 164) rfl)⟩, fun _ => ⟨(List.mem_of_getElem? (i := 163) rfl), (List.mem_of_getElem? (i := 165) rfl)⟩, fun h => absurd h (by decide), fun h => absurd h (by decide)⟩
theorem cal7 : CalOk (pj lw) tables_1 "EpidemicTrace" nm bt 7 := ⟨(List.mem_of_getElem? (i := 161) rfl), (List.mem_of_getElem? (i := 2) rfl), ⟨[.int], some .int, by decide +kernel, rfl⟩, fun h => absurd h (by decide), fun _ => ⟨rfl, (List.mem_of_getElem? (i := 159) rfl)⟩, fun _ => ⟨(List.mem_of_getElem? (i := 158) rfl), (List.mem_of_getElem? (i := 160) rfl)⟩, fun h => absurd h (by decide), fun h => absurd h (by decide)⟩
theorem cal8 : CalOk (pj lw) tables_1 "EpidemicTrace" nm bt 8 := ⟨(List.mem_of_getElem? (i := 102) rfl), (List.mem_of_getElem? (i := 2) rfl), ⟨[.int], some .int, by decide +kernel, rfl⟩, fun h => absurd h (by decide), fun _ => ⟨rfl, (List.mem_of_getElem? (i := 100) rfl)⟩, fun _ => ⟨(List.mem_of_getElem? (i := 99) rfl), (List.mem_of_getElem? (i := 101) rfl)⟩, fun h => absurd h (by decide), fun h => absurd h (by decide)⟩
theorem cal9 : CalOk (pj lw) tables_1 "EpidemicTrace" nm bt 9 := ⟨(List.mem_of_getElem? (i := 107) rfl), (List.mem_of_getElem? (i := 2) rfl), ⟨[.int], some .int, by decide +kernel, rfl⟩, fun h => absurd h (by decide), fun _ => ⟨rfl, (List.mem_of_getElem? (i := 105) rfl)⟩, fun _ => ⟨(List.mem_of_getElem? (i := 104) rfl), (List.mem_of_getElem? (i := 106) rfl)⟩, fun h => absurd h (by decide), fun h => absurd h (by decide)⟩
theorem cal10 : CalOk (pj lw) tables_1 "EpidemicTrace" nm bt 10 := ⟨(List.mem_of_getElem? (i := 112) rfl), (List.mem_of_getElem? (i := 2) rfl), ⟨[.int], some .int, by decide +kernel, rfl⟩, fun h => absurd h (by decide), fun _ => ⟨rfl, (List.mem_of_getElem? (i := 110) rfl)⟩, fun _ => ⟨(List.mem_of_getElem? (i := 109) rfl), (List.mem_of_getElem? (i := 111) rfl)⟩, fun h => absurd h (by decide), fun h => absurd h (by decide)⟩
theorem cal11 : CalOk (pj lw) tables_1 "EpidemicTrace" nm bt 11 := ⟨(List.mem_of_getElem? (i := 117) rfl), (List.mem_of_getElem? (i := 2) rfl), ⟨[.int], some .int, by decide +kernel, rfl⟩, fun h => absurd h (by decide), fun _ => ⟨rfl, (List.mem_of_getElem? (i := 115) rfl)⟩, fun _ => ⟨(List.mem_of_getElem? (i := 114) rfl), (List.mem_of_getElem? (i := 116) rfl)⟩, fun h => absurd h (by decide), fun h => absurd h (by decide)⟩
theorem cal12 : CalOk (pj lw) tables_1 "EpidemicTrace" nm bt 12 := ⟨(List.mem_of_getElem? (i := 122) rfl), (List.mem_of_getElem? (i := 2) rfl), ⟨[.int], some .int, by decide +kernel, rfl⟩, fun h => absurd h (by decide), fun _ => ⟨rfl, (List.mem_of_getElem? (i := 120) rfl)⟩, fun _ => ⟨(List.mem_of_getElem? (i := 119) rfl), (List.mem_of_getElem? (i := 121) rfl)⟩, fun h => absurd h (by decide), fun h => absurd h (by decide)⟩
theorem cal13 : CalOk (pj lw) tables_1 "EpidemicTrace" nm bt 13 := ⟨(List.mem_of_getElem? (i := 127) rfl), (List.mem_of_getElem? (i := 2) rfl), ⟨[.int], some .int, by decide +kernel, rfl⟩, fun h => absurd h (by decide), fun _ => ⟨rfl, (List.mem_of_getElem? (i := 125) rfl)⟩, fun _ => ⟨(List.mem_of_getElem? (i := 124) rfl), (List.mem_of_getElem? (i := 126) rfl)⟩, fun h => absurd h (by decide), fun h => absurd h (by decide)⟩
theorem cal14 : CalOk (pj lw) tables_1 "EpidemicTrace" nm bt 14 := ⟨(List.mem_of_getElem? (i := 132) rfl), (List.mem_of_getElem? (i := 2) rfl), ⟨[.int], some .int, by decide +kernel, rfl⟩, fun h => absurd h (by decide), fun _ => ⟨rfl, (List.mem_of_getElem? (i := 130) rfl)⟩, fun _ => ⟨(List.mem_of_getElem? (i := 129) rfl), (List.mem_of_getElem? (i := 131) rfl)⟩, fun h => absurd h (by decide), fun h => absurd h (by decide)⟩
theorem cal15 : CalOk (pj lw) tables_1 "EpidemicTrace" nm bt 15 := ⟨(List.mem_of_getElem? (i := 137) rfl), (List.mem_of_getElem? (i := 2) rfl), ⟨[.int], some .int, by decide +kernel, rfl⟩, fun h => absurd h (by decide), fun _ => ⟨rfl, (List.mem_of_getElem? (i := 135) rfl)⟩, fun _ => ⟨(List.mem_of_getElem? (i := 134) rfl), (List.mem_of_getElem? (i := 136) rfl)⟩, fun h => absurd h (by decide), fun h => absurd h (by decide)⟩
theorem cal16 : CalOk (pj lw) tables_1 "EpidemicTrace" nm bt 16 := ⟨(List.mem_of_getElem? (i := 81) rfl), (List.mem_of_getElem? (i := 2) rfl), ⟨[.int], some .int, by decide +kernel, rfl⟩, fun h => absurd h (by decide), fun _ => ⟨rfl, (List.mem_of_getElem? (i := 79) rfl)⟩, fun _ => ⟨(List.mem_of_getElem? (i := 78) rfl), (List.mem_of_getElem? (i := 80) rfl)⟩, fun h => absurd h (by decide), fun h => absurd h (by decide)⟩
theorem cal17 : CalOk (pj lw) tables_1 "EpidemicTrace" nm bt 17 := ⟨(List.mem_of_getElem? (i := 42) rfl), (List.mem_of_getElem? (i := 2) rfl), ⟨[.int, .int, .int], some .int, by decide +kernel, rfl⟩, fun h => absurd h (by decide), fun _ => ⟨rfl, (List.mem_of_getElem? (i := 40) rfl)⟩, fun h => absurd h (by decide), fun _ => (List.mem_of_getElem? (i := 41) rfl), fun h => absurd h (by decide)⟩
theorem cal18 : CalOk (pj lw) tables_1 "EpidemicTrace" nm bt 18 := ⟨(List.mem_of_getElem? (i := 72) rfl), (List.mem_of_getElem? (i := 2) rfl), ⟨[.int], some .boolean, by decide +kernel, rfl⟩, fun h => absurd h (by decide), fun _ => ⟨rfl, (List.mem_of_getElem? (i := 70) rfl)⟩, fun h => absurd h (by decide), fun _ => (List.mem_of_getElem? (i := 71) rfl), fun h => absurd h (by decide)⟩
theorem cal19 : CalOk (pj lw) tables_1 "EpidemicTrace" nm bt 19 := ⟨(List.mem_of_getElem? (i := 202) rfl), (List.mem_of_getElem? (i := 2) rfl), ⟨[], some .int, by decide +kernel, rfl⟩, fun h => absurd h (by decide), fun _ => ⟨rfl, (List.mem_of_getElem? (i := 200) rfl)⟩, fun h => absurd h (by decide), fun _ => (List.mem_of_getElem? (i := 201) rfl), fun h => absurd h (by decide)⟩
theorem cal20 : CalOk (pj lw) tables_1 "EpidemicTrace" nm bt 20 := ⟨(List.mem_of_getElem? (i := 156) rfl), (List.mem_of_getElem? (i := 2) rfl), ⟨[.int, .int], some .boolean, by decide +kernel, rfl⟩, fun h => absurd h (by decide), fun _ => ⟨rfl, (List.mem_of_getElem? (i := 154) rfl)⟩, fun h => absurd h (by decide), fun _ => (List.mem_of_getElem? (i := 155) rfl), fun h => absurd h (by decide)⟩
theorem cal21 : CalOk (pj lw) tables_1 "EpidemicTrace" nm bt 21 := ⟨(List.mem_of_getElem? (i := 170) rfl), (List.mem_of_getElem? (i := 2) rfl), ⟨[], none, by decide +kernel, rfl⟩, fun h => absurd h (by decide), fun _ => ⟨rfl, (List.mem_of_getElem? (i := 168) rfl)⟩, fun h => absurd h (by decide), fun _ => (List.mem_of_getElem? (i := 169) rfl), fun h => absurd h (by decide)⟩
theorem cal22 : CalOk (pj lw) tables_1 "EpidemicTrace" nm bt 22 := ⟨(List.mem_of_getElem? (i := 174) rfl), (List.mem_of_getElem? (i := 2) rfl), ⟨[], none, by decide +kernel, rfl⟩, fun h => absurd h (by decide), fun _ => ⟨rfl, (List.mem_of_getElem? (i := 172) rfl)⟩, fun h => absurd h (by decide), fun _ => (List.mem_of_getElem? (i := 173) rfl), fun h => absurd h (by decide)⟩
theorem cal23 : CalOk (pj lw) tables_1 "EpidemicTrace" nm bt 23 := ⟨(List.mem_of_getElem? (i := 182) rfl), (List.mem_of_getElem? (i := 2) rfl), ⟨[.int, .int], some .boolean, by decide +kernel, rfl⟩, fun h => absurd h (by decide), fun _ => ⟨rfl, (List.mem_of_getElem? (i := 180) rfl)⟩, fun h => absurd h (by decide), fun _ => (List.mem_of_getElem? (i := 181) rfl), fun h => absurd h (by decide)⟩
theorem cal24 : CalOk (pj lw) tables_1 "EpidemicTrace" nm bt 24 := ⟨(List.mem_of_getElem? (i := 178) rfl), (List.mem_of_getElem? (i := 2) rfl), ⟨[], none, by decide +kernel, rfl⟩, fun h => absurd h (by decide), fun _ => ⟨rfl, (List.mem_of_getElem? (i := 176) rfl)⟩, fun h => absurd h (by decide), fun _ => (List.mem_of_getElem? (i := 177) rfl), fun h => absurd h (by decide)⟩
theorem cal25 : CalOk (pj lw) tables_1 "EpidemicTrace" nm bt 25 := ⟨(List.mem_of_getElem? (i := 198) rfl), (List.mem_of_getElem? (i := 2) rfl), ⟨[.int, .int, .int], none, by decide +kernel, rfl⟩, fun h => absurd h (by decide), fun _ => ⟨rfl, (List.mem_of_getElem? (i := 196) rfl)⟩, fun h => absurd h (by decide), fun _ => (List.mem_of_getElem? (i := 197) rfl), fun h => absurd h (by decide)⟩
theorem cal26 : CalOk (pj lw) tables_1 "EpidemicTrace" nm bt 26 := ⟨(List.mem_of_getElem? (i := 186) rfl), (List.mem_of_getElem? (i := 2) rfl), ⟨[], none, by decide +kernel, rfl⟩, fun h => absurd h (by decide), fun _ => ⟨rfl, (List.mem_of_getElem? (i := 184) rfl)⟩, fun h => absurd h (by decide), fun _ => (List.mem_of_getElem? (i := 185) rfl), fun h => absurd h (by decide)⟩
theorem cal27 : CalOk (pj lw) tables_1 "EpidemicTrace" nm bt 27 := ⟨(List.mem_of_getElem? (i := 190) rfl), (List.mem_of_getElem? (i := 2) rfl), ⟨[], none, by decide +kernel, rfl⟩, fun h => absurd h (by decide), fun _ => ⟨rfl, (List.mem_of_getElem? (i := 188) rfl)⟩, fun h => absurd h (by decide), fun _ => (List.mem_of_getElem? (i := 189) rfl), fun h => absurd h (by decide)⟩
theorem cal28 : CalOk (pj lw) tables_1 "EpidemicTrace" nm bt 28 := ⟨(List.mem_of_getElem? (i := 194) rfl), (List.mem_of_getElem? (i := 2) rfl), ⟨[], none, by decide +kernel, rfl⟩, fun h => absurd h (by decide), fun _ => ⟨rfl, (List.mem_of_getElem? (i := 192) rfl)⟩, fun h => absurd h (by decide), fun _ => (List.mem_of_getElem? (i := 193) rfl), fun h => absurd h (by decide)⟩
theorem cal29 : CalOk (pj lw) tables_1 "EpidemicTrace" nm bt 29 := ⟨(List.mem_of_getElem? (i := 208) rfl), (List.mem_of_getElem? (i := 2) rfl), ⟨[.int], none, by decide +kernel, rfl⟩, fun h => absurd h (by decide), fun _ => ⟨rfl, (List.mem_of_getElem? (i := 206) rfl)⟩, fun h => absurd h (by decide), fun _ => (List.mem_of_getElem? (i := 207) rfl), fun h => absurd h (by decide)⟩
theorem cal30 : CalOk (pj lw) tables_1 "EpidemicTrace" nm bt 30 := ⟨(List.mem_of_getElem? (i := 212) rfl), (List.mem_of_getElem? (i := 2) rfl), ⟨[.int], none, by decide +kernel, rfl⟩, fun h => absurd h (by decide), fun _ => ⟨rfl, (List.mem_of_getElem? (i := 210) rfl)⟩, fun h => absurd h (by decide), fun _ => (List.mem_of_getElem? (i := 211) rfl), fun h => absurd h (by decide)⟩
theorem cal31 : CalOk (pj lw) tables_1 "EpidemicTrace" nm bt 31 := ⟨(List.mem_of_getElem? (i := 85) rfl), (List.mem_of_getElem? (i := 2) rfl), ⟨[.int], some .int, by decide +kernel, rfl⟩, fun h => absurd h (by decide), fun _ => ⟨rfl, (List.mem_of_getElem? (i := 83) rfl)⟩, fun h => absurd h (by decide), fun _ => (List.mem_of_getElem? (i := 84) rfl), fun h => absurd h (by decide)⟩
theorem cal32 : CalOk (pj lw) tables_1 "EpidemicTrace" nm bt 32 := ⟨(List.mem_of_getElem? (i := 89) rfl), (List.mem_of_getElem? (i := 2) rfl), ⟨[], some .int, by decide +kernel, rfl⟩, fun h => absurd h (by decide), fun _ => ⟨rfl, (List.mem_of_getElem? (i := 87) rfl)⟩, fun h => absurd h (by decide), fun _ => (List.mem_of_getElem? (i := 88) rfl), fun h => absurd h (by decide)⟩
theorem cal33 : CalOk (pj lw) tables_1 "EpidemicTrace" nm bt 33 := ⟨(List.mem_of_getElem? (i := 93) rfl), (List.mem_of_getElem? (i := 2) rfl), ⟨[.boolean], some .int, by decide +kernel, rfl⟩, fun h => absurd h (by decide), fun _ => ⟨rfl, (List.mem_of_getElem? (i := 91) rfl)⟩, fun h => absurd h (by decide), fun _ => (List.mem_of_getElem? (i := 92) rfl), fun h => absurd h (by decide)⟩
theorem cal34 : CalOk (pj lw) tables_1 "EpidemicTrace" nm bt 34 := ⟨(List.mem_of_getElem? (i := 97) rfl), (List.mem_of_getElem? (i := 2) rfl), ⟨[], some .int, by decide +kernel, rfl⟩, fun h => absurd h (by decide), fun _ => ⟨rfl, (List.mem_of_getElem? (i := 95) rfl)⟩, fun h => absurd h (by decide), fun _ => (List.mem_of_getElem? (i := 96) rfl), fun h => absurd h (by decide)⟩
theorem cal103 : CalOk (pj lw) tables_1 "EpidemicTrace" nm bt 103 := ⟨(List.mem_of_getElem? (i := 76) rfl), (List.mem_of_getElem? (i := 75) rfl), ⟨[.object "EpidemicTrace", .object "EpidemicTrace"], some .boolean, by decide +kernel, rfl⟩, fun _ => (List.mem_of_getElem? (i := 74) rfl), fun h => absurd rfl h, fun h => absurd h (by decide), fun h => absurd h (by decide), fun h => absurd h (by decide)⟩
theorem hcal : ∀ m ∈ RL, m ≠ 100 → CalOk (pj lw) tables_1 "EpidemicTrace" nm bt m := (faS (fun _ => cal1) (faS (fun _ => cal2) (faS (fun _ => cal3) (faS (fun _ => cal4) (faS (fun _ => cal5) (faS (fun _ => cal6) (faS (fun _ => cal7) (faS (fun _ => cal8) (faS (fun _ => cal9) (faS (fun _ => cal10) (faS (fun _ => cal11) (faS (fun _ => cal12) (faS (fun _ => cal13) (faS (fun _ => cal14) (faS (fun _ => cal15) (faS (fun _ => cal16) (faS (fun _ => cal17) (faS (fun _ => cal18) (faS (fun _ => cal19) (faS (fun _ => cal20) (faS (fun _ => cal21) (faS (fun _ => cal22) (faS (fun _ => cal23) (faS (fun _ => cal24) (faS (fun _ => cal25) (faS (fun _ => cal26) (faS (fun _ => cal27) (faS (fun _ => cal28) (faS (fun _ => cal29) (faS (fun _ => cal30) (faS (fun _ => cal31) (faS (fun _ => cal32) (faS (fun _ => cal33) (faS (fun _ => cal34) (faS (fun h => absurd rfl h) (faS (fun _ => cal103) fa0))))))))))))))))))))))))))))))))))))
theorem hfld : ∀ k ∈ FS, parseFieldDescriptor (fn k).2 = some ((pj lw).2.2.1 k) ∧ (Jvm.Cond.lays "EpidemicTrace" "EpidemicTrace" (fn k).1 (fn k).2 ∈ tables_1 ∨ Jvm.Cond.laysFinal "EpidemicTrace" "EpidemicTrace" (fn k).1 (fn k).2 ∈ tables_1) := (faS ⟨by decide +kernel, Or.inl (List.mem_of_getElem? (i := 44) rfl)⟩ (faS ⟨by decide +kernel, Or.inl (List.mem_of_getElem? (i := 46) rfl)⟩ (faS ⟨by decide +kernel, Or.inl (List.mem_of_getElem? (i := 48) rfl)⟩ (faS ⟨by decide +kernel, Or.inl (List.mem_of_getElem? (i := 50) rfl)⟩ (faS ⟨by decide +kernel, Or.inr (List.mem_of_getElem? (i := 11) rfl)⟩ (faS ⟨by decide +kernel, Or.inr (List.mem_of_getElem? (i := 13) rfl)⟩ (faS ⟨by decide +kernel, Or.inr (List.mem_of_getElem? (i := 15) rfl)⟩ (faS ⟨by decide +kernel, Or.inr (List.mem_of_getElem? (i := 18) rfl)⟩ (faS ⟨by decide +kernel, Or.inr (List.mem_of_getElem? (i := 20) rfl)⟩ (faS ⟨by decide +kernel, Or.inr (List.mem_of_getElem? (i := 22) rfl)⟩ (faS ⟨by decide +kernel, Or.inr (List.mem_of_getElem? (i := 24) rfl)⟩ (faS ⟨by decide +kernel, Or.inr (List.mem_of_getElem? (i := 26) rfl)⟩ (faS ⟨by decide +kernel, Or.inr (List.mem_of_getElem? (i := 28) rfl)⟩ (faS ⟨by decide +kernel, Or.inr (List.mem_of_getElem? (i := 30) rfl)⟩ (faS ⟨by decide +kernel, Or.inr (List.mem_of_getElem? (i := 32) rfl)⟩ (faS ⟨by decide +kernel, Or.inr (List.mem_of_getElem? (i := 34) rfl)⟩ (faS ⟨by decide +kernel, Or.inr (List.mem_of_getElem? (i := 36) rfl)⟩ (faS ⟨by decide +kernel, Or.inr (List.mem_of_getElem? (i := 38) rfl)⟩ (faS ⟨by decide +kernel, Or.inl (List.mem_of_getElem? (i := 52) rfl)⟩ (faS ⟨by decide +kernel, Or.inl (List.mem_of_getElem? (i := 54) rfl)⟩ (faS ⟨by decide +kernel, Or.inl (List.mem_of_getElem? (i := 56) rfl)⟩ (faS ⟨by decide +kernel, Or.inl (List.mem_of_getElem? (i := 58) rfl)⟩ (faS ⟨by decide +kernel, Or.inl (List.mem_of_getElem? (i := 60) rfl)⟩ (faS ⟨by decide +kernel, Or.inl (List.mem_of_getElem? (i := 62) rfl)⟩ fa0))))))))))))))))))))))))
theorem good : Good (pj lw) tables_1 "EpidemicTrace" fn FS 24 nm bt RL 100 := by
  refine ⟨(List.mem_of_getElem? (i := 1) rfl), (List.mem_of_getElem? (i := 2) rfl), hfld, by decide +kernel, fun m hm => ?_, hcal, fun m _ pc ins len aux _ _ => by cases ins <;> rfl⟩
  have hpl : plainName "EpidemicTrace" = true ∧ plainName "EpidemicTraceL7" = true := ⟨by first | (simp [plainName, overriddenIn]; done) | decide +kernel, by first | (simp [plainName, overriddenIn]; done) | decide +kernel⟩
  have hcn : ∀ m ∈ RL, (nm m).cls = cn (own m) := by decide +kernel
  have hin : ∀ m ∈ RL, ini m = true → (nm m).cls = "EpidemicTrace" ∧ (nm m).name = "<init>" := by decide +kernel
  have hor : (nm m).cls = "EpidemicTrace" ∨ (nm m).cls = "EpidemicTraceL7" := by rw [hcn m hm]; unfold cn; split <;> simp
  refine ⟨by rcases hor with h | h <;> rw [h] <;> simp [hpl], by rcases hor with h | h <;> rw [h] <;> decide, fun pc ins len aux h => ?_⟩
  have hmem : (pc, ins, len, aux) ∈ rowsOf m := by
    unfold rowsOf
    by_cases g : m < 100
    · rw [if_pos g]; exact lookup_mem (by simpa [pj, g] using h)
    · rw [if_neg g]; exact lookup_mem (by simpa [pj, lw, g] using h)
  have hrow := List.all_eq_true.mp (List.all_eq_true.mp hrows m hm) _ hmem
  simp only [rowOne, Bool.and_eq_true, decide_eq_true_eq] at hrow
  exact ⟨hrow.1.1, hrow.1.2, row_ok (hcn m hm) (hin m hm) hFL hWF hML hKI hKJ hAT (List.mem_of_getElem? (i := 0) rfl) ⟨(List.mem_of_getElem? (i := 6) rfl), (List.mem_of_getElem? (i := 7) rfl), (List.mem_of_getElem? (i := 8) rfl)⟩ hrow.2⟩
set_option maxRecDepth 65536 in
set_option maxHeartbeats 40000000 in
theorem comes_1 {Post : Tables → Env → Array Value → State → Outcome → State → Prop} (hpost : ∀ tb e args s v u, (limb_1_1.after args s (.returned v) u = true ∧ limb_1_2.after args s (.returned v) u = true ∧ True) → FrameEnd s (.returned v) u (Jvm.fieldLocs frame_1_writes args s ++ Jvm.arrayLocs frame_1_arrays args s ++ Jvm.staticLocs frame_1_statics s) 72 8896 → Post tb e args s (.returned v) u) :
    ArmFor flags0 classFile x code maxLocals ret World_1 tables_1 room_1 Calls_1 rest_1 Pre_1 Post := by
  intro l hfl _ _ p e ha hc hk s m args below hf hA hF happ hP
  obtain ⟨hcalls, hrest, hpre⟩ := hP
  obtain ⟨-, -, -, hnamed, -, -, -, hat⟩ := (Spec.applies_iff hf).mp happ
  obtain ⟨hg, hn⟩ := and_e (Cond.before_iff.mp (show (Jvm.Cond.and given_1 narrow_1).before args s = true from hpre))
  have hw := fun d (hd : d ∈ tables_1) => atoms_spec (ws := Jvm.Cond.code x code maxLocals ret :: tables_1) hat d (List.mem_cons_of_mem _ hd)
  obtain ⟨g0, r0⟩ := and_e hg
  obtain ⟨w0, rfl⟩ : ∃ w0 : Value, args = #[w0] := by
    have hs : args.size = 1 := by simpa [Cond.value, given_1] using g0
    obtain ⟨L⟩ := args
    match L, hs with
    | [w0], _ => exact ⟨w0, rfl⟩
  have hfit : Fit s := fun {y c} hc i hi => by
    obtain ⟨ha, rfl⟩ := Array.getElem?_eq_some_iff.mp hc
    have q := List.all_eq_true.mp ((Array.all_eq_true_iff_forall_mem.mp hF) _ (Array.getElem_mem ha)) i (List.mem_range.mpr hi)
    simpa [Array.getElem?_eq_getElem hi] using q
  obtain ⟨n1, n2⟩ := and_e (show (Jvm.Cond.and (Jvm.Cond.arrayOf (Jvm.Term.arg 0) .int) (Jvm.Cond.le (Jvm.Term.length (Jvm.Term.arg 0)) (Jvm.Term.int 260))).value #[w0] s none s [] = some true from hn)
  obtain ⟨a, ea⟩ := arr_v n1
  obtain rfl : w0 = .ref a := Option.some.inj ea
  obtain ⟨cl, A⟩ := Arr.start ea n1
  have hlen : cl.slots.size < 2 ^ 31 ∧ cl.slots.size ≤ 260 := by
    obtain ⟨x, y, h1, h2, -, -⟩ := cmp_v (Or.inr (Or.inr n2))
    have hA0 := A.fin (Vm.Alike.refl _)
    by_cases hs : cl.slots.size < 2 ^ 31
    · refine ⟨hs, ?_⟩
      have e1 := len_f (args := #[.ref a]) (first := s) (o := none) (idx := []) ea hA0 hs
      have e2 : (Term.int (260 : Int32)).eval #[.ref a] s none [] s = some (.int 260) := rfl
      simp only [Cond.value, e1, e2] at n2
      have n3 : cl.slots.size.toInt32 ≤ (260 : Int32) := by simpa using n2
      rw [Int32.le_iff_toInt_le, len_toInt hs] at n3
      have : ((260 : Int32)).toInt = 260 := by decide
      omega
    · exfalso; simp [Term.eval, hA0, hs, ea] at h1
  obtain ⟨f, hR⟩ := rel_H1 (C := "EpidemicTrace") (fn := fn) (F := FS) hfit A hlen.1
  obtain ⟨n, o, h1, h2, h3, _, L, rfl, ⟨N, H2, rfl⟩, hq⟩ := law_met (l := l) (Z := s) (a0 := _) (n0 := s.heap.size) good hw (as := [.ref a]) (h := s.heap) tables_1 (by decide) (by simp [Sym.laidSlots, Value.category]; decide) hR (law_ok s.heap.size a cl.slots.size f A.lt hlen.2) p e ha hc hk s m _ below hf ((Spec.applies_iff_loose hf).mp happ).1 ⟨rfl, State.Warmed39.refl s, rfl⟩ trivial
  exact ⟨n, _, h1, h2, h3, hpost _ _ _ _ _ _ ⟨Cond.after_iff.mpr rfl, Cond.after_iff.mpr (eq_i res_at (Term.int_eval (1)) rfl), trivial⟩ ⟨hq.1, hq.2.1, (hq.2.2.sift fun y hy => Or.inr (N y hy)).mono (by decide) (by decide)⟩⟩
theorem main_1_1 : Claimed_1_1 := comes_1 fun _ _ _ _ _ _ h hF => ⟨h.1, hF⟩
theorem main_1_2 : Claimed_1_2 := comes_1 fun _ _ _ _ _ _ h hF => ⟨h.2.1, hF⟩
end Jvm.Pilot.@@N@@
namespace Jvm.Pilot.@@N@@
open Jvm Jvm.ClassFile Sem Op Lib Jvm.Free Jvm.Stand Jvm.Pilot.@@N@@.Jvm.D
/-! MADE BY PROGRAM (witnessworld.py) out of the Statement's table words and the real class files: 11 classes; the members and pool entries that the words name. The judged class is class 1, her method 1. -/
namespace start1
open Jvm.ClassFile
def u (s : String) : CpInfo := .utf8 (stringToUtf16 s)
/-- a pool by its gaps: so many unusable entries, then the entry; so many at the end -/
def gap : Nat → List CpInfo → List CpInfo
  | 0, r => r
  | n + 1, r => .unusable :: gap n r
def poolList (es : List (Nat × CpInfo)) (last : Nat) : List CpInfo := es.foldr (fun e r => gap e.1 (e.2 :: r)) (gap last [])
def pool (es : List (Nat × CpInfo)) (last : Nat) : Array CpInfo := ⟨poolList es last⟩
def fileOf (pool : Array CpInfo) (this : Nat) (attrs : Array Attribute := #[]) (ms : Array MethodInfo := #[]) (fl : Nat := 33) (sup : Nat := 0) (ifs : Array Nat := #[]) (fds : Array FieldInfo := #[]) : ClassFile where
  minorVersion := 0
  majorVersion := 65
  constantPool := pool
  accessFlags := fl
  thisClass := this
  superClass := sup
  interfaces := ifs
  fields := fds
  methods := ms
  attributes := attrs
def plain (name : String) (sup : Option ClassId) : Class where
  name := name
  kind := .ordinary
  loader := none
  accessFlags := 33
  super := sup
  interfaces := #[]
  cf := none
  fields := #[]
  methods := #[]
  instanceTypes := #[]
  staticTypes := #[]
  resolved := #[]
  callSites := []
  init := .initialized
  statics := none
  mirror := none

def pool0 : Array CpInfo := pool [(5, u "<init>"), (0, u "()V"), (1, .class_ 10), (1, u "java/lang/Object")] 113

def k0c0 : Code := { maxStack := 0, maxLocals := 1, code := object_method_1_code, exceptionTable := #[], attributes := #[] }
def k0m0 : Method := { name := "<init>", desc := "()V", sig := { parameters := [], returnType := none }, accessFlags := 1, code := some k0c0 }
/-- java/lang/Object -/
def k0 : Class := { plain "java/lang/Object" none with
  accessFlags := 33
  interfaces := #[]
  cf := some (fileOf pool0 8 #[] #[{ accessFlags := 1, nameIndex := 5, descriptorIndex := 6, attributes := #[] }] 33 0 #[] #[])
  fields := #[]
  methods := #[k0m0]
  instanceTypes := #[]
  staticTypes := #[]
  resolved := Array.replicate 124 none
  statics := none }

def pool1 : Array CpInfo := pool [(2, .class_ 4), (1, u "java/lang/Object"), (0, u "<init>"), (0, u "()V"), (0, .class_ 8), (0, u "EpidemicTrace"), (0, .methodref 7 10), (0, .nameAndType 5 11), (0, u "(IIII)V"), (0, .methodref 7 13), (0, .nameAndType 14 15), (0, u "seedRandom"), (0, u "(I)V"), (0, .methodref 7 17), (0, .nameAndType 18 19), (0, u "setCapacity"), (0, u "(I)I"), (0, .integer 2147483647), (0, .methodref 7 22), (0, .nameAndType 23 24), (0, u "infect"), (0, u "(I)Z"), (0, .methodref 7 26), (0, .nameAndType 27 24), (0, u "requestTest"), (0, .methodref 7 29), (0, .nameAndType 30 19), (0, u "run"), (0, .methodref 7 32), (0, .nameAndType 33 19), (0, u "count"), (0, .methodref 7 35), (0, .nameAndType 36 37), (0, u "addEdge"), (0, u "(III)I"), (0, .methodref 39 40), (0, .class_ 41), (0, .nameAndType 42 43), (0, u "EpidemicTraceL7"), (0, u "same"), (0, u "(LEpidemicTrace;LEpidemicTrace;)Z"), (0, .methodref 7 45), (0, .nameAndType 46 19), (0, u "compartment"), (0, .methodref 7 48), (0, .nameAndType 49 19), (0, u "timer"), (0, .methodref 7 51), (0, .nameAndType 52 19), (0, u "quarantineLeft"), (0, .methodref 7 54), (0, .nameAndType 55 19), (0, u "flags"), (0, .methodref 7 57), (0, .nameAndType 58 19), (0, u "source"), (0, .methodref 7 60), (0, .nameAndType 61 19), (0, u "infectionDay"), (0, .methodref 7 63), (0, .nameAndType 64 19), (0, u "generation"), (0, .methodref 7 66), (0, .nameAndType 67 19), (0, u "secondaryCases"), (2, u "law"), (0, u "([I)Z")] 5

def k1m0 : Method := { name := "<init>", desc := "()V", sig := { parameters := [], returnType := none }, accessFlags := 1, code := none }
def k1c1 : Code := { maxStack := 6, maxLocals := 12, code := code, exceptionTable := #[], attributes := #[] }
def k1m1 : Method := { name := "law", desc := "([I)Z", sig := { parameters := [(.array .int)], returnType := some .boolean }, accessFlags := 9, code := some k1c1 }
def k1c2 : Code := { maxStack := 3, maxLocals := 3, code := method_3_code, exceptionTable := #[], attributes := #[] }
def k1m2 : Method := { name := "same", desc := "(LEpidemicTrace;LEpidemicTrace;)Z", sig := { parameters := [(.object "EpidemicTrace"), (.object "EpidemicTrace")], returnType := some .boolean }, accessFlags := 10, code := some k1c2 }
/-- EpidemicTraceL7 -/
def k1 : Class := { plain "EpidemicTraceL7" (some 0) with
  accessFlags := 49
  interfaces := #[]
  cf := some (fileOf pool1 39 #[] #[{ accessFlags := 1, nameIndex := 5, descriptorIndex := 6, attributes := #[] }, { accessFlags := 9, nameIndex := 70, descriptorIndex := 71, attributes := #[] }, { accessFlags := 10, nameIndex := 42, descriptorIndex := 43, attributes := #[] }] 49 2 #[] #[])
  fields := #[]
  methods := #[k1m0, k1m1, k1m2]
  instanceTypes := #[]
  staticTypes := #[]
  resolved := Array.replicate 77 none
  statics := none }

def pool2 : Array CpInfo := pool [(1, .methodref 2 3), (0, .class_ 4), (0, .nameAndType 5 6), (0, u "java/lang/Object"), (0, u "<init>"), (0, u "()V"), (0, .fieldref 8 9), (0, .class_ 10), (0, .nameAndType 11 12), (0, u "EpidemicTrace"), (0, u "comp"), (0, u "[I"), (0, .fieldref 8 14), (0, .nameAndType 15 12), (0, u "timer"), (0, .fieldref 8 17), (0, .nameAndType 18 12), (0, u "qleft"), (0, .fieldref 8 20), (0, .nameAndType 21 22), (0, u "detected"), (0, u "[Z"), (0, .fieldref 8 24), (0, .nameAndType 25 22), (0, u "pending"), (0, .fieldref 8 27), (0, .nameAndType 28 12), (0, u "src"), (0, .fieldref 8 30), (0, .nameAndType 31 12), (0, u "infDay"), (0, .fieldref 8 33), (0, .nameAndType 34 12), (0, u "gen"), (0, .fieldref 8 36), (0, .nameAndType 37 12), (0, u "snapComp"), (0, .fieldref 8 39), (0, .nameAndType 40 22), (0, u "snapQ"), (0, .fieldref 8 42), (0, .nameAndType 43 12), (0, u "selected"), (0, .fieldref 8 45), (0, .nameAndType 46 12), (0, u "edgeA"), (0, .fieldref 8 48), (0, .nameAndType 49 12), (0, u "edgeB"), (0, .fieldref 8 51), (0, .nameAndType 52 12), (0, u "edgeP"), (0, .methodref 8 54), (0, .nameAndType 55 56), (0, u "clamp"), (0, u "(III)I"), (0, .fieldref 8 58), (0, .nameAndType 59 60), (0, u "n"), (0, u "I"), (0, .fieldref 8 62), (0, .nameAndType 63 60), (0, u "latent"), (0, .fieldref 8 65), (0, .nameAndType 66 60), (0, u "infectious"), (0, .fieldref 8 68), (0, .nameAndType 69 60), (0, u "qdays"), (0, .fieldref 8 71), (0, .nameAndType 72 60), (0, u "edgeCount"), (0, .fieldref 8 74), (0, .nameAndType 75 60), (0, u "cap"), (0, .fieldref 8 77), (0, .nameAndType 78 60), (0, u "tests"), (0, .fieldref 8 80), (0, .nameAndType 81 60), (0, u "positives"), (0, .fieldref 8 83), (0, .nameAndType 84 60), (0, u "day"), (0, .fieldref 8 86), (0, .nameAndType 87 60), (0, u "g"), (0, .methodref 8 89), (0, .nameAndType 90 91), (0, u "valid"), (0, u "(I)Z"), (0, .methodref 8 93), (0, .nameAndType 94 95), (0, u "edgeExists"), (0, u "(II)Z"), (0, .methodref 8 97), (0, .nameAndType 98 6), (0, u "simulateDay"), (0, .methodref 8 100), (0, .nameAndType 101 102), (0, u "countCompartment"), (0, u "(I)I"), (0, .methodref 8 104), (0, .nameAndType 105 106), (0, u "countQuarantined"), (0, u "()I"), (0, .methodref 8 108), (0, .nameAndType 109 110), (0, u "countFlag"), (0, u "(Z)I"), (0, .methodref 8 112), (0, .nameAndType 113 106), (0, u "countInfected"), (0, .integer 1103515245), (0, .integer 16777215), (0, .methodref 8 117), (0, .nameAndType 118 6), (0, u "snapshot"), (0, .methodref 8 120), (0, .nameAndType 121 6), (0, u "transmit"), (0, .methodref 8 123), (0, .nameAndType 124 6), (0, u "progress"), (0, .methodref 8 126), (0, .nameAndType 127 6), (0, u "quarantineTick"), (0, .methodref 8 129), (0, .nameAndType 130 6), (0, u "testing"), (0, .methodref 8 132), (0, .nameAndType 133 95), (0, u "canInfect"), (0, .methodref 8 135), (0, .nameAndType 136 137), (0, u "tryInfect"), (0, u "(III)V"), (0, .methodref 8 139), (0, .nameAndType 140 106), (0, u "draw"), (0, .methodref 8 142), (0, .nameAndType 143 144), (0, u "testOne"), (0, u "(I)V"), (0, .methodref 8 146), (0, .nameAndType 147 144), (0, u "trace"), (0, u "S"), (2, u "E"), (2, u "R"), (1, u "KIND_QUARANTINED"), (1, u "KIND_DETECTED"), (1, u "KIND_PENDING"), (1, u "KIND_TESTS"), (1, u "KIND_POSITIVES"), (1, u "KIND_EDGES"), (1, u "KIND_DAY"), (1, u "KIND_INFECTED"), (1, u "REFUSED"), (1, u "SEED"), (0, u "NONE"), (1, u "FLAG_DETECTED"), (0, u "FLAG_PENDING"), (0, u "MAX_N"), (1, u "MAX_EDGES"), (1, u "(IIII)V"), (3, u "seedRandom"), (0, u "setCapacity"), (0, u "addEdge"), (0, u "infect"), (0, u "requestTest"), (0, u "run"), (0, u "compartment"), (0, u "quarantineLeft"), (0, u "flags"), (0, u "source"), (0, u "infectionDay"), (0, u "generation"), (0, u "secondaryCases"), (0, u "count")] 3

def k2c0 : Code := { maxStack := 5, maxLocals := 6, code := prog_1_method_1_code, exceptionTable := #[], attributes := #[] }
def k2m0 : Method := { name := "<init>", desc := "(IIII)V", sig := { parameters := [.int, .int, .int, .int], returnType := none }, accessFlags := 1, code := some k2c0 }
def k2c1 : Code := { maxStack := 2, maxLocals := 2, code := prog_1_method_2_code, exceptionTable := #[], attributes := #[] }
def k2m1 : Method := { name := "seedRandom", desc := "(I)V", sig := { parameters := [.int], returnType := none }, accessFlags := 1, code := some k2c1 }
def k2c2 : Code := { maxStack := 5, maxLocals := 2, code := prog_1_method_3_code, exceptionTable := #[], attributes := #[] }
def k2m2 : Method := { name := "setCapacity", desc := "(I)I", sig := { parameters := [.int], returnType := some .int }, accessFlags := 1, code := some k2c2 }
def k2c3 : Code := { maxStack := 3, maxLocals := 5, code := prog_1_method_4_code, exceptionTable := #[], attributes := #[] }
def k2m3 : Method := { name := "addEdge", desc := "(III)I", sig := { parameters := [.int, .int, .int], returnType := some .int }, accessFlags := 1, code := some k2c3 }
def k2c4 : Code := { maxStack := 3, maxLocals := 2, code := prog_1_method_5_code, exceptionTable := #[], attributes := #[] }
def k2m4 : Method := { name := "infect", desc := "(I)Z", sig := { parameters := [.int], returnType := some .boolean }, accessFlags := 1, code := some k2c4 }
def k2c5 : Code := { maxStack := 3, maxLocals := 2, code := prog_1_method_6_code, exceptionTable := #[], attributes := #[] }
def k2m5 : Method := { name := "requestTest", desc := "(I)Z", sig := { parameters := [.int], returnType := some .boolean }, accessFlags := 1, code := some k2c5 }
def k2c6 : Code := { maxStack := 4, maxLocals := 4, code := prog_1_method_7_code, exceptionTable := #[], attributes := #[] }
def k2m6 : Method := { name := "run", desc := "(I)I", sig := { parameters := [.int], returnType := some .int }, accessFlags := 1, code := some k2c6 }
def k2c7 : Code := { maxStack := 2, maxLocals := 2, code := prog_1_method_8_code, exceptionTable := #[], attributes := #[] }
def k2m7 : Method := { name := "compartment", desc := "(I)I", sig := { parameters := [.int], returnType := some .int }, accessFlags := 1, code := some k2c7 }
def k2c8 : Code := { maxStack := 2, maxLocals := 2, code := prog_1_method_9_code, exceptionTable := #[], attributes := #[] }
def k2m8 : Method := { name := "timer", desc := "(I)I", sig := { parameters := [.int], returnType := some .int }, accessFlags := 1, code := some k2c8 }
def k2c9 : Code := { maxStack := 2, maxLocals := 2, code := prog_1_method_10_code, exceptionTable := #[], attributes := #[] }
def k2m9 : Method := { name := "quarantineLeft", desc := "(I)I", sig := { parameters := [.int], returnType := some .int }, accessFlags := 1, code := some k2c9 }
def k2c10 : Code := { maxStack := 2, maxLocals := 3, code := prog_1_method_11_code, exceptionTable := #[], attributes := #[] }
def k2m10 : Method := { name := "flags", desc := "(I)I", sig := { parameters := [.int], returnType := some .int }, accessFlags := 1, code := some k2c10 }
def k2c11 : Code := { maxStack := 2, maxLocals := 2, code := prog_1_method_12_code, exceptionTable := #[], attributes := #[] }
def k2m11 : Method := { name := "source", desc := "(I)I", sig := { parameters := [.int], returnType := some .int }, accessFlags := 1, code := some k2c11 }
def k2c12 : Code := { maxStack := 2, maxLocals := 2, code := prog_1_method_13_code, exceptionTable := #[], attributes := #[] }
def k2m12 : Method := { name := "infectionDay", desc := "(I)I", sig := { parameters := [.int], returnType := some .int }, accessFlags := 1, code := some k2c12 }
def k2c13 : Code := { maxStack := 2, maxLocals := 2, code := prog_1_method_14_code, exceptionTable := #[], attributes := #[] }
def k2m13 : Method := { name := "generation", desc := "(I)I", sig := { parameters := [.int], returnType := some .int }, accessFlags := 1, code := some k2c13 }
def k2c14 : Code := { maxStack := 2, maxLocals := 4, code := prog_1_method_15_code, exceptionTable := #[], attributes := #[] }
def k2m14 : Method := { name := "secondaryCases", desc := "(I)I", sig := { parameters := [.int], returnType := some .int }, accessFlags := 1, code := some k2c14 }
def k2c15 : Code := { maxStack := 2, maxLocals := 2, code := prog_1_method_16_code, exceptionTable := #[], attributes := #[] }
def k2m15 : Method := { name := "count", desc := "(I)I", sig := { parameters := [.int], returnType := some .int }, accessFlags := 1, code := some k2c15 }
def k2c16 : Code := { maxStack := 2, maxLocals := 4, code := prog_1_method_17_code, exceptionTable := #[], attributes := #[] }
def k2m16 : Method := { name := "clamp", desc := "(III)I", sig := { parameters := [.int, .int, .int], returnType := some .int }, accessFlags := 2, code := some k2c16 }
def k2c17 : Code := { maxStack := 2, maxLocals := 2, code := prog_1_method_18_code, exceptionTable := #[], attributes := #[] }
def k2m17 : Method := { name := "valid", desc := "(I)Z", sig := { parameters := [.int], returnType := some .boolean }, accessFlags := 2, code := some k2c17 }
def k2c18 : Code := { maxStack := 3, maxLocals := 1, code := prog_1_method_19_code, exceptionTable := #[], attributes := #[] }
def k2m18 : Method := { name := "draw", desc := "()I", sig := { parameters := [], returnType := some .int }, accessFlags := 2, code := some k2c18 }
def k2c19 : Code := { maxStack := 2, maxLocals := 6, code := prog_1_method_20_code, exceptionTable := #[], attributes := #[] }
def k2m19 : Method := { name := "edgeExists", desc := "(II)Z", sig := { parameters := [.int, .int], returnType := some .boolean }, accessFlags := 2, code := some k2c19 }
def k2c20 : Code := { maxStack := 3, maxLocals := 1, code := prog_1_method_21_code, exceptionTable := #[], attributes := #[] }
def k2m20 : Method := { name := "simulateDay", desc := "()V", sig := { parameters := [], returnType := none }, accessFlags := 2, code := some k2c20 }
def k2c21 : Code := { maxStack := 4, maxLocals := 2, code := prog_1_method_22_code, exceptionTable := #[], attributes := #[] }
def k2m21 : Method := { name := "snapshot", desc := "()V", sig := { parameters := [], returnType := none }, accessFlags := 2, code := some k2c21 }
def k2c22 : Code := { maxStack := 2, maxLocals := 3, code := prog_1_method_23_code, exceptionTable := #[], attributes := #[] }
def k2m22 : Method := { name := "canInfect", desc := "(II)Z", sig := { parameters := [.int, .int], returnType := some .boolean }, accessFlags := 2, code := some k2c22 }
def k2c23 : Code := { maxStack := 5, maxLocals := 4, code := prog_1_method_24_code, exceptionTable := #[], attributes := #[] }
def k2m23 : Method := { name := "transmit", desc := "()V", sig := { parameters := [], returnType := none }, accessFlags := 2, code := some k2c23 }
def k2c24 : Code := { maxStack := 4, maxLocals := 5, code := prog_1_method_25_code, exceptionTable := #[], attributes := #[] }
def k2m24 : Method := { name := "tryInfect", desc := "(III)V", sig := { parameters := [.int, .int, .int], returnType := none }, accessFlags := 2, code := some k2c24 }
def k2c25 : Code := { maxStack := 4, maxLocals := 2, code := prog_1_method_26_code, exceptionTable := #[], attributes := #[] }
def k2m25 : Method := { name := "progress", desc := "()V", sig := { parameters := [], returnType := none }, accessFlags := 2, code := some k2c25 }
def k2c26 : Code := { maxStack := 4, maxLocals := 2, code := prog_1_method_27_code, exceptionTable := #[], attributes := #[] }
def k2m26 : Method := { name := "quarantineTick", desc := "()V", sig := { parameters := [], returnType := none }, accessFlags := 2, code := some k2c26 }
def k2c27 : Code := { maxStack := 3, maxLocals := 3, code := prog_1_method_28_code, exceptionTable := #[], attributes := #[] }
def k2m27 : Method := { name := "testing", desc := "()V", sig := { parameters := [], returnType := none }, accessFlags := 2, code := some k2c27 }
def k2c28 : Code := { maxStack := 3, maxLocals := 2, code := prog_1_method_29_code, exceptionTable := #[], attributes := #[] }
def k2m28 : Method := { name := "testOne", desc := "(I)V", sig := { parameters := [.int], returnType := none }, accessFlags := 2, code := some k2c28 }
def k2c29 : Code := { maxStack := 3, maxLocals := 4, code := prog_1_method_30_code, exceptionTable := #[], attributes := #[] }
def k2m29 : Method := { name := "trace", desc := "(I)V", sig := { parameters := [.int], returnType := none }, accessFlags := 2, code := some k2c29 }
def k2c30 : Code := { maxStack := 2, maxLocals := 4, code := prog_1_method_31_code, exceptionTable := #[], attributes := #[] }
def k2m30 : Method := { name := "countCompartment", desc := "(I)I", sig := { parameters := [.int], returnType := some .int }, accessFlags := 2, code := some k2c30 }
def k2c31 : Code := { maxStack := 2, maxLocals := 3, code := prog_1_method_32_code, exceptionTable := #[], attributes := #[] }
def k2m31 : Method := { name := "countQuarantined", desc := "()I", sig := { parameters := [], returnType := some .int }, accessFlags := 2, code := some k2c31 }
def k2c32 : Code := { maxStack := 2, maxLocals := 5, code := prog_1_method_33_code, exceptionTable := #[], attributes := #[] }
def k2m32 : Method := { name := "countFlag", desc := "(Z)I", sig := { parameters := [.boolean], returnType := some .int }, accessFlags := 2, code := some k2c32 }
def k2c33 : Code := { maxStack := 2, maxLocals := 3, code := prog_1_method_34_code, exceptionTable := #[], attributes := #[] }
def k2m33 : Method := { name := "countInfected", desc := "()I", sig := { parameters := [], returnType := some .int }, accessFlags := 2, code := some k2c33 }
/-- EpidemicTrace -/
def k2 : Class := { plain "EpidemicTrace" (some 0) with
  accessFlags := 49
  interfaces := #[]
  cf := some (fileOf pool2 8 #[] #[{ accessFlags := 1, nameIndex := 5, descriptorIndex := 183, attributes := #[] }, { accessFlags := 1, nameIndex := 187, descriptorIndex := 144, attributes := #[] }, { accessFlags := 1, nameIndex := 188, descriptorIndex := 102, attributes := #[] }, { accessFlags := 1, nameIndex := 189, descriptorIndex := 56, attributes := #[] }, { accessFlags := 1, nameIndex := 190, descriptorIndex := 91, attributes := #[] }, { accessFlags := 1, nameIndex := 191, descriptorIndex := 91, attributes := #[] }, { accessFlags := 1, nameIndex := 192, descriptorIndex := 102, attributes := #[] }, { accessFlags := 1, nameIndex := 193, descriptorIndex := 102, attributes := #[] }, { accessFlags := 1, nameIndex := 15, descriptorIndex := 102, attributes := #[] }, { accessFlags := 1, nameIndex := 194, descriptorIndex := 102, attributes := #[] }, { accessFlags := 1, nameIndex := 195, descriptorIndex := 102, attributes := #[] }, { accessFlags := 1, nameIndex := 196, descriptorIndex := 102, attributes := #[] }, { accessFlags := 1, nameIndex := 197, descriptorIndex := 102, attributes := #[] }, { accessFlags := 1, nameIndex := 198, descriptorIndex := 102, attributes := #[] }, { accessFlags := 1, nameIndex := 199, descriptorIndex := 102, attributes := #[] }, { accessFlags := 1, nameIndex := 200, descriptorIndex := 102, attributes := #[] }, { accessFlags := 2, nameIndex := 55, descriptorIndex := 56, attributes := #[] }, { accessFlags := 2, nameIndex := 90, descriptorIndex := 91, attributes := #[] }, { accessFlags := 2, nameIndex := 140, descriptorIndex := 106, attributes := #[] }, { accessFlags := 2, nameIndex := 94, descriptorIndex := 95, attributes := #[] }, { accessFlags := 2, nameIndex := 98, descriptorIndex := 6, attributes := #[] }, { accessFlags := 2, nameIndex := 118, descriptorIndex := 6, attributes := #[] }, { accessFlags := 2, nameIndex := 133, descriptorIndex := 95, attributes := #[] }, { accessFlags := 2, nameIndex := 121, descriptorIndex := 6, attributes := #[] }, { accessFlags := 2, nameIndex := 136, descriptorIndex := 137, attributes := #[] }, { accessFlags := 2, nameIndex := 124, descriptorIndex := 6, attributes := #[] }, { accessFlags := 2, nameIndex := 127, descriptorIndex := 6, attributes := #[] }, { accessFlags := 2, nameIndex := 130, descriptorIndex := 6, attributes := #[] }, { accessFlags := 2, nameIndex := 143, descriptorIndex := 144, attributes := #[] }, { accessFlags := 2, nameIndex := 147, descriptorIndex := 144, attributes := #[] }, { accessFlags := 2, nameIndex := 101, descriptorIndex := 102, attributes := #[] }, { accessFlags := 2, nameIndex := 105, descriptorIndex := 106, attributes := #[] }, { accessFlags := 2, nameIndex := 109, descriptorIndex := 110, attributes := #[] }, { accessFlags := 2, nameIndex := 113, descriptorIndex := 106, attributes := #[] }] 49 2 #[] #[{ accessFlags := 25, nameIndex := 148, descriptorIndex := 60, attributes := #[] }, { accessFlags := 25, nameIndex := 151, descriptorIndex := 60, attributes := #[] }, { accessFlags := 25, nameIndex := 60, descriptorIndex := 60, attributes := #[] }, { accessFlags := 25, nameIndex := 154, descriptorIndex := 60, attributes := #[] }, { accessFlags := 25, nameIndex := 156, descriptorIndex := 60, attributes := #[] }, { accessFlags := 25, nameIndex := 158, descriptorIndex := 60, attributes := #[] }, { accessFlags := 25, nameIndex := 160, descriptorIndex := 60, attributes := #[] }, { accessFlags := 25, nameIndex := 162, descriptorIndex := 60, attributes := #[] }, { accessFlags := 25, nameIndex := 164, descriptorIndex := 60, attributes := #[] }, { accessFlags := 25, nameIndex := 166, descriptorIndex := 60, attributes := #[] }, { accessFlags := 25, nameIndex := 168, descriptorIndex := 60, attributes := #[] }, { accessFlags := 25, nameIndex := 170, descriptorIndex := 60, attributes := #[] }, { accessFlags := 25, nameIndex := 172, descriptorIndex := 60, attributes := #[] }, { accessFlags := 25, nameIndex := 174, descriptorIndex := 60, attributes := #[] }, { accessFlags := 25, nameIndex := 175, descriptorIndex := 60, attributes := #[] }, { accessFlags := 25, nameIndex := 177, descriptorIndex := 60, attributes := #[] }, { accessFlags := 25, nameIndex := 178, descriptorIndex := 60, attributes := #[] }, { accessFlags := 26, nameIndex := 179, descriptorIndex := 60, attributes := #[] }, { accessFlags := 26, nameIndex := 181, descriptorIndex := 60, attributes := #[] }, { accessFlags := 2, nameIndex := 59, descriptorIndex := 60, attributes := #[] }, { accessFlags := 2, nameIndex := 63, descriptorIndex := 60, attributes := #[] }, { accessFlags := 2, nameIndex := 66, descriptorIndex := 60, attributes := #[] }, { accessFlags := 2, nameIndex := 69, descriptorIndex := 60, attributes := #[] }, { accessFlags := 18, nameIndex := 11, descriptorIndex := 12, attributes := #[] }, { accessFlags := 18, nameIndex := 15, descriptorIndex := 12, attributes := #[] }, { accessFlags := 18, nameIndex := 18, descriptorIndex := 12, attributes := #[] }, { accessFlags := 18, nameIndex := 21, descriptorIndex := 22, attributes := #[] }, { accessFlags := 18, nameIndex := 25, descriptorIndex := 22, attributes := #[] }, { accessFlags := 18, nameIndex := 28, descriptorIndex := 12, attributes := #[] }, { accessFlags := 18, nameIndex := 31, descriptorIndex := 12, attributes := #[] }, { accessFlags := 18, nameIndex := 34, descriptorIndex := 12, attributes := #[] }, { accessFlags := 18, nameIndex := 37, descriptorIndex := 12, attributes := #[] }, { accessFlags := 18, nameIndex := 40, descriptorIndex := 22, attributes := #[] }, { accessFlags := 18, nameIndex := 43, descriptorIndex := 12, attributes := #[] }, { accessFlags := 18, nameIndex := 46, descriptorIndex := 12, attributes := #[] }, { accessFlags := 18, nameIndex := 49, descriptorIndex := 12, attributes := #[] }, { accessFlags := 18, nameIndex := 52, descriptorIndex := 12, attributes := #[] }, { accessFlags := 2, nameIndex := 72, descriptorIndex := 60, attributes := #[] }, { accessFlags := 2, nameIndex := 75, descriptorIndex := 60, attributes := #[] }, { accessFlags := 2, nameIndex := 78, descriptorIndex := 60, attributes := #[] }, { accessFlags := 2, nameIndex := 81, descriptorIndex := 60, attributes := #[] }, { accessFlags := 2, nameIndex := 84, descriptorIndex := 60, attributes := #[] }, { accessFlags := 2, nameIndex := 87, descriptorIndex := 60, attributes := #[] }])
  fields := #[{ name := "S", type := .int, accessFlags := 25, slot := 0, constantValue := 0 }, { name := "E", type := .int, accessFlags := 25, slot := 1, constantValue := 0 }, { name := "I", type := .int, accessFlags := 25, slot := 2, constantValue := 0 }, { name := "R", type := .int, accessFlags := 25, slot := 3, constantValue := 0 }, { name := "KIND_QUARANTINED", type := .int, accessFlags := 25, slot := 4, constantValue := 0 }, { name := "KIND_DETECTED", type := .int, accessFlags := 25, slot := 5, constantValue := 0 }, { name := "KIND_PENDING", type := .int, accessFlags := 25, slot := 6, constantValue := 0 }, { name := "KIND_TESTS", type := .int, accessFlags := 25, slot := 7, constantValue := 0 }, { name := "KIND_POSITIVES", type := .int, accessFlags := 25, slot := 8, constantValue := 0 }, { name := "KIND_EDGES", type := .int, accessFlags := 25, slot := 9, constantValue := 0 }, { name := "KIND_DAY", type := .int, accessFlags := 25, slot := 10, constantValue := 0 }, { name := "KIND_INFECTED", type := .int, accessFlags := 25, slot := 11, constantValue := 0 }, { name := "REFUSED", type := .int, accessFlags := 25, slot := 12, constantValue := 0 }, { name := "SEED", type := .int, accessFlags := 25, slot := 13, constantValue := 0 }, { name := "NONE", type := .int, accessFlags := 25, slot := 14, constantValue := 0 }, { name := "FLAG_DETECTED", type := .int, accessFlags := 25, slot := 15, constantValue := 0 }, { name := "FLAG_PENDING", type := .int, accessFlags := 25, slot := 16, constantValue := 0 }, { name := "MAX_N", type := .int, accessFlags := 26, slot := 17, constantValue := 0 }, { name := "MAX_EDGES", type := .int, accessFlags := 26, slot := 18, constantValue := 0 }, { name := "n", type := .int, accessFlags := 2, slot := 0, constantValue := 0 }, { name := "latent", type := .int, accessFlags := 2, slot := 1, constantValue := 0 }, { name := "infectious", type := .int, accessFlags := 2, slot := 2, constantValue := 0 }, { name := "qdays", type := .int, accessFlags := 2, slot := 3, constantValue := 0 }, { name := "comp", type := (.array .int), accessFlags := 18, slot := 4, constantValue := 0 }, { name := "timer", type := (.array .int), accessFlags := 18, slot := 5, constantValue := 0 }, { name := "qleft", type := (.array .int), accessFlags := 18, slot := 6, constantValue := 0 }, { name := "detected", type := (.array .boolean), accessFlags := 18, slot := 7, constantValue := 0 }, { name := "pending", type := (.array .boolean), accessFlags := 18, slot := 8, constantValue := 0 }, { name := "src", type := (.array .int), accessFlags := 18, slot := 9, constantValue := 0 }, { name := "infDay", type := (.array .int), accessFlags := 18, slot := 10, constantValue := 0 }, { name := "gen", type := (.array .int), accessFlags := 18, slot := 11, constantValue := 0 }, { name := "snapComp", type := (.array .int), accessFlags := 18, slot := 12, constantValue := 0 }, { name := "snapQ", type := (.array .boolean), accessFlags := 18, slot := 13, constantValue := 0 }, { name := "selected", type := (.array .int), accessFlags := 18, slot := 14, constantValue := 0 }, { name := "edgeA", type := (.array .int), accessFlags := 18, slot := 15, constantValue := 0 }, { name := "edgeB", type := (.array .int), accessFlags := 18, slot := 16, constantValue := 0 }, { name := "edgeP", type := (.array .int), accessFlags := 18, slot := 17, constantValue := 0 }, { name := "edgeCount", type := .int, accessFlags := 2, slot := 18, constantValue := 0 }, { name := "cap", type := .int, accessFlags := 2, slot := 19, constantValue := 0 }, { name := "tests", type := .int, accessFlags := 2, slot := 20, constantValue := 0 }, { name := "positives", type := .int, accessFlags := 2, slot := 21, constantValue := 0 }, { name := "day", type := .int, accessFlags := 2, slot := 22, constantValue := 0 }, { name := "g", type := .int, accessFlags := 2, slot := 23, constantValue := 0 }]
  methods := #[k2m0, k2m1, k2m2, k2m3, k2m4, k2m5, k2m6, k2m7, k2m8, k2m9, k2m10, k2m11, k2m12, k2m13, k2m14, k2m15, k2m16, k2m17, k2m18, k2m19, k2m20, k2m21, k2m22, k2m23, k2m24, k2m25, k2m26, k2m27, k2m28, k2m29, k2m30, k2m31, k2m32, k2m33]
  instanceTypes := #[.int, .int, .int, .int, (.array .int), (.array .int), (.array .int), (.array .boolean), (.array .boolean), (.array .int), (.array .int), (.array .int), (.array .int), (.array .boolean), (.array .int), (.array .int), (.array .int), (.array .int), .int, .int, .int, .int, .int, .int]
  staticTypes := #[.int, .int, .int, .int, .int, .int, .int, .int, .int, .int, .int, .int, .int, .int, .int, .int, .int, .int, .int]
  resolved := Array.replicate 204 none
  statics := none }

def pool3 : Array CpInfo := pool [(1, u "java/lang/Cloneable"), (0, .class_ 1), (0, u "java/lang/Object"), (0, .class_ 3)] 3

/-- java/lang/Cloneable -/
def k3 : Class := { plain "java/lang/Cloneable" (some 0) with
  accessFlags := 1537
  interfaces := #[]
  cf := some (fileOf pool3 2 #[] #[] 1537 4 #[] #[])
  fields := #[]
  methods := #[]
  instanceTypes := #[]
  staticTypes := #[]
  resolved := Array.replicate 8 none
  statics := none }

def pool4 : Array CpInfo := pool [(1, u "java/io/Serializable"), (0, .class_ 1), (0, u "java/lang/Object"), (0, .class_ 3)] 3

/-- java/io/Serializable -/
def k4 : Class := { plain "java/io/Serializable" (some 0) with
  accessFlags := 1537
  interfaces := #[]
  cf := some (fileOf pool4 2 #[] #[] 1537 4 #[] #[])
  fields := #[]
  methods := #[]
  instanceTypes := #[]
  staticTypes := #[]
  resolved := Array.replicate 8 none
  statics := none }

/-- the primitive boolean -/
def k5 : Class := { plain "boolean" none with kind := .primitive 'Z', accessFlags := 0x411 }
/-- [Z -/
def k6 : Class := { plain "[Z" (some 0) with kind := .array 5 .boolean, interfaces := #[3, 4], accessFlags := 1041 }

/-- the primitive byte -/
def k7 : Class := { plain "byte" none with kind := .primitive 'B', accessFlags := 0x411 }
/-- [B -/
def k8 : Class := { plain "[B" (some 0) with kind := .array 7 .byte, interfaces := #[3, 4], accessFlags := 1041 }

/-- the primitive int -/
def k9 : Class := { plain "int" none with kind := .primitive 'I', accessFlags := 0x411 }
/-- [I -/
def k10 : Class := { plain "[I" (some 0) with kind := .array 9 .int, interfaces := #[3, 4], accessFlags := 1041 }

def heap : Heap := #[{ cls := 10, slots := #[.int 0, .int 3, .int 5, .int 1], vm := .none }]
def classes : Array Class := #[k0, k1, k2, k3, k4, k5, k6, k7, k8, k9, k10]
def interned : List (Array UInt16 × Addr) := []
def slotsUsed : Nat := 4
def theMethod : MethodId := ⟨1, 1⟩
def args0 : Array Value := #[.ref 0]
def aboutOver (below : List Frame) : State where
  vm := { classes := classes, interned := interned.toArray }
  heap := heap
  slotsUsed := slotsUsed
  threads := #[{ frames := .invoking theMethod args0 :: below }]
def below0 : List Frame := [.native { method := ⟨0, 0⟩, args := #[] }]
def about1 : State := aboutOver below0
def p0 : Program := .bare "" "" ""
def e0 : Env := launch0.env 0 0 0
theorem w_frames : about1.frames = Frame.invoking theMethod args0 :: below0 := rfl
set_option maxRecDepth 65536 in
theorem w_args : argsFit about1.vm theMethod args0 = true := by decide +kernel
set_option maxRecDepth 65536 in
theorem w_heap : heapFits about1 = true := by decide +kernel
set_option maxRecDepth 65536 in
theorem w_runnable : about1.curStatus? = some .runnable := by decide +kernel
set_option maxRecDepth 65536 in
theorem w_alone : about1.alone = true := by decide +kernel
set_option maxRecDepth 65536 in
theorem w_named : about1.methodNamed? x = some theMethod := by decide +kernel
set_option maxRecDepth 65536 in
theorem w_hears : about1.hears theMethod below0 = true := by decide +kernel
set_option maxRecDepth 65536 in
theorem w_ripe : about1.ripe theMethod args0 below0 = true := by decide +kernel
theorem w_running : about1.status = .running := rfl
set_option maxRecDepth 65536 in
theorem w_room : about1.hasRoom e0.platform room_1 = true :=
  launch0.hasRoom_least _ room_1 (by decide +kernel) (by decide +kernel) (by decide +kernel) (by decide +kernel) (by decide +kernel) (by decide +kernel)
theorem allAtoms_all (ts : List Jvm.Cond) (a : Array Jvm.Value) (st : Jvm.State) : (allAtoms ts).before a st = ts.all (fun c => c.before a st) := by
  induction ts with
  | nil => rfl
  | cons c t ih =>
    show (Jvm.Cond.and c (allAtoms t)).before a st = _
    rw [Jvm.Cond.before_and, ih, List.all_cons]
def words1 : List Jvm.Cond := Jvm.Cond.code x code maxLocals ret :: tables_1
/-- a 'code' word, met by the world's own term for the bytes: nothing is compared byte by byte -/
theorem code_word {y : MethodName} {bytes : ByteArray} {mx : Nat} {rt : Option FieldType} {a : Array Value} {s : State} {m : MethodId} {meth : Method} {c : Code} (h1 : s.methodNamed? y = some m) (h2 : s.vm.method? m = some meth) (h3 : meth.code = some c) (h4 : c.code = bytes)
    (h5 : (c.maxLocals == mx && c.exceptionTable.isEmpty && decide (c.maxStack ≤ mostOperands) && decide (meth.sig.returnType = rt) && !meth.locks && decide (parseMethodDescriptor y.desc = some meth.sig)) = true) : (Jvm.Cond.code y bytes mx rt).before a s = true := by
  simp only [Bool.and_eq_true, beq_iff_eq, Bool.not_eq_true', decide_eq_true_eq] at h5
  obtain ⟨⟨⟨⟨⟨g1, g2⟩, g3⟩, g4⟩, g5⟩, g6⟩ := h5
  simp [Cond.before, Cond.holds, Cond.value, h1, h2, h3, h4, g1, g2, g3, g4, g5, g6]
def isCode : Jvm.Cond → Bool
  | .code _ _ _ _ => true
  | _ => false
theorem all_split {L : List Jvm.Cond} {P : Jvm.Cond → Bool} (h1 : L.all (fun c => isCode c || P c) = true) (h2 : ∀ c ∈ L.filter isCode, P c = true) : L.all P = true := by
  refine List.all_eq_true.mpr fun c hc => ?_
  have h := List.all_eq_true.mp h1 c hc
  rcases Bool.eq_false_or_eq_true (isCode c) with hi | hi
  · exact h2 c (List.mem_filter.mpr ⟨hc, hi⟩)
  · simpa [hi] using h
set_option maxRecDepth 65536 in
theorem w_c0 : (Jvm.Cond.code x code maxLocals ret).before args0 about1 = true := code_word (m := ⟨1, 1⟩) (meth := k1m1) (c := k1c1) (by decide +kernel) rfl rfl rfl (by decide +kernel)
set_option maxRecDepth 65536 in
theorem w_c1 : (Jvm.Cond.code ({ cls := "EpidemicTrace", name := "<init>", desc := "(IIII)V" } : Jvm.MethodName) prog_1_method_1_code (6 : Nat) (Option.none : Option Jvm.ClassFile.FieldType)).before args0 about1 = true := code_word (m := ⟨2, 0⟩) (meth := k2m0) (c := k2c0) (by decide +kernel) rfl rfl rfl (by decide +kernel)
set_option maxRecDepth 65536 in
theorem w_c2 : (Jvm.Cond.code ({ cls := "java/lang/Object", name := "<init>", desc := "()V" } : Jvm.MethodName) object_method_1_code (1 : Nat) (Option.none : Option Jvm.ClassFile.FieldType)).before args0 about1 = true := code_word (m := ⟨0, 0⟩) (meth := k0m0) (c := k0c0) (by decide +kernel) rfl rfl rfl (by decide +kernel)
set_option maxRecDepth 65536 in
theorem w_c3 : (Jvm.Cond.code ({ cls := "EpidemicTrace", name := "clamp", desc := "(III)I" } : Jvm.MethodName) prog_1_method_17_code (4 : Nat) (Option.some Jvm.ClassFile.FieldType.int)).before args0 about1 = true := code_word (m := ⟨2, 16⟩) (meth := k2m16) (c := k2c16) (by decide +kernel) rfl rfl rfl (by decide +kernel)
set_option maxRecDepth 65536 in
theorem w_c4 : (Jvm.Cond.code ({ cls := "EpidemicTrace", name := "infect", desc := "(I)Z" } : Jvm.MethodName) prog_1_method_5_code (2 : Nat) (Option.some Jvm.ClassFile.FieldType.boolean)).before args0 about1 = true := code_word (m := ⟨2, 4⟩) (meth := k2m4) (c := k2c4) (by decide +kernel) rfl rfl rfl (by decide +kernel)
set_option maxRecDepth 65536 in
theorem w_c5 : (Jvm.Cond.code ({ cls := "EpidemicTrace", name := "valid", desc := "(I)Z" } : Jvm.MethodName) prog_1_method_18_code (2 : Nat) (Option.some Jvm.ClassFile.FieldType.boolean)).before args0 about1 = true := code_word (m := ⟨2, 17⟩) (meth := k2m17) (c := k2c17) (by decide +kernel) rfl rfl rfl (by decide +kernel)
set_option maxRecDepth 65536 in
theorem w_c6 : (Jvm.Cond.code ({ cls := "EpidemicTraceL7", name := "same", desc := "(LEpidemicTrace;LEpidemicTrace;)Z" } : Jvm.MethodName) method_3_code (3 : Nat) (Option.some Jvm.ClassFile.FieldType.boolean)).before args0 about1 = true := code_word (m := ⟨1, 2⟩) (meth := k1m2) (c := k1c2) (by decide +kernel) rfl rfl rfl (by decide +kernel)
set_option maxRecDepth 65536 in
theorem w_c7 : (Jvm.Cond.code ({ cls := "EpidemicTrace", name := "count", desc := "(I)I" } : Jvm.MethodName) prog_1_method_16_code (2 : Nat) (Option.some Jvm.ClassFile.FieldType.int)).before args0 about1 = true := code_word (m := ⟨2, 15⟩) (meth := k2m15) (c := k2c15) (by decide +kernel) rfl rfl rfl (by decide +kernel)
set_option maxRecDepth 65536 in
theorem w_c8 : (Jvm.Cond.code ({ cls := "EpidemicTrace", name := "countCompartment", desc := "(I)I" } : Jvm.MethodName) prog_1_method_31_code (4 : Nat) (Option.some Jvm.ClassFile.FieldType.int)).before args0 about1 = true := code_word (m := ⟨2, 30⟩) (meth := k2m30) (c := k2c30) (by decide +kernel) rfl rfl rfl (by decide +kernel)
set_option maxRecDepth 65536 in
theorem w_c9 : (Jvm.Cond.code ({ cls := "EpidemicTrace", name := "countQuarantined", desc := "()I" } : Jvm.MethodName) prog_1_method_32_code (3 : Nat) (Option.some Jvm.ClassFile.FieldType.int)).before args0 about1 = true := code_word (m := ⟨2, 31⟩) (meth := k2m31) (c := k2c31) (by decide +kernel) rfl rfl rfl (by decide +kernel)
set_option maxRecDepth 65536 in
theorem w_c10 : (Jvm.Cond.code ({ cls := "EpidemicTrace", name := "countFlag", desc := "(Z)I" } : Jvm.MethodName) prog_1_method_33_code (5 : Nat) (Option.some Jvm.ClassFile.FieldType.int)).before args0 about1 = true := code_word (m := ⟨2, 32⟩) (meth := k2m32) (c := k2c32) (by decide +kernel) rfl rfl rfl (by decide +kernel)
set_option maxRecDepth 65536 in
theorem w_c11 : (Jvm.Cond.code ({ cls := "EpidemicTrace", name := "countInfected", desc := "()I" } : Jvm.MethodName) prog_1_method_34_code (3 : Nat) (Option.some Jvm.ClassFile.FieldType.int)).before args0 about1 = true := code_word (m := ⟨2, 33⟩) (meth := k2m33) (c := k2c33) (by decide +kernel) rfl rfl rfl (by decide +kernel)
set_option maxRecDepth 65536 in
theorem w_c12 : (Jvm.Cond.code ({ cls := "EpidemicTrace", name := "compartment", desc := "(I)I" } : Jvm.MethodName) prog_1_method_8_code (2 : Nat) (Option.some Jvm.ClassFile.FieldType.int)).before args0 about1 = true := code_word (m := ⟨2, 7⟩) (meth := k2m7) (c := k2c7) (by decide +kernel) rfl rfl rfl (by decide +kernel)
set_option maxRecDepth 65536 in
theorem w_c13 : (Jvm.Cond.code ({ cls := "EpidemicTrace", name := "timer", desc := "(I)I" } : Jvm.MethodName) prog_1_method_9_code (2 : Nat) (Option.some Jvm.ClassFile.FieldType.int)).before args0 about1 = true := code_word (m := ⟨2, 8⟩) (meth := k2m8) (c := k2c8) (by decide +kernel) rfl rfl rfl (by decide +kernel)
set_option maxRecDepth 65536 in
theorem w_c14 : (Jvm.Cond.code ({ cls := "EpidemicTrace", name := "quarantineLeft", desc := "(I)I" } : Jvm.MethodName) prog_1_method_10_code (2 : Nat) (Option.some Jvm.ClassFile.FieldType.int)).before args0 about1 = true := code_word (m := ⟨2, 9⟩) (meth := k2m9) (c := k2c9) (by decide +kernel) rfl rfl rfl (by decide +kernel)
set_option maxRecDepth 65536 in
theorem w_c15 : (Jvm.Cond.code ({ cls := "EpidemicTrace", name := "flags", desc := "(I)I" } : Jvm.MethodName) prog_1_method_11_code (3 : Nat) (Option.some Jvm.ClassFile.FieldType.int)).before args0 about1 = true := code_word (m := ⟨2, 10⟩) (meth := k2m10) (c := k2c10) (by decide +kernel) rfl rfl rfl (by decide +kernel)
set_option maxRecDepth 65536 in
theorem w_c16 : (Jvm.Cond.code ({ cls := "EpidemicTrace", name := "source", desc := "(I)I" } : Jvm.MethodName) prog_1_method_12_code (2 : Nat) (Option.some Jvm.ClassFile.FieldType.int)).before args0 about1 = true := code_word (m := ⟨2, 11⟩) (meth := k2m11) (c := k2c11) (by decide +kernel) rfl rfl rfl (by decide +kernel)
set_option maxRecDepth 65536 in
theorem w_c17 : (Jvm.Cond.code ({ cls := "EpidemicTrace", name := "infectionDay", desc := "(I)I" } : Jvm.MethodName) prog_1_method_13_code (2 : Nat) (Option.some Jvm.ClassFile.FieldType.int)).before args0 about1 = true := code_word (m := ⟨2, 12⟩) (meth := k2m12) (c := k2c12) (by decide +kernel) rfl rfl rfl (by decide +kernel)
set_option maxRecDepth 65536 in
theorem w_c18 : (Jvm.Cond.code ({ cls := "EpidemicTrace", name := "generation", desc := "(I)I" } : Jvm.MethodName) prog_1_method_14_code (2 : Nat) (Option.some Jvm.ClassFile.FieldType.int)).before args0 about1 = true := code_word (m := ⟨2, 13⟩) (meth := k2m13) (c := k2c13) (by decide +kernel) rfl rfl rfl (by decide +kernel)
set_option maxRecDepth 65536 in
theorem w_c19 : (Jvm.Cond.code ({ cls := "EpidemicTrace", name := "secondaryCases", desc := "(I)I" } : Jvm.MethodName) prog_1_method_15_code (4 : Nat) (Option.some Jvm.ClassFile.FieldType.int)).before args0 about1 = true := code_word (m := ⟨2, 14⟩) (meth := k2m14) (c := k2c14) (by decide +kernel) rfl rfl rfl (by decide +kernel)
set_option maxRecDepth 65536 in
theorem w_c20 : (Jvm.Cond.code ({ cls := "EpidemicTrace", name := "setCapacity", desc := "(I)I" } : Jvm.MethodName) prog_1_method_3_code (2 : Nat) (Option.some Jvm.ClassFile.FieldType.int)).before args0 about1 = true := code_word (m := ⟨2, 2⟩) (meth := k2m2) (c := k2c2) (by decide +kernel) rfl rfl rfl (by decide +kernel)
set_option maxRecDepth 65536 in
theorem w_c21 : (Jvm.Cond.code ({ cls := "EpidemicTrace", name := "seedRandom", desc := "(I)V" } : Jvm.MethodName) prog_1_method_2_code (2 : Nat) (Option.none : Option Jvm.ClassFile.FieldType)).before args0 about1 = true := code_word (m := ⟨2, 1⟩) (meth := k2m1) (c := k2c1) (by decide +kernel) rfl rfl rfl (by decide +kernel)
set_option maxRecDepth 65536 in
theorem w_c22 : (Jvm.Cond.code ({ cls := "EpidemicTrace", name := "addEdge", desc := "(III)I" } : Jvm.MethodName) prog_1_method_4_code (5 : Nat) (Option.some Jvm.ClassFile.FieldType.int)).before args0 about1 = true := code_word (m := ⟨2, 3⟩) (meth := k2m3) (c := k2c3) (by decide +kernel) rfl rfl rfl (by decide +kernel)
set_option maxRecDepth 65536 in
theorem w_c23 : (Jvm.Cond.code ({ cls := "EpidemicTrace", name := "edgeExists", desc := "(II)Z" } : Jvm.MethodName) prog_1_method_20_code (6 : Nat) (Option.some Jvm.ClassFile.FieldType.boolean)).before args0 about1 = true := code_word (m := ⟨2, 19⟩) (meth := k2m19) (c := k2c19) (by decide +kernel) rfl rfl rfl (by decide +kernel)
set_option maxRecDepth 65536 in
theorem w_c24 : (Jvm.Cond.code ({ cls := "EpidemicTrace", name := "run", desc := "(I)I" } : Jvm.MethodName) prog_1_method_7_code (4 : Nat) (Option.some Jvm.ClassFile.FieldType.int)).before args0 about1 = true := code_word (m := ⟨2, 6⟩) (meth := k2m6) (c := k2c6) (by decide +kernel) rfl rfl rfl (by decide +kernel)
set_option maxRecDepth 65536 in
theorem w_c25 : (Jvm.Cond.code ({ cls := "EpidemicTrace", name := "requestTest", desc := "(I)Z" } : Jvm.MethodName) prog_1_method_6_code (2 : Nat) (Option.some Jvm.ClassFile.FieldType.boolean)).before args0 about1 = true := code_word (m := ⟨2, 5⟩) (meth := k2m5) (c := k2c5) (by decide +kernel) rfl rfl rfl (by decide +kernel)
set_option maxRecDepth 65536 in
theorem w_c26 : (Jvm.Cond.code ({ cls := "EpidemicTrace", name := "simulateDay", desc := "()V" } : Jvm.MethodName) prog_1_method_21_code (1 : Nat) (Option.none : Option Jvm.ClassFile.FieldType)).before args0 about1 = true := code_word (m := ⟨2, 20⟩) (meth := k2m20) (c := k2c20) (by decide +kernel) rfl rfl rfl (by decide +kernel)
set_option maxRecDepth 65536 in
theorem w_c27 : (Jvm.Cond.code ({ cls := "EpidemicTrace", name := "snapshot", desc := "()V" } : Jvm.MethodName) prog_1_method_22_code (2 : Nat) (Option.none : Option Jvm.ClassFile.FieldType)).before args0 about1 = true := code_word (m := ⟨2, 21⟩) (meth := k2m21) (c := k2c21) (by decide +kernel) rfl rfl rfl (by decide +kernel)
set_option maxRecDepth 65536 in
theorem w_c28 : (Jvm.Cond.code ({ cls := "EpidemicTrace", name := "transmit", desc := "()V" } : Jvm.MethodName) prog_1_method_24_code (4 : Nat) (Option.none : Option Jvm.ClassFile.FieldType)).before args0 about1 = true := code_word (m := ⟨2, 23⟩) (meth := k2m23) (c := k2c23) (by decide +kernel) rfl rfl rfl (by decide +kernel)
set_option maxRecDepth 65536 in
theorem w_c29 : (Jvm.Cond.code ({ cls := "EpidemicTrace", name := "canInfect", desc := "(II)Z" } : Jvm.MethodName) prog_1_method_23_code (3 : Nat) (Option.some Jvm.ClassFile.FieldType.boolean)).before args0 about1 = true := code_word (m := ⟨2, 22⟩) (meth := k2m22) (c := k2c22) (by decide +kernel) rfl rfl rfl (by decide +kernel)
set_option maxRecDepth 65536 in
theorem w_c30 : (Jvm.Cond.code ({ cls := "EpidemicTrace", name := "progress", desc := "()V" } : Jvm.MethodName) prog_1_method_26_code (2 : Nat) (Option.none : Option Jvm.ClassFile.FieldType)).before args0 about1 = true := code_word (m := ⟨2, 25⟩) (meth := k2m25) (c := k2c25) (by decide +kernel) rfl rfl rfl (by decide +kernel)
set_option maxRecDepth 65536 in
theorem w_c31 : (Jvm.Cond.code ({ cls := "EpidemicTrace", name := "quarantineTick", desc := "()V" } : Jvm.MethodName) prog_1_method_27_code (2 : Nat) (Option.none : Option Jvm.ClassFile.FieldType)).before args0 about1 = true := code_word (m := ⟨2, 26⟩) (meth := k2m26) (c := k2c26) (by decide +kernel) rfl rfl rfl (by decide +kernel)
set_option maxRecDepth 65536 in
theorem w_c32 : (Jvm.Cond.code ({ cls := "EpidemicTrace", name := "testing", desc := "()V" } : Jvm.MethodName) prog_1_method_28_code (3 : Nat) (Option.none : Option Jvm.ClassFile.FieldType)).before args0 about1 = true := code_word (m := ⟨2, 27⟩) (meth := k2m27) (c := k2c27) (by decide +kernel) rfl rfl rfl (by decide +kernel)
set_option maxRecDepth 65536 in
theorem w_c33 : (Jvm.Cond.code ({ cls := "EpidemicTrace", name := "tryInfect", desc := "(III)V" } : Jvm.MethodName) prog_1_method_25_code (5 : Nat) (Option.none : Option Jvm.ClassFile.FieldType)).before args0 about1 = true := code_word (m := ⟨2, 24⟩) (meth := k2m24) (c := k2c24) (by decide +kernel) rfl rfl rfl (by decide +kernel)
set_option maxRecDepth 65536 in
theorem w_c34 : (Jvm.Cond.code ({ cls := "EpidemicTrace", name := "draw", desc := "()I" } : Jvm.MethodName) prog_1_method_19_code (1 : Nat) (Option.some Jvm.ClassFile.FieldType.int)).before args0 about1 = true := code_word (m := ⟨2, 18⟩) (meth := k2m18) (c := k2c18) (by decide +kernel) rfl rfl rfl (by decide +kernel)
set_option maxRecDepth 65536 in
theorem w_c35 : (Jvm.Cond.code ({ cls := "EpidemicTrace", name := "testOne", desc := "(I)V" } : Jvm.MethodName) prog_1_method_29_code (2 : Nat) (Option.none : Option Jvm.ClassFile.FieldType)).before args0 about1 = true := code_word (m := ⟨2, 28⟩) (meth := k2m28) (c := k2c28) (by decide +kernel) rfl rfl rfl (by decide +kernel)
set_option maxRecDepth 65536 in
theorem w_c36 : (Jvm.Cond.code ({ cls := "EpidemicTrace", name := "trace", desc := "(I)V" } : Jvm.MethodName) prog_1_method_30_code (4 : Nat) (Option.none : Option Jvm.ClassFile.FieldType)).before args0 about1 = true := code_word (m := ⟨2, 29⟩) (meth := k2m29) (c := k2c29) (by decide +kernel) rfl rfl rfl (by decide +kernel)
def codes1 : List Jvm.Cond := [Jvm.Cond.code x code maxLocals ret, Jvm.Cond.code ({ cls := "EpidemicTrace", name := "<init>", desc := "(IIII)V" } : Jvm.MethodName) prog_1_method_1_code (6 : Nat) (Option.none : Option Jvm.ClassFile.FieldType), Jvm.Cond.code ({ cls := "java/lang/Object", name := "<init>", desc := "()V" } : Jvm.MethodName) object_method_1_code (1 : Nat) (Option.none : Option Jvm.ClassFile.FieldType), Jvm.Cond.code ({ cls := "EpidemicTrace", name := "clamp", desc := "(III)I" } : Jvm.MethodName) prog_1_method_17_code (4 : Nat) (Option.some Jvm.ClassFile.FieldType.int), Jvm.Cond.code ({ cls := "EpidemicTrace", name := "infect", desc := "(I)Z" } : Jvm.MethodName) prog_1_method_5_code (2 : Nat) (Option.some Jvm.ClassFile.FieldType.boolean), Jvm.Cond.code ({ cls := "EpidemicTrace", name := "valid", desc := "(I)Z" } : Jvm.MethodName) prog_1_method_18_code (2 : Nat) (Option.some Jvm.ClassFile.FieldType.boolean), Jvm.Cond.code ({ cls := "EpidemicTraceL7", name := "same", desc := "(LEpidemicTrace;LEpidemicTrace;)Z" } : Jvm.MethodName) method_3_code (3 : Nat) (Option.some Jvm.ClassFile.FieldType.boolean), Jvm.Cond.code ({ cls := "EpidemicTrace", name := "count", desc := "(I)I" } : Jvm.MethodName) prog_1_method_16_code (2 : Nat) (Option.some Jvm.ClassFile.FieldType.int), Jvm.Cond.code ({ cls := "EpidemicTrace", name := "countCompartment", desc := "(I)I" } : Jvm.MethodName) prog_1_method_31_code (4 : Nat) (Option.some Jvm.ClassFile.FieldType.int), Jvm.Cond.code ({ cls := "EpidemicTrace", name := "countQuarantined", desc := "()I" } : Jvm.MethodName) prog_1_method_32_code (3 : Nat) (Option.some Jvm.ClassFile.FieldType.int), Jvm.Cond.code ({ cls := "EpidemicTrace", name := "countFlag", desc := "(Z)I" } : Jvm.MethodName) prog_1_method_33_code (5 : Nat) (Option.some Jvm.ClassFile.FieldType.int), Jvm.Cond.code ({ cls := "EpidemicTrace", name := "countInfected", desc := "()I" } : Jvm.MethodName) prog_1_method_34_code (3 : Nat) (Option.some Jvm.ClassFile.FieldType.int), Jvm.Cond.code ({ cls := "EpidemicTrace", name := "compartment", desc := "(I)I" } : Jvm.MethodName) prog_1_method_8_code (2 : Nat) (Option.some Jvm.ClassFile.FieldType.int), Jvm.Cond.code ({ cls := "EpidemicTrace", name := "timer", desc := "(I)I" } : Jvm.MethodName) prog_1_method_9_code (2 : Nat) (Option.some Jvm.ClassFile.FieldType.int), Jvm.Cond.code ({ cls := "EpidemicTrace", name := "quarantineLeft", desc := "(I)I" } : Jvm.MethodName) prog_1_method_10_code (2 : Nat) (Option.some Jvm.ClassFile.FieldType.int), Jvm.Cond.code ({ cls := "EpidemicTrace", name := "flags", desc := "(I)I" } : Jvm.MethodName) prog_1_method_11_code (3 : Nat) (Option.some Jvm.ClassFile.FieldType.int), Jvm.Cond.code ({ cls := "EpidemicTrace", name := "source", desc := "(I)I" } : Jvm.MethodName) prog_1_method_12_code (2 : Nat) (Option.some Jvm.ClassFile.FieldType.int), Jvm.Cond.code ({ cls := "EpidemicTrace", name := "infectionDay", desc := "(I)I" } : Jvm.MethodName) prog_1_method_13_code (2 : Nat) (Option.some Jvm.ClassFile.FieldType.int), Jvm.Cond.code ({ cls := "EpidemicTrace", name := "generation", desc := "(I)I" } : Jvm.MethodName) prog_1_method_14_code (2 : Nat) (Option.some Jvm.ClassFile.FieldType.int), Jvm.Cond.code ({ cls := "EpidemicTrace", name := "secondaryCases", desc := "(I)I" } : Jvm.MethodName) prog_1_method_15_code (4 : Nat) (Option.some Jvm.ClassFile.FieldType.int), Jvm.Cond.code ({ cls := "EpidemicTrace", name := "setCapacity", desc := "(I)I" } : Jvm.MethodName) prog_1_method_3_code (2 : Nat) (Option.some Jvm.ClassFile.FieldType.int), Jvm.Cond.code ({ cls := "EpidemicTrace", name := "seedRandom", desc := "(I)V" } : Jvm.MethodName) prog_1_method_2_code (2 : Nat) (Option.none : Option Jvm.ClassFile.FieldType), Jvm.Cond.code ({ cls := "EpidemicTrace", name := "addEdge", desc := "(III)I" } : Jvm.MethodName) prog_1_method_4_code (5 : Nat) (Option.some Jvm.ClassFile.FieldType.int), Jvm.Cond.code ({ cls := "EpidemicTrace", name := "edgeExists", desc := "(II)Z" } : Jvm.MethodName) prog_1_method_20_code (6 : Nat) (Option.some Jvm.ClassFile.FieldType.boolean), Jvm.Cond.code ({ cls := "EpidemicTrace", name := "run", desc := "(I)I" } : Jvm.MethodName) prog_1_method_7_code (4 : Nat) (Option.some Jvm.ClassFile.FieldType.int), Jvm.Cond.code ({ cls := "EpidemicTrace", name := "requestTest", desc := "(I)Z" } : Jvm.MethodName) prog_1_method_6_code (2 : Nat) (Option.some Jvm.ClassFile.FieldType.boolean), Jvm.Cond.code ({ cls := "EpidemicTrace", name := "simulateDay", desc := "()V" } : Jvm.MethodName) prog_1_method_21_code (1 : Nat) (Option.none : Option Jvm.ClassFile.FieldType), Jvm.Cond.code ({ cls := "EpidemicTrace", name := "snapshot", desc := "()V" } : Jvm.MethodName) prog_1_method_22_code (2 : Nat) (Option.none : Option Jvm.ClassFile.FieldType), Jvm.Cond.code ({ cls := "EpidemicTrace", name := "transmit", desc := "()V" } : Jvm.MethodName) prog_1_method_24_code (4 : Nat) (Option.none : Option Jvm.ClassFile.FieldType), Jvm.Cond.code ({ cls := "EpidemicTrace", name := "canInfect", desc := "(II)Z" } : Jvm.MethodName) prog_1_method_23_code (3 : Nat) (Option.some Jvm.ClassFile.FieldType.boolean), Jvm.Cond.code ({ cls := "EpidemicTrace", name := "progress", desc := "()V" } : Jvm.MethodName) prog_1_method_26_code (2 : Nat) (Option.none : Option Jvm.ClassFile.FieldType), Jvm.Cond.code ({ cls := "EpidemicTrace", name := "quarantineTick", desc := "()V" } : Jvm.MethodName) prog_1_method_27_code (2 : Nat) (Option.none : Option Jvm.ClassFile.FieldType), Jvm.Cond.code ({ cls := "EpidemicTrace", name := "testing", desc := "()V" } : Jvm.MethodName) prog_1_method_28_code (3 : Nat) (Option.none : Option Jvm.ClassFile.FieldType), Jvm.Cond.code ({ cls := "EpidemicTrace", name := "tryInfect", desc := "(III)V" } : Jvm.MethodName) prog_1_method_25_code (5 : Nat) (Option.none : Option Jvm.ClassFile.FieldType), Jvm.Cond.code ({ cls := "EpidemicTrace", name := "draw", desc := "()I" } : Jvm.MethodName) prog_1_method_19_code (1 : Nat) (Option.some Jvm.ClassFile.FieldType.int), Jvm.Cond.code ({ cls := "EpidemicTrace", name := "testOne", desc := "(I)V" } : Jvm.MethodName) prog_1_method_29_code (2 : Nat) (Option.none : Option Jvm.ClassFile.FieldType), Jvm.Cond.code ({ cls := "EpidemicTrace", name := "trace", desc := "(I)V" } : Jvm.MethodName) prog_1_method_30_code (4 : Nat) (Option.none : Option Jvm.ClassFile.FieldType)]
set_option maxRecDepth 65536 in
theorem codes_eq : words1.filter isCode = codes1 := rfl
theorem w_codes : ∀ c ∈ words1.filter isCode, c.before args0 about1 = true := by
  rw [codes_eq]
  intro c hc
  simp only [codes1, List.mem_cons, List.not_mem_nil, or_false] at hc
  rcases hc with rfl | rfl | rfl | rfl | rfl | rfl | rfl | rfl | rfl | rfl | rfl | rfl | rfl | rfl | rfl | rfl | rfl | rfl | rfl | rfl | rfl | rfl | rfl | rfl | rfl | rfl | rfl | rfl | rfl | rfl | rfl | rfl | rfl | rfl | rfl | rfl | rfl
  · exact w_c0
  · exact w_c1
  · exact w_c2
  · exact w_c3
  · exact w_c4
  · exact w_c5
  · exact w_c6
  · exact w_c7
  · exact w_c8
  · exact w_c9
  · exact w_c10
  · exact w_c11
  · exact w_c12
  · exact w_c13
  · exact w_c14
  · exact w_c15
  · exact w_c16
  · exact w_c17
  · exact w_c18
  · exact w_c19
  · exact w_c20
  · exact w_c21
  · exact w_c22
  · exact w_c23
  · exact w_c24
  · exact w_c25
  · exact w_c26
  · exact w_c27
  · exact w_c28
  · exact w_c29
  · exact w_c30
  · exact w_c31
  · exact w_c32
  · exact w_c33
  · exact w_c34
  · exact w_c35
  · exact w_c36
set_option maxRecDepth 65536 in
theorem w_t1 : (words1.take 24).all (fun c => isCode c || c.before args0 about1) = true := by decide +kernel
set_option maxRecDepth 65536 in
theorem w_t2 : ((words1.drop 24).take 24).all (fun c => isCode c || c.before args0 about1) = true := by decide +kernel
set_option maxRecDepth 65536 in
theorem w_t3 : (((words1.drop 24).drop 24).take 24).all (fun c => isCode c || c.before args0 about1) = true := by decide +kernel
set_option maxRecDepth 65536 in
theorem w_t4 : ((((words1.drop 24).drop 24).drop 24).take 24).all (fun c => isCode c || c.before args0 about1) = true := by decide +kernel
set_option maxRecDepth 65536 in
theorem w_t5 : (((((words1.drop 24).drop 24).drop 24).drop 24).take 24).all (fun c => isCode c || c.before args0 about1) = true := by decide +kernel
set_option maxRecDepth 65536 in
theorem w_t6 : ((((((words1.drop 24).drop 24).drop 24).drop 24).drop 24).take 24).all (fun c => isCode c || c.before args0 about1) = true := by decide +kernel
set_option maxRecDepth 65536 in
theorem w_t7 : (((((((words1.drop 24).drop 24).drop 24).drop 24).drop 24).drop 24).take 24).all (fun c => isCode c || c.before args0 about1) = true := by decide +kernel
set_option maxRecDepth 65536 in
theorem w_t8 : ((((((((words1.drop 24).drop 24).drop 24).drop 24).drop 24).drop 24).drop 24).take 24).all (fun c => isCode c || c.before args0 about1) = true := by decide +kernel
set_option maxRecDepth 65536 in
theorem w_t9 : ((((((((words1.drop 24).drop 24).drop 24).drop 24).drop 24).drop 24).drop 24).drop 24).all (fun c => isCode c || c.before args0 about1) = true := by decide +kernel
theorem w_tables : (allAtoms (Jvm.Cond.code x code maxLocals ret :: tables_1)).before args0 about1 = true := by
  rw [allAtoms_all]
  show words1.all (fun c => c.before args0 about1) = true
  refine all_split ?_ w_codes
  rw [← List.take_append_drop 24 words1, List.all_append, w_t1, ← List.take_append_drop 24 (words1.drop 24), List.all_append, w_t2, ← List.take_append_drop 24 ((words1.drop 24).drop 24), List.all_append, w_t3, ← List.take_append_drop 24 (((words1.drop 24).drop 24).drop 24), List.all_append, w_t4, ← List.take_append_drop 24 ((((words1.drop 24).drop 24).drop 24).drop 24), List.all_append, w_t5, ← List.take_append_drop 24 (((((words1.drop 24).drop 24).drop 24).drop 24).drop 24), List.all_append, w_t6, ← List.take_append_drop 24 ((((((words1.drop 24).drop 24).drop 24).drop 24).drop 24).drop 24), List.all_append, w_t7, ← List.take_append_drop 24 (((((((words1.drop 24).drop 24).drop 24).drop 24).drop 24).drop 24).drop 24), List.all_append, w_t8, w_t9]
  rfl
set_option maxRecDepth 65536 in
theorem w_rest : rest_1_c.before args0 about1 = true := by decide +kernel
set_option maxRecDepth 65536 in
theorem w_case : (Jvm.Cond.and given_1 narrow_1).before args0 about1 = true := by decide +kernel
theorem w_applies : (headSpec (Jvm.Cond.code x code maxLocals ret :: tables_1) room_1).applies x e0.platform about1 = true :=
  (Spec.applies_iff w_frames).mpr ⟨w_running, w_runnable, w_alone, w_named, w_hears, w_ripe, w_room, w_tables⟩
theorem atStart : AtStart classFile x code maxLocals ret World_1 tables_1 room_1 Calls_1 rest_1 Pre_1 launch0 p0 e0 about1 theMethod args0 below0 :=
  ⟨lists_1, trivial, launch0.admits_env _ _ _, launch0.least_env, fairChoices_fair.cas, fairChoices_fair.clock, w_frames, w_args, w_heap, w_applies, trivial, w_rest, w_case⟩
end start1
theorem witness_1 : WitnessClaimed_1 := ⟨start1.p0, start1.e0, start1.about1, start1.theMethod, start1.args0, start1.below0, start1.atStart⟩
end Jvm.Pilot.@@N@@
