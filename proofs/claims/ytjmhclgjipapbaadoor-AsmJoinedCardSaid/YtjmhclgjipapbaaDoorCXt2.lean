/- The calculus Xt, second part. -/
import Derived.Test.YtjmhclgjipapbaaDoorCXt
import Derived.LoopN
set_option linter.unusedSectionVars false
set_option linter.unusedVariables false
set_option linter.unusedSimpArgs false

namespace Go.Wk
abbrev yK1 (m : List Mk) : List Mk := .k :: m
abbrev yO1 (s : Nat) (m : List Mk) : List Mk := .o s :: m
theorem aK1 {m : List Mk} {a0 : Value} {l l' : List Value} (h : Ag m l l') : Ag (yK1 m) (a0 :: l) (a0 :: l') := (.k h)
theorem aO1 {m : List Mk} {s : Nat} {a0 b0 : Value} {l l' : List Value} (h : Ag m l l') : Ag (yO1 s m) (a0 :: l) (b0 :: l') := (.o h)
theorem mK1 {t : Nat → Value} {m : List Mk} {a0 : Value} {l l' : List Value} (h : Mg t m l l') : Mg t (yK1 m) (a0 :: l) (a0 :: l') := (mk h)
theorem mO1 {t : Nat → Value} {m : List Mk} {s : Nat} {a0 : Value} {l l' : List Value} (h : Mg t m l l') : Mg t (yO1 s m) (a0 :: l) (t s :: l') := (mo h)
abbrev yK2 (m : List Mk) : List Mk := .k :: .k :: m
abbrev yO2 (s : Nat) (m : List Mk) : List Mk := .o s :: .o (s + 1) :: m
theorem aK2 {m : List Mk} {a0 a1 : Value} {l l' : List Value} (h : Ag m l l') : Ag (yK2 m) (a0 :: a1 :: l) (a0 :: a1 :: l') := (.k (.k h))
theorem aO2 {m : List Mk} {s : Nat} {a0 a1 b0 b1 : Value} {l l' : List Value} (h : Ag m l l') : Ag (yO2 s m) (a0 :: a1 :: l) (b0 :: b1 :: l') := (.o (.o h))
theorem mK2 {t : Nat → Value} {m : List Mk} {a0 a1 : Value} {l l' : List Value} (h : Mg t m l l') : Mg t (yK2 m) (a0 :: a1 :: l) (a0 :: a1 :: l') := (mk (mk h))
theorem mO2 {t : Nat → Value} {m : List Mk} {s : Nat} {a0 a1 : Value} {l l' : List Value} (h : Mg t m l l') : Mg t (yO2 s m) (a0 :: a1 :: l) (t s :: t (s + 1) :: l') := (mo (mo h))
abbrev yK3 (m : List Mk) : List Mk := .k :: .k :: .k :: m
abbrev yO3 (s : Nat) (m : List Mk) : List Mk := .o s :: .o (s + 1) :: .o (s + 2) :: m
theorem aK3 {m : List Mk} {a0 a1 a2 : Value} {l l' : List Value} (h : Ag m l l') : Ag (yK3 m) (a0 :: a1 :: a2 :: l) (a0 :: a1 :: a2 :: l') := (.k (.k (.k h)))
theorem aO3 {m : List Mk} {s : Nat} {a0 a1 a2 b0 b1 b2 : Value} {l l' : List Value} (h : Ag m l l') : Ag (yO3 s m) (a0 :: a1 :: a2 :: l) (b0 :: b1 :: b2 :: l') := (.o (.o (.o h)))
theorem mK3 {t : Nat → Value} {m : List Mk} {a0 a1 a2 : Value} {l l' : List Value} (h : Mg t m l l') : Mg t (yK3 m) (a0 :: a1 :: a2 :: l) (a0 :: a1 :: a2 :: l') := (mk (mk (mk h)))
theorem mO3 {t : Nat → Value} {m : List Mk} {s : Nat} {a0 a1 a2 : Value} {l l' : List Value} (h : Mg t m l l') : Mg t (yO3 s m) (a0 :: a1 :: a2 :: l) (t s :: t (s + 1) :: t (s + 2) :: l') := (mo (mo (mo h)))
abbrev yK4 (m : List Mk) : List Mk := .k :: .k :: .k :: .k :: m
abbrev yO4 (s : Nat) (m : List Mk) : List Mk := .o s :: .o (s + 1) :: .o (s + 2) :: .o (s + 3) :: m
theorem aK4 {m : List Mk} {a0 a1 a2 a3 : Value} {l l' : List Value} (h : Ag m l l') : Ag (yK4 m) (a0 :: a1 :: a2 :: a3 :: l) (a0 :: a1 :: a2 :: a3 :: l') := (.k (.k (.k (.k h))))
theorem aO4 {m : List Mk} {s : Nat} {a0 a1 a2 a3 b0 b1 b2 b3 : Value} {l l' : List Value} (h : Ag m l l') : Ag (yO4 s m) (a0 :: a1 :: a2 :: a3 :: l) (b0 :: b1 :: b2 :: b3 :: l') := (.o (.o (.o (.o h))))
theorem mK4 {t : Nat → Value} {m : List Mk} {a0 a1 a2 a3 : Value} {l l' : List Value} (h : Mg t m l l') : Mg t (yK4 m) (a0 :: a1 :: a2 :: a3 :: l) (a0 :: a1 :: a2 :: a3 :: l') := (mk (mk (mk (mk h))))
theorem mO4 {t : Nat → Value} {m : List Mk} {s : Nat} {a0 a1 a2 a3 : Value} {l l' : List Value} (h : Mg t m l l') : Mg t (yO4 s m) (a0 :: a1 :: a2 :: a3 :: l) (t s :: t (s + 1) :: t (s + 2) :: t (s + 3) :: l') := (mo (mo (mo (mo h))))
abbrev yK5 (m : List Mk) : List Mk := .k :: .k :: .k :: .k :: .k :: m
abbrev yO5 (s : Nat) (m : List Mk) : List Mk := .o s :: .o (s + 1) :: .o (s + 2) :: .o (s + 3) :: .o (s + 4) :: m
theorem aK5 {m : List Mk} {a0 a1 a2 a3 a4 : Value} {l l' : List Value} (h : Ag m l l') : Ag (yK5 m) (a0 :: a1 :: a2 :: a3 :: a4 :: l) (a0 :: a1 :: a2 :: a3 :: a4 :: l') := (.k (.k (.k (.k (.k h)))))
theorem aO5 {m : List Mk} {s : Nat} {a0 a1 a2 a3 a4 b0 b1 b2 b3 b4 : Value} {l l' : List Value} (h : Ag m l l') : Ag (yO5 s m) (a0 :: a1 :: a2 :: a3 :: a4 :: l) (b0 :: b1 :: b2 :: b3 :: b4 :: l') := (.o (.o (.o (.o (.o h)))))
theorem mK5 {t : Nat → Value} {m : List Mk} {a0 a1 a2 a3 a4 : Value} {l l' : List Value} (h : Mg t m l l') : Mg t (yK5 m) (a0 :: a1 :: a2 :: a3 :: a4 :: l) (a0 :: a1 :: a2 :: a3 :: a4 :: l') := (mk (mk (mk (mk (mk h)))))
theorem mO5 {t : Nat → Value} {m : List Mk} {s : Nat} {a0 a1 a2 a3 a4 : Value} {l l' : List Value} (h : Mg t m l l') : Mg t (yO5 s m) (a0 :: a1 :: a2 :: a3 :: a4 :: l) (t s :: t (s + 1) :: t (s + 2) :: t (s + 3) :: t (s + 4) :: l') := (mo (mo (mo (mo (mo h)))))
abbrev yK6 (m : List Mk) : List Mk := .k :: .k :: .k :: .k :: .k :: .k :: m
abbrev yO6 (s : Nat) (m : List Mk) : List Mk := .o s :: .o (s + 1) :: .o (s + 2) :: .o (s + 3) :: .o (s + 4) :: .o (s + 5) :: m
theorem aK6 {m : List Mk} {a0 a1 a2 a3 a4 a5 : Value} {l l' : List Value} (h : Ag m l l') : Ag (yK6 m) (a0 :: a1 :: a2 :: a3 :: a4 :: a5 :: l) (a0 :: a1 :: a2 :: a3 :: a4 :: a5 :: l') := (.k (.k (.k (.k (.k (.k h))))))
theorem aO6 {m : List Mk} {s : Nat} {a0 a1 a2 a3 a4 a5 b0 b1 b2 b3 b4 b5 : Value} {l l' : List Value} (h : Ag m l l') : Ag (yO6 s m) (a0 :: a1 :: a2 :: a3 :: a4 :: a5 :: l) (b0 :: b1 :: b2 :: b3 :: b4 :: b5 :: l') := (.o (.o (.o (.o (.o (.o h))))))
theorem mK6 {t : Nat → Value} {m : List Mk} {a0 a1 a2 a3 a4 a5 : Value} {l l' : List Value} (h : Mg t m l l') : Mg t (yK6 m) (a0 :: a1 :: a2 :: a3 :: a4 :: a5 :: l) (a0 :: a1 :: a2 :: a3 :: a4 :: a5 :: l') := (mk (mk (mk (mk (mk (mk h))))))
theorem mO6 {t : Nat → Value} {m : List Mk} {s : Nat} {a0 a1 a2 a3 a4 a5 : Value} {l l' : List Value} (h : Mg t m l l') : Mg t (yO6 s m) (a0 :: a1 :: a2 :: a3 :: a4 :: a5 :: l) (t s :: t (s + 1) :: t (s + 2) :: t (s + 3) :: t (s + 4) :: t (s + 5) :: l') := (mo (mo (mo (mo (mo (mo h))))))
abbrev yK7 (m : List Mk) : List Mk := .k :: .k :: .k :: .k :: .k :: .k :: .k :: m
abbrev yO7 (s : Nat) (m : List Mk) : List Mk := .o s :: .o (s + 1) :: .o (s + 2) :: .o (s + 3) :: .o (s + 4) :: .o (s + 5) :: .o (s + 6) :: m
theorem aK7 {m : List Mk} {a0 a1 a2 a3 a4 a5 a6 : Value} {l l' : List Value} (h : Ag m l l') : Ag (yK7 m) (a0 :: a1 :: a2 :: a3 :: a4 :: a5 :: a6 :: l) (a0 :: a1 :: a2 :: a3 :: a4 :: a5 :: a6 :: l') := (.k (.k (.k (.k (.k (.k (.k h)))))))
theorem aO7 {m : List Mk} {s : Nat} {a0 a1 a2 a3 a4 a5 a6 b0 b1 b2 b3 b4 b5 b6 : Value} {l l' : List Value} (h : Ag m l l') : Ag (yO7 s m) (a0 :: a1 :: a2 :: a3 :: a4 :: a5 :: a6 :: l) (b0 :: b1 :: b2 :: b3 :: b4 :: b5 :: b6 :: l') := (.o (.o (.o (.o (.o (.o (.o h)))))))
theorem mK7 {t : Nat → Value} {m : List Mk} {a0 a1 a2 a3 a4 a5 a6 : Value} {l l' : List Value} (h : Mg t m l l') : Mg t (yK7 m) (a0 :: a1 :: a2 :: a3 :: a4 :: a5 :: a6 :: l) (a0 :: a1 :: a2 :: a3 :: a4 :: a5 :: a6 :: l') := (mk (mk (mk (mk (mk (mk (mk h)))))))
theorem mO7 {t : Nat → Value} {m : List Mk} {s : Nat} {a0 a1 a2 a3 a4 a5 a6 : Value} {l l' : List Value} (h : Mg t m l l') : Mg t (yO7 s m) (a0 :: a1 :: a2 :: a3 :: a4 :: a5 :: a6 :: l) (t s :: t (s + 1) :: t (s + 2) :: t (s + 3) :: t (s + 4) :: t (s + 5) :: t (s + 6) :: l') := (mo (mo (mo (mo (mo (mo (mo h)))))))
abbrev yK8 (m : List Mk) : List Mk := .k :: .k :: .k :: .k :: .k :: .k :: .k :: .k :: m
abbrev yO8 (s : Nat) (m : List Mk) : List Mk := .o s :: .o (s + 1) :: .o (s + 2) :: .o (s + 3) :: .o (s + 4) :: .o (s + 5) :: .o (s + 6) :: .o (s + 7) :: m
theorem aK8 {m : List Mk} {a0 a1 a2 a3 a4 a5 a6 a7 : Value} {l l' : List Value} (h : Ag m l l') : Ag (yK8 m) (a0 :: a1 :: a2 :: a3 :: a4 :: a5 :: a6 :: a7 :: l) (a0 :: a1 :: a2 :: a3 :: a4 :: a5 :: a6 :: a7 :: l') := (.k (.k (.k (.k (.k (.k (.k (.k h))))))))
theorem aO8 {m : List Mk} {s : Nat} {a0 a1 a2 a3 a4 a5 a6 a7 b0 b1 b2 b3 b4 b5 b6 b7 : Value} {l l' : List Value} (h : Ag m l l') : Ag (yO8 s m) (a0 :: a1 :: a2 :: a3 :: a4 :: a5 :: a6 :: a7 :: l) (b0 :: b1 :: b2 :: b3 :: b4 :: b5 :: b6 :: b7 :: l') := (.o (.o (.o (.o (.o (.o (.o (.o h))))))))
theorem mK8 {t : Nat → Value} {m : List Mk} {a0 a1 a2 a3 a4 a5 a6 a7 : Value} {l l' : List Value} (h : Mg t m l l') : Mg t (yK8 m) (a0 :: a1 :: a2 :: a3 :: a4 :: a5 :: a6 :: a7 :: l) (a0 :: a1 :: a2 :: a3 :: a4 :: a5 :: a6 :: a7 :: l') := (mk (mk (mk (mk (mk (mk (mk (mk h))))))))
theorem mO8 {t : Nat → Value} {m : List Mk} {s : Nat} {a0 a1 a2 a3 a4 a5 a6 a7 : Value} {l l' : List Value} (h : Mg t m l l') : Mg t (yO8 s m) (a0 :: a1 :: a2 :: a3 :: a4 :: a5 :: a6 :: a7 :: l) (t s :: t (s + 1) :: t (s + 2) :: t (s + 3) :: t (s + 4) :: t (s + 5) :: t (s + 6) :: t (s + 7) :: l') := (mo (mo (mo (mo (mo (mo (mo (mo h))))))))
abbrev yK9 (m : List Mk) : List Mk := .k :: .k :: .k :: .k :: .k :: .k :: .k :: .k :: .k :: m
abbrev yO9 (s : Nat) (m : List Mk) : List Mk := .o s :: .o (s + 1) :: .o (s + 2) :: .o (s + 3) :: .o (s + 4) :: .o (s + 5) :: .o (s + 6) :: .o (s + 7) :: .o (s + 8) :: m
theorem aK9 {m : List Mk} {a0 a1 a2 a3 a4 a5 a6 a7 a8 : Value} {l l' : List Value} (h : Ag m l l') : Ag (yK9 m) (a0 :: a1 :: a2 :: a3 :: a4 :: a5 :: a6 :: a7 :: a8 :: l) (a0 :: a1 :: a2 :: a3 :: a4 :: a5 :: a6 :: a7 :: a8 :: l') := (.k (.k (.k (.k (.k (.k (.k (.k (.k h)))))))))
theorem aO9 {m : List Mk} {s : Nat} {a0 a1 a2 a3 a4 a5 a6 a7 a8 b0 b1 b2 b3 b4 b5 b6 b7 b8 : Value} {l l' : List Value} (h : Ag m l l') : Ag (yO9 s m) (a0 :: a1 :: a2 :: a3 :: a4 :: a5 :: a6 :: a7 :: a8 :: l) (b0 :: b1 :: b2 :: b3 :: b4 :: b5 :: b6 :: b7 :: b8 :: l') := (.o (.o (.o (.o (.o (.o (.o (.o (.o h)))))))))
theorem mK9 {t : Nat → Value} {m : List Mk} {a0 a1 a2 a3 a4 a5 a6 a7 a8 : Value} {l l' : List Value} (h : Mg t m l l') : Mg t (yK9 m) (a0 :: a1 :: a2 :: a3 :: a4 :: a5 :: a6 :: a7 :: a8 :: l) (a0 :: a1 :: a2 :: a3 :: a4 :: a5 :: a6 :: a7 :: a8 :: l') := (mk (mk (mk (mk (mk (mk (mk (mk (mk h)))))))))
theorem mO9 {t : Nat → Value} {m : List Mk} {s : Nat} {a0 a1 a2 a3 a4 a5 a6 a7 a8 : Value} {l l' : List Value} (h : Mg t m l l') : Mg t (yO9 s m) (a0 :: a1 :: a2 :: a3 :: a4 :: a5 :: a6 :: a7 :: a8 :: l) (t s :: t (s + 1) :: t (s + 2) :: t (s + 3) :: t (s + 4) :: t (s + 5) :: t (s + 6) :: t (s + 7) :: t (s + 8) :: l') := (mo (mo (mo (mo (mo (mo (mo (mo (mo h)))))))))
abbrev yK10 (m : List Mk) : List Mk := .k :: .k :: .k :: .k :: .k :: .k :: .k :: .k :: .k :: .k :: m
abbrev yO10 (s : Nat) (m : List Mk) : List Mk := .o s :: .o (s + 1) :: .o (s + 2) :: .o (s + 3) :: .o (s + 4) :: .o (s + 5) :: .o (s + 6) :: .o (s + 7) :: .o (s + 8) :: .o (s + 9) :: m
theorem aK10 {m : List Mk} {a0 a1 a2 a3 a4 a5 a6 a7 a8 a9 : Value} {l l' : List Value} (h : Ag m l l') : Ag (yK10 m) (a0 :: a1 :: a2 :: a3 :: a4 :: a5 :: a6 :: a7 :: a8 :: a9 :: l) (a0 :: a1 :: a2 :: a3 :: a4 :: a5 :: a6 :: a7 :: a8 :: a9 :: l') := (.k (.k (.k (.k (.k (.k (.k (.k (.k (.k h))))))))))
theorem aO10 {m : List Mk} {s : Nat} {a0 a1 a2 a3 a4 a5 a6 a7 a8 a9 b0 b1 b2 b3 b4 b5 b6 b7 b8 b9 : Value} {l l' : List Value} (h : Ag m l l') : Ag (yO10 s m) (a0 :: a1 :: a2 :: a3 :: a4 :: a5 :: a6 :: a7 :: a8 :: a9 :: l) (b0 :: b1 :: b2 :: b3 :: b4 :: b5 :: b6 :: b7 :: b8 :: b9 :: l') := (.o (.o (.o (.o (.o (.o (.o (.o (.o (.o h))))))))))
theorem mK10 {t : Nat → Value} {m : List Mk} {a0 a1 a2 a3 a4 a5 a6 a7 a8 a9 : Value} {l l' : List Value} (h : Mg t m l l') : Mg t (yK10 m) (a0 :: a1 :: a2 :: a3 :: a4 :: a5 :: a6 :: a7 :: a8 :: a9 :: l) (a0 :: a1 :: a2 :: a3 :: a4 :: a5 :: a6 :: a7 :: a8 :: a9 :: l') := (mk (mk (mk (mk (mk (mk (mk (mk (mk (mk h))))))))))
theorem mO10 {t : Nat → Value} {m : List Mk} {s : Nat} {a0 a1 a2 a3 a4 a5 a6 a7 a8 a9 : Value} {l l' : List Value} (h : Mg t m l l') : Mg t (yO10 s m) (a0 :: a1 :: a2 :: a3 :: a4 :: a5 :: a6 :: a7 :: a8 :: a9 :: l) (t s :: t (s + 1) :: t (s + 2) :: t (s + 3) :: t (s + 4) :: t (s + 5) :: t (s + 6) :: t (s + 7) :: t (s + 8) :: t (s + 9) :: l') := (mo (mo (mo (mo (mo (mo (mo (mo (mo (mo h))))))))))
abbrev yK20 (m : List Mk) : List Mk := .k :: .k :: .k :: .k :: .k :: .k :: .k :: .k :: .k :: .k :: .k :: .k :: .k :: .k :: .k :: .k :: .k :: .k :: .k :: .k :: m
abbrev yO20 (s : Nat) (m : List Mk) : List Mk := .o s :: .o (s + 1) :: .o (s + 2) :: .o (s + 3) :: .o (s + 4) :: .o (s + 5) :: .o (s + 6) :: .o (s + 7) :: .o (s + 8) :: .o (s + 9) :: .o (s + 10) :: .o (s + 11) :: .o (s + 12) :: .o (s + 13) :: .o (s + 14) :: .o (s + 15) :: .o (s + 16) :: .o (s + 17) :: .o (s + 18) :: .o (s + 19) :: m
theorem aK20 {m : List Mk} {a0 a1 a2 a3 a4 a5 a6 a7 a8 a9 a10 a11 a12 a13 a14 a15 a16 a17 a18 a19 : Value} {l l' : List Value} (h : Ag m l l') : Ag (yK20 m) (a0 :: a1 :: a2 :: a3 :: a4 :: a5 :: a6 :: a7 :: a8 :: a9 :: a10 :: a11 :: a12 :: a13 :: a14 :: a15 :: a16 :: a17 :: a18 :: a19 :: l) (a0 :: a1 :: a2 :: a3 :: a4 :: a5 :: a6 :: a7 :: a8 :: a9 :: a10 :: a11 :: a12 :: a13 :: a14 :: a15 :: a16 :: a17 :: a18 :: a19 :: l') := (.k (.k (.k (.k (.k (.k (.k (.k (.k (.k (.k (.k (.k (.k (.k (.k (.k (.k (.k (.k h))))))))))))))))))))
theorem aO20 {m : List Mk} {s : Nat} {a0 a1 a2 a3 a4 a5 a6 a7 a8 a9 a10 a11 a12 a13 a14 a15 a16 a17 a18 a19 b0 b1 b2 b3 b4 b5 b6 b7 b8 b9 b10 b11 b12 b13 b14 b15 b16 b17 b18 b19 : Value} {l l' : List Value} (h : Ag m l l') : Ag (yO20 s m) (a0 :: a1 :: a2 :: a3 :: a4 :: a5 :: a6 :: a7 :: a8 :: a9 :: a10 :: a11 :: a12 :: a13 :: a14 :: a15 :: a16 :: a17 :: a18 :: a19 :: l) (b0 :: b1 :: b2 :: b3 :: b4 :: b5 :: b6 :: b7 :: b8 :: b9 :: b10 :: b11 :: b12 :: b13 :: b14 :: b15 :: b16 :: b17 :: b18 :: b19 :: l') := (.o (.o (.o (.o (.o (.o (.o (.o (.o (.o (.o (.o (.o (.o (.o (.o (.o (.o (.o (.o h))))))))))))))))))))
theorem mK20 {t : Nat → Value} {m : List Mk} {a0 a1 a2 a3 a4 a5 a6 a7 a8 a9 a10 a11 a12 a13 a14 a15 a16 a17 a18 a19 : Value} {l l' : List Value} (h : Mg t m l l') : Mg t (yK20 m) (a0 :: a1 :: a2 :: a3 :: a4 :: a5 :: a6 :: a7 :: a8 :: a9 :: a10 :: a11 :: a12 :: a13 :: a14 :: a15 :: a16 :: a17 :: a18 :: a19 :: l) (a0 :: a1 :: a2 :: a3 :: a4 :: a5 :: a6 :: a7 :: a8 :: a9 :: a10 :: a11 :: a12 :: a13 :: a14 :: a15 :: a16 :: a17 :: a18 :: a19 :: l') := (mk (mk (mk (mk (mk (mk (mk (mk (mk (mk (mk (mk (mk (mk (mk (mk (mk (mk (mk (mk h))))))))))))))))))))
theorem mO20 {t : Nat → Value} {m : List Mk} {s : Nat} {a0 a1 a2 a3 a4 a5 a6 a7 a8 a9 a10 a11 a12 a13 a14 a15 a16 a17 a18 a19 : Value} {l l' : List Value} (h : Mg t m l l') : Mg t (yO20 s m) (a0 :: a1 :: a2 :: a3 :: a4 :: a5 :: a6 :: a7 :: a8 :: a9 :: a10 :: a11 :: a12 :: a13 :: a14 :: a15 :: a16 :: a17 :: a18 :: a19 :: l) (t s :: t (s + 1) :: t (s + 2) :: t (s + 3) :: t (s + 4) :: t (s + 5) :: t (s + 6) :: t (s + 7) :: t (s + 8) :: t (s + 9) :: t (s + 10) :: t (s + 11) :: t (s + 12) :: t (s + 13) :: t (s + 14) :: t (s + 15) :: t (s + 16) :: t (s + 17) :: t (s + 18) :: t (s + 19) :: l') := (mo (mo (mo (mo (mo (mo (mo (mo (mo (mo (mo (mo (mo (mo (mo (mo (mo (mo (mo (mo h))))))))))))))))))))
abbrev yK50 (m : List Mk) : List Mk := .k :: .k :: .k :: .k :: .k :: .k :: .k :: .k :: .k :: .k :: .k :: .k :: .k :: .k :: .k :: .k :: .k :: .k :: .k :: .k :: .k :: .k :: .k :: .k :: .k :: .k :: .k :: .k :: .k :: .k :: .k :: .k :: .k :: .k :: .k :: .k :: .k :: .k :: .k :: .k :: .k :: .k :: .k :: .k :: .k :: .k :: .k :: .k :: .k :: .k :: m
abbrev yO50 (s : Nat) (m : List Mk) : List Mk := .o s :: .o (s + 1) :: .o (s + 2) :: .o (s + 3) :: .o (s + 4) :: .o (s + 5) :: .o (s + 6) :: .o (s + 7) :: .o (s + 8) :: .o (s + 9) :: .o (s + 10) :: .o (s + 11) :: .o (s + 12) :: .o (s + 13) :: .o (s + 14) :: .o (s + 15) :: .o (s + 16) :: .o (s + 17) :: .o (s + 18) :: .o (s + 19) :: .o (s + 20) :: .o (s + 21) :: .o (s + 22) :: .o (s + 23) :: .o (s + 24) :: .o (s + 25) :: .o (s + 26) :: .o (s + 27) :: .o (s + 28) :: .o (s + 29) :: .o (s + 30) :: .o (s + 31) :: .o (s + 32) :: .o (s + 33) :: .o (s + 34) :: .o (s + 35) :: .o (s + 36) :: .o (s + 37) :: .o (s + 38) :: .o (s + 39) :: .o (s + 40) :: .o (s + 41) :: .o (s + 42) :: .o (s + 43) :: .o (s + 44) :: .o (s + 45) :: .o (s + 46) :: .o (s + 47) :: .o (s + 48) :: .o (s + 49) :: m
theorem aK50 {m : List Mk} {a0 a1 a2 a3 a4 a5 a6 a7 a8 a9 a10 a11 a12 a13 a14 a15 a16 a17 a18 a19 a20 a21 a22 a23 a24 a25 a26 a27 a28 a29 a30 a31 a32 a33 a34 a35 a36 a37 a38 a39 a40 a41 a42 a43 a44 a45 a46 a47 a48 a49 : Value} {l l' : List Value} (h : Ag m l l') : Ag (yK50 m) (a0 :: a1 :: a2 :: a3 :: a4 :: a5 :: a6 :: a7 :: a8 :: a9 :: a10 :: a11 :: a12 :: a13 :: a14 :: a15 :: a16 :: a17 :: a18 :: a19 :: a20 :: a21 :: a22 :: a23 :: a24 :: a25 :: a26 :: a27 :: a28 :: a29 :: a30 :: a31 :: a32 :: a33 :: a34 :: a35 :: a36 :: a37 :: a38 :: a39 :: a40 :: a41 :: a42 :: a43 :: a44 :: a45 :: a46 :: a47 :: a48 :: a49 :: l) (a0 :: a1 :: a2 :: a3 :: a4 :: a5 :: a6 :: a7 :: a8 :: a9 :: a10 :: a11 :: a12 :: a13 :: a14 :: a15 :: a16 :: a17 :: a18 :: a19 :: a20 :: a21 :: a22 :: a23 :: a24 :: a25 :: a26 :: a27 :: a28 :: a29 :: a30 :: a31 :: a32 :: a33 :: a34 :: a35 :: a36 :: a37 :: a38 :: a39 :: a40 :: a41 :: a42 :: a43 :: a44 :: a45 :: a46 :: a47 :: a48 :: a49 :: l') := (.k (.k (.k (.k (.k (.k (.k (.k (.k (.k (.k (.k (.k (.k (.k (.k (.k (.k (.k (.k (.k (.k (.k (.k (.k (.k (.k (.k (.k (.k (.k (.k (.k (.k (.k (.k (.k (.k (.k (.k (.k (.k (.k (.k (.k (.k (.k (.k (.k (.k h))))))))))))))))))))))))))))))))))))))))))))))))))
theorem aO50 {m : List Mk} {s : Nat} {a0 a1 a2 a3 a4 a5 a6 a7 a8 a9 a10 a11 a12 a13 a14 a15 a16 a17 a18 a19 a20 a21 a22 a23 a24 a25 a26 a27 a28 a29 a30 a31 a32 a33 a34 a35 a36 a37 a38 a39 a40 a41 a42 a43 a44 a45 a46 a47 a48 a49 b0 b1 b2 b3 b4 b5 b6 b7 b8 b9 b10 b11 b12 b13 b14 b15 b16 b17 b18 b19 b20 b21 b22 b23 b24 b25 b26 b27 b28 b29 b30 b31 b32 b33 b34 b35 b36 b37 b38 b39 b40 b41 b42 b43 b44 b45 b46 b47 b48 b49 : Value} {l l' : List Value} (h : Ag m l l') : Ag (yO50 s m) (a0 :: a1 :: a2 :: a3 :: a4 :: a5 :: a6 :: a7 :: a8 :: a9 :: a10 :: a11 :: a12 :: a13 :: a14 :: a15 :: a16 :: a17 :: a18 :: a19 :: a20 :: a21 :: a22 :: a23 :: a24 :: a25 :: a26 :: a27 :: a28 :: a29 :: a30 :: a31 :: a32 :: a33 :: a34 :: a35 :: a36 :: a37 :: a38 :: a39 :: a40 :: a41 :: a42 :: a43 :: a44 :: a45 :: a46 :: a47 :: a48 :: a49 :: l) (b0 :: b1 :: b2 :: b3 :: b4 :: b5 :: b6 :: b7 :: b8 :: b9 :: b10 :: b11 :: b12 :: b13 :: b14 :: b15 :: b16 :: b17 :: b18 :: b19 :: b20 :: b21 :: b22 :: b23 :: b24 :: b25 :: b26 :: b27 :: b28 :: b29 :: b30 :: b31 :: b32 :: b33 :: b34 :: b35 :: b36 :: b37 :: b38 :: b39 :: b40 :: b41 :: b42 :: b43 :: b44 :: b45 :: b46 :: b47 :: b48 :: b49 :: l') := (.o (.o (.o (.o (.o (.o (.o (.o (.o (.o (.o (.o (.o (.o (.o (.o (.o (.o (.o (.o (.o (.o (.o (.o (.o (.o (.o (.o (.o (.o (.o (.o (.o (.o (.o (.o (.o (.o (.o (.o (.o (.o (.o (.o (.o (.o (.o (.o (.o (.o h))))))))))))))))))))))))))))))))))))))))))))))))))
theorem mK50 {t : Nat → Value} {m : List Mk} {a0 a1 a2 a3 a4 a5 a6 a7 a8 a9 a10 a11 a12 a13 a14 a15 a16 a17 a18 a19 a20 a21 a22 a23 a24 a25 a26 a27 a28 a29 a30 a31 a32 a33 a34 a35 a36 a37 a38 a39 a40 a41 a42 a43 a44 a45 a46 a47 a48 a49 : Value} {l l' : List Value} (h : Mg t m l l') : Mg t (yK50 m) (a0 :: a1 :: a2 :: a3 :: a4 :: a5 :: a6 :: a7 :: a8 :: a9 :: a10 :: a11 :: a12 :: a13 :: a14 :: a15 :: a16 :: a17 :: a18 :: a19 :: a20 :: a21 :: a22 :: a23 :: a24 :: a25 :: a26 :: a27 :: a28 :: a29 :: a30 :: a31 :: a32 :: a33 :: a34 :: a35 :: a36 :: a37 :: a38 :: a39 :: a40 :: a41 :: a42 :: a43 :: a44 :: a45 :: a46 :: a47 :: a48 :: a49 :: l) (a0 :: a1 :: a2 :: a3 :: a4 :: a5 :: a6 :: a7 :: a8 :: a9 :: a10 :: a11 :: a12 :: a13 :: a14 :: a15 :: a16 :: a17 :: a18 :: a19 :: a20 :: a21 :: a22 :: a23 :: a24 :: a25 :: a26 :: a27 :: a28 :: a29 :: a30 :: a31 :: a32 :: a33 :: a34 :: a35 :: a36 :: a37 :: a38 :: a39 :: a40 :: a41 :: a42 :: a43 :: a44 :: a45 :: a46 :: a47 :: a48 :: a49 :: l') := (mk (mk (mk (mk (mk (mk (mk (mk (mk (mk (mk (mk (mk (mk (mk (mk (mk (mk (mk (mk (mk (mk (mk (mk (mk (mk (mk (mk (mk (mk (mk (mk (mk (mk (mk (mk (mk (mk (mk (mk (mk (mk (mk (mk (mk (mk (mk (mk (mk (mk h))))))))))))))))))))))))))))))))))))))))))))))))))
theorem mO50 {t : Nat → Value} {m : List Mk} {s : Nat} {a0 a1 a2 a3 a4 a5 a6 a7 a8 a9 a10 a11 a12 a13 a14 a15 a16 a17 a18 a19 a20 a21 a22 a23 a24 a25 a26 a27 a28 a29 a30 a31 a32 a33 a34 a35 a36 a37 a38 a39 a40 a41 a42 a43 a44 a45 a46 a47 a48 a49 : Value} {l l' : List Value} (h : Mg t m l l') : Mg t (yO50 s m) (a0 :: a1 :: a2 :: a3 :: a4 :: a5 :: a6 :: a7 :: a8 :: a9 :: a10 :: a11 :: a12 :: a13 :: a14 :: a15 :: a16 :: a17 :: a18 :: a19 :: a20 :: a21 :: a22 :: a23 :: a24 :: a25 :: a26 :: a27 :: a28 :: a29 :: a30 :: a31 :: a32 :: a33 :: a34 :: a35 :: a36 :: a37 :: a38 :: a39 :: a40 :: a41 :: a42 :: a43 :: a44 :: a45 :: a46 :: a47 :: a48 :: a49 :: l) (t s :: t (s + 1) :: t (s + 2) :: t (s + 3) :: t (s + 4) :: t (s + 5) :: t (s + 6) :: t (s + 7) :: t (s + 8) :: t (s + 9) :: t (s + 10) :: t (s + 11) :: t (s + 12) :: t (s + 13) :: t (s + 14) :: t (s + 15) :: t (s + 16) :: t (s + 17) :: t (s + 18) :: t (s + 19) :: t (s + 20) :: t (s + 21) :: t (s + 22) :: t (s + 23) :: t (s + 24) :: t (s + 25) :: t (s + 26) :: t (s + 27) :: t (s + 28) :: t (s + 29) :: t (s + 30) :: t (s + 31) :: t (s + 32) :: t (s + 33) :: t (s + 34) :: t (s + 35) :: t (s + 36) :: t (s + 37) :: t (s + 38) :: t (s + 39) :: t (s + 40) :: t (s + 41) :: t (s + 42) :: t (s + 43) :: t (s + 44) :: t (s + 45) :: t (s + 46) :: t (s + 47) :: t (s + 48) :: t (s + 49) :: l') := (mo (mo (mo (mo (mo (mo (mo (mo (mo (mo (mo (mo (mo (mo (mo (mo (mo (mo (mo (mo (mo (mo (mo (mo (mo (mo (mo (mo (mo (mo (mo (mo (mo (mo (mo (mo (mo (mo (mo (mo (mo (mo (mo (mo (mo (mo (mo (mo (mo (mo h))))))))))))))))))))))))))))))))))))))))))))))))))
theorem aI {m : List Mk} {v a : Value} {l l' : List Value} (h : Ag m l l') : Ag (.i v :: m) (a :: l) (v :: l') := .i h
theorem aZ {l : List Value} : Ag [] l l := .z
end Go.Wk


/- guarded operations where the order is open -/
namespace Go.Wk
open Go.RowKit
section
variable {P : Program} {Q : Exit → Act → World → Prop} {ops : Array Oper} {fr fr' : List Value} {ds : List Deferred} {w : World}
theorem yielded_eval (ops : Array Oper) (fr : List Value) (ds : List Deferred) (j : Nat) : yielded ops (F fr ds).tmps j = match (ops[j]?).bind (·.dst) with | some s => (match (F fr ds).eval (.tmp s) with | .bool b => some b | _ => none) | none => none := by
  unfold yielded
  cases h : (ops[j]?).bind (·.dst) with
  | none => simp
  | some s =>
    simp only [Option.bind_some, F, Act.eval]
    cases hh : (⟨fr⟩ : Array Value)[s]? with
    | none =>
      have : (⟨fr⟩ : Array Value).getD s undef = undef := by simp [Array.getD_eq_getD_getElem?, hh]
      first
        | (simp [hh, undef]; done)
        | (rw [this]; simp [undef])
    | some v =>
      have : (⟨fr⟩ : Array Value).getD s undef = v := by simp [Array.getD_eq_getD_getElem?, hh]
      first
        | (simp [hh]; done)
        | (rw [this]; cases v <;> rfl)
theorem wanted_put {o p : Oper} {fr : List Value} {ds ds' : List Deferred} {g : List Value → List Value} (g3 : ∀ (y : Operand), (∀ e, p.dst = some e → slotOf y ≠ some e) → (F (g fr) ds).eval y = (F fr ds).eval y) (hpo : ∀ e, p.dst = some e → (reads ops o).contains e = false) :
    Region.wanted o (yielded ops (F (g fr) ds').tmps) = Region.wanted o (yielded ops (F fr ds').tmps) := by
  have e0 : (F (g fr) ds').tmps = (F (g fr) ds).tmps := rfl
  have e1 : (F fr ds').tmps = (F fr ds).tmps := rfl
  rw [e0, e1]
  unfold Region.wanted
  cases hgd : o.guard with
  | none => rfl
  | some jb =>
    obtain ⟨j, b⟩ := jb
    simp only
    have : yielded ops (F (g fr) ds).tmps j = yielded ops (F fr ds).tmps j := by
      rw [yielded_eval, yielded_eval]
      cases hs : (ops[j]?).bind (·.dst) with
      | none => rfl
      | some s =>
        simp only
        rw [g3 (.tmp s) fun e he hh => by
          simp [slotOf] at hh
          subst hh
          have := hpo s he
          unfold reads at this
          rw [hgd] at this
          simp [hs] at this]
    first
      | rw [this]
      | simp [this]
theorem simG (hQ : Blind Q) {rd : Bool} {i d : Nat} {o : Oper} {v : Value} (ho : ops[i]? = some o) (hd : o.dst = some d) {wt : Bool} (hun : wt = false → v = undef) {w0 : World} :
    ∀ (l1 l2 : List Nat) (fr : List Value) (ds : List Deferred) (w : World),
      (∀ j ∈ l1, match ops[j]? with
        | some p => noSel p.op = true ∧ (reads ops p).contains d = false ∧ p.dst ≠ some d ∧ (∀ e, p.dst = some e → (reads ops o).contains e = false) ∧ (rd = true → quiet p.op = true)
        | none => True) →
      (rd = true → w = w0) → noSel o.op = true → Region.wanted o (yielded ops (F fr ds).tmps) = wt →
      (wt = true → ∀ ds w, (rd = true → w = w0) → (execOp (F fr ds).eval o).run P w = .ok (.value v) w) →
      wpOps P ops Q (l1 ++ l2) (F (fr.set d v) ds) w → wpOps P ops Q (l1 ++ i :: l2) (F fr ds) w
  | [], l2, fr, ds, w, _, hw, hno, hwt, hrun, h => by
    simp only [List.nil_append] at h ⊢
    simp only [wpOps, ho]
    cases wt with
    | true =>
      rw [if_pos hwt]
      left
      unfold Oper.wp
      rw [hrun rfl ds w hw, Oper.upon_value, hd]
      rw [show (F fr ds).put (some d) v = F (fr.set d v) ds from dt rfl ds]
      exact h
    | false =>
      rw [if_neg (by rw [hwt]; simp), hd, ← hun rfl]
      rw [show (F fr ds).put (some d) v = F (fr.set d v) ds from dt rfl ds]
      exact h
  | j :: l1, l2, fr, ds, w, hj, hw, hno, hwt, hrun, h => by
    have hj0 := hj j (by simp)
    have hj1 : ∀ k ∈ l1, _ := fun k hk => hj k (by simp [hk])
    simp only [List.cons_append, wpOps] at h ⊢
    cases hp : ops[j]? with
    | none =>
      rw [hp] at h
      simp only at h ⊢
      exact simG hQ ho hd hun l1 l2 fr ds w hj1 hw hno hwt hrun h
    | some p =>
      rw [hp] at h hj0
      simp only at h hj0 ⊢
      obtain ⟨hns, hrd, hpd, hpo, hqt⟩ := hj0
      rw [wanted_set (fr := fr) (v := v) (ds := ds) (ds' := ds) hrd] at h
      have key : ∀ (x : Value) (w' : World) (ds' : List Deferred), (rd = true → w' = w0) → wpOps P ops Q (l1 ++ l2) ((F (fr.set d v) ds').put p.dst x) w' → wpOps P ops Q (l1 ++ i :: l2) ((F fr ds').put p.dst x) w' := by
        intro x w' ds' hw' hk
        obtain ⟨g, g1, g2, g3⟩ := put_eq fr ds' p.dst x
        have hwt2 := wanted_put (ops := ops) (o := o) (p := p) (ds' := ds') (fun y hy => g3 fr y ds' ds' hy) hpo
        rw [g1] at hk ⊢
        rw [g2 _ _ _ hpd] at hk
        refine simG hQ ho hd hun l1 l2 (g fr) ds' w' hj1 hw' hno (hwt2.trans hwt) (fun ht ds2 w2 hw2 => ?_) hk
        rw [show execOp (F (g fr) ds2).eval o = execOp (F fr ds2).eval o from execOp_congr o hno fun y hy => g3 fr y ds2 ds2 fun e he hs => by
          exact reads_op (hpo e he) y hy hs]
        exact hrun ht ds2 w2 hw2
      by_cases hwt' : Region.wanted p (yielded ops (F fr ds).tmps) = true
      · rw [if_pos hwt'] at h ⊢
        rcases h with h | h
        · left
          unfold Oper.wp at h ⊢
          rw [exec_set (ds' := ds) hns hrd] at h
          cases hr : (execOp (F fr ds).eval p).run P w with
          | halt e w' =>
            rw [hr] at h
            cases e <;> first | exact h | exact hQ _ (F (fr.set d v) ds) _ w' rfl h
          | ok r w' =>
            rw [hr] at h
            have hw' : rd = true → w' = w0 := fun e => (quiet_run (hqt e) hr).1.trans (hw e)
            cases r with
            | value x => exact key x w' ds hw' h
            | skip => exact key undef w' ds hw' h
            | defer dd => exact key undef w' (dd :: ds) hw' h
            | enter f args =>
              have hnrd : rd = true → False := fun e => by obtain ⟨_, x, hx⟩ := quiet_run (hqt e) hr; cases hx
              rw [Oper.upon_enter] at h ⊢
              refine Calls.mono h fun e w'' he => ?_
              cases e with
              | returned x => exact key x w'' ds (fun e => (hnrd e).elim) he
              | panicked ch => exact hQ ch (F (fr.set d v) ds) _ w'' rfl he
              | outgrown => exact he
            | row r args =>
              have hnrd : rd = true → False := fun e => by obtain ⟨_, x, hx⟩ := quiet_run (hqt e) hr; cases hx
              rw [Oper.upon_row] at h ⊢
              exact Rows.mono h fun x w'' he => key x w'' ds (fun e => (hnrd e).elim) he
            | _ => exact h
        · right
          refine ⟨?_, h.2⟩
          have h1 := h.1
          unfold Oper.asks at h1 ⊢
          rw [exec_set (ds' := ds) hns hrd] at h1
          exact h1
      · rw [if_neg hwt'] at h ⊢
        exact key undef w ds hw h
/-- As apart, guarded or not. -/
def apartG (ops : Array Oper) (rd : Bool) (R : List Nat) (i : Nat) : Bool :=
  match ops[i]? with
  | some o => match o.dst with
    | some d => noSel o.op && R.all fun j => j == i || (deps ops j).contains i || (match ops[j]? with
        | some p => noSel p.op && !(reads ops p).contains d && p.dst != some d && (match p.dst with | some e => !(reads ops o).contains e | none => true) && (!rd || quiet p.op)
        | none => true)
    | _ => false
  | none => false
theorem sc_firstG {R R' : List Nat} {i : Nat} {rd wt : Bool} {dst : Tmp} {op : Op} {ty : TypeId} {pos : String} {after : Array Edge} {gd : Option (Nat × Bool)} {v : Value} (hQ : Blind Q) (hnd : (decide R.Nodup && enabled ops R i && apartG ops rd R i) = true) (hR : R.erase i = R') (ho : ops[i]? = some ⟨some dst, op, ty, pos, after, gd⟩)
    (hwt : Region.wanted ⟨some dst, op, ty, pos, after, gd⟩ (yielded ops (F fr ds).tmps) = wt) (hun : wt = false → v = undef)
    (hv : wt = true → ∀ ds w', (rd = true → w' = w) → (execOp (F fr ds).eval ⟨some dst, op, ty, pos, after, gd⟩).run P w' = .ok (.value v) w') (hp : Pt fr dst v fr') (h : SC P ops Q R' fr' ds w) : SC P ops Q R fr ds w := ⟨fun π hπ => by
  simp only [Bool.and_eq_true, decide_eq_true_eq] at hnd
  obtain ⟨⟨hn, hen⟩, hap⟩ := hnd
  obtain ⟨l1, l2, rfl, h2, h3⟩ := hπ.split hn (enabled_mem hen) hen
  unfold apartG at hap
  simp only [ho, Bool.and_eq_true, List.all_eq_true, Bool.or_eq_true, beq_iff_eq, List.contains_iff_mem] at hap
  unfold Pt at hp
  subst hp
  subst hR
  refine simG hQ ho rfl hun (rd := rd) (w0 := w) (v := v) l1 l2 fr ds w (fun j hj => ?_) (fun _ => rfl) hap.1 hwt hv (h.out _ h2)
  obtain ⟨a, b, c⟩ := h3 j hj
  have := hap.2 j a
  rcases this with (h | h) | h
  · exact absurd h b
  · exact absurd h c
  · cases hp : ops[j]? with
    | none => trivial
    | some p =>
      rw [hp] at h
      simp only [Bool.and_eq_true, Bool.not_eq_true', bne_iff_ne, ne_eq, Bool.or_eq_true] at h
      obtain ⟨⟨⟨⟨q1, q2⟩, q3⟩, q4⟩, q5⟩ := h
      refine ⟨q1, q2, q3, fun e he => ?_, fun e => ?_⟩
      · rw [he] at q4; simpa using q4
      · rcases q5 with q5 | q5
        · rw [e] at q5; cases q5
        · exact q5⟩
theorem wanted_y {o : Oper} {j d : Nat} {b b' : Bool} (hg : o.guard = some (j, b)) (hj : (ops[j]?).bind (·.dst) = some d) (hl : Lk fr d (.bool b')) : Region.wanted o (yielded ops (F fr ds).tmps) = (b' == b) := by
  unfold Region.wanted
  rw [hg]
  simp only
  have : yielded ops (F fr ds).tmps j = some b' := by
    rw [yielded_eval, hj]
    simp only
    rw [et hl ds]
  rw [this]
  cases b <;> cases b' <;> rfl
theorem wanted_u {o : Oper} {j d : Nat} {b : Bool} (hg : o.guard = some (j, b)) (hj : (ops[j]?).bind (·.dst) = some d) (hl : Lk fr d undef) : Region.wanted o (yielded ops (F fr ds).tmps) = false := by
  unfold Region.wanted
  rw [hg]
  simp only
  have : yielded ops (F fr ds).tmps j = none := by
    rw [yielded_eval, hj]
    simp only
    rw [et hl ds]
    rfl
  rw [this]
  rfl
theorem sc_puY {R R' : List Nat} {i j d : Nat} {b : Bool} {dst : Tmp} {op : Op} {ty : TypeId} {pos : String} {after : Array Edge} {v : Value} (hQ : Blind Q) (hnd : (decide R.Nodup && enabled ops R i && apartG ops false R i) = true) (hR : R.erase i = R') (ho : ops[i]? = some ⟨some dst, op, ty, pos, after, some (j, b)⟩) (hj : (ops[j]?).bind (·.dst) = some d) (hl : Lk fr d (.bool b))
    (hv : PU P ⟨some dst, op, ty, pos, after, some (j, b)⟩ fr v) (hp : Pt fr dst v fr') (h : SC P ops Q R' fr' ds w) : SC P ops Q R fr ds w :=
  sc_firstG (wt := true) hQ hnd hR ho ((wanted_y rfl hj hl).trans (by cases b <;> rfl)) (fun h => by cases h) (fun _ ds w' _ => hv.out ds w') hp h
theorem sc_rdY {R R' : List Nat} {i j d : Nat} {b : Bool} {dst : Tmp} {op : Op} {ty : TypeId} {pos : String} {after : Array Edge} {v : Value} (hQ : Blind Q) (hnd : (decide R.Nodup && enabled ops R i && apartG ops true R i) = true) (hR : R.erase i = R') (ho : ops[i]? = some ⟨some dst, op, ty, pos, after, some (j, b)⟩) (hj : (ops[j]?).bind (·.dst) = some d) (hl : Lk fr d (.bool b))
    (hv : LU P ⟨some dst, op, ty, pos, after, some (j, b)⟩ fr w v) (hp : Pt fr dst v fr') (h : SC P ops Q R' fr' ds w) : SC P ops Q R fr ds w :=
  sc_firstG (wt := true) hQ hnd hR ho ((wanted_y rfl hj hl).trans (by cases b <;> rfl)) (fun h => by cases h) (fun _ ds w' hw => by rw [hw rfl]; exact hv.out ds) hp h
theorem sc_puN {R R' : List Nat} {i j d : Nat} {b b' : Bool} {dst : Tmp} {op : Op} {ty : TypeId} {pos : String} {after : Array Edge} (hQ : Blind Q) (hnd : (decide R.Nodup && enabled ops R i && apartG ops false R i) = true) (hR : R.erase i = R') (ho : ops[i]? = some ⟨some dst, op, ty, pos, after, some (j, b)⟩) (hj : (ops[j]?).bind (·.dst) = some d) (hl : Lk fr d (.bool b')) (hb : (b' == b) = false)
    (hp : Pt fr dst undef fr') (h : SC P ops Q R' fr' ds w) : SC P ops Q R fr ds w :=
  sc_firstG (wt := false) hQ hnd hR ho ((wanted_y rfl hj hl).trans hb) (fun _ => rfl) (fun h => by cases h) hp h
theorem sc_puU {R R' : List Nat} {i j d : Nat} {b : Bool} {dst : Tmp} {op : Op} {ty : TypeId} {pos : String} {after : Array Edge} (hQ : Blind Q) (hnd : (decide R.Nodup && enabled ops R i && apartG ops false R i) = true) (hR : R.erase i = R') (ho : ops[i]? = some ⟨some dst, op, ty, pos, after, some (j, b)⟩) (hj : (ops[j]?).bind (·.dst) = some d) (hl : Lk fr d undef)
    (hp : Pt fr dst undef fr') (h : SC P ops Q R' fr' ds w) : SC P ops Q R fr ds w :=
  sc_firstG (wt := false) hQ hnd hR ho (wanted_u rfl hj hl) (fun _ => rfl) (fun h => by cases h) hp h
/-- One alone may be next, guarded. -/
theorem sc1Y {R : List Nat} {i j d : Nat} {b : Bool} {R' : List Nat} {dst : Option Tmp} {op : Op} {ty : TypeId} {pos : String} {after : Array Edge} (hn : nexts ops R = [i]) (hR : R.erase i = R') (ho : ops[i]? = some ⟨dst, op, ty, pos, after, some (j, b)⟩) (hj : (ops[j]?).bind (·.dst) = some d) (hl : Lk fr d (.bool b))
    (h : OW P ⟨dst, op, ty, pos, after, some (j, b)⟩ fr ds w (SC P ops Q R') Q) : SC P ops Q R fr ds w :=
  sc_all (by intro e; subst e; cases hn) fun k hk => by
    rw [hn] at hk
    simp at hk
    subst hk
    refine ⟨_, ho, ?_⟩
    rw [if_pos ((wanted_y rfl hj hl).trans (by cases b <;> rfl)), hR]
    exact h
theorem wanted_0 {o : Oper} (hg : o.guard = none) : Region.wanted o (yielded ops (F fr ds).tmps) = true := by simp [Region.wanted, hg]
theorem wanted_t {o : Oper} {j d : Nat} {b : Bool} (hg : o.guard = some (j, b)) (hj : (ops[j]?).bind (·.dst) = some d) (hl : Lk fr d (.bool b)) : Region.wanted o (yielded ops (F fr ds).tmps) = true :=
  (wanted_y hg hj hl).trans (by cases b <;> rfl)
/-- Two, or three, may be next. -/
theorem sc2G {R : List Nat} {i j : Nat} {Ri Rj : List Nat} {oi oj : Oper} (hn : nexts ops R = [i, j]) (hRi : R.erase i = Ri) (hRj : R.erase j = Rj) (hi : ops[i]? = some oi) (hj : ops[j]? = some oj) (wi : Region.wanted oi (yielded ops (F fr ds).tmps) = true) (wj : Region.wanted oj (yielded ops (F fr ds).tmps) = true)
    (h1 : OW P oi fr ds w (SC P ops Q Ri) Q) (h2 : OW P oj fr ds w (SC P ops Q Rj) Q) : SC P ops Q R fr ds w :=
  sc_all (by intro e; subst e; cases hn) fun k hk => by
    rw [hn] at hk
    simp at hk
    rcases hk with rfl | rfl
    · exact ⟨_, hi, by rw [if_pos wi, hRi]; exact h1⟩
    · exact ⟨_, hj, by rw [if_pos wj, hRj]; exact h2⟩
theorem sc3G {R : List Nat} {i j k : Nat} {Ri Rj Rk : List Nat} {oi oj ok : Oper} (hn : nexts ops R = [i, j, k]) (hRi : R.erase i = Ri) (hRj : R.erase j = Rj) (hRk : R.erase k = Rk) (hi : ops[i]? = some oi) (hj : ops[j]? = some oj) (hk : ops[k]? = some ok) (wi : Region.wanted oi (yielded ops (F fr ds).tmps) = true) (wj : Region.wanted oj (yielded ops (F fr ds).tmps) = true) (wk : Region.wanted ok (yielded ops (F fr ds).tmps) = true)
    (h1 : OW P oi fr ds w (SC P ops Q Ri) Q) (h2 : OW P oj fr ds w (SC P ops Q Rj) Q) (h3 : OW P ok fr ds w (SC P ops Q Rk) Q) : SC P ops Q R fr ds w :=
  sc_all (by intro e; subst e; cases hn) fun q hq => by
    rw [hn] at hq
    simp at hq
    rcases hq with rfl | rfl | rfl
    · exact ⟨_, hi, by rw [if_pos wi, hRi]; exact h1⟩
    · exact ⟨_, hj, by rw [if_pos wj, hRj]; exact h2⟩
    · exact ⟨_, hk, by rw [if_pos wk, hRk]; exact h3⟩
theorem scs {R : List Nat} {frt frf : List Value} {d : Nat} {b : Bool} (hl : Lk fr d (.bool b)) (ht : Pt fr d (.bool true) frt) (hf : Pt fr d (.bool false) frf)
    (h1 : b = true → SC P ops Q R frt ds w) (h0 : ¬ b = true → SC P ops Q R frf ds w) : SC P ops Q R fr ds w := by
  cases b with
  | true => have := h1 rfl; rw [Pt.same hl ht] at this; exact this
  | false => have := h0 (by simp); rw [Pt.same hl hf] at this; exact this
theorem scsd {R : List Nat} {frt frf : List Value} {d : Nat} {p : Prop} [Decidable p] (hl : Lk fr d (.bool (decide p))) (ht : Pt fr d (.bool true) frt) (hf : Pt fr d (.bool false) frf)
    (h1 : p → SC P ops Q R frt ds w) (h0 : ¬ p → SC P ops Q R frf ds w) : SC P ops Q R fr ds w :=
  scs hl ht hf (fun h => h1 (of_decide_eq_true h)) (fun h => h0 fun hp => h (decide_eq_true hp))
theorem scsnd {R : List Nat} {frt frf : List Value} {d : Nat} {p : Prop} [Decidable p] (hl : Lk fr d (.bool (!decide p))) (ht : Pt fr d (.bool true) frt) (hf : Pt fr d (.bool false) frf)
    (h1 : ¬ p → SC P ops Q R frt ds w) (h0 : p → SC P ops Q R frf ds w) : SC P ops Q R fr ds w :=
  scs hl ht hf (fun h => h1 (by simpa using h)) (fun h => h0 (by simpa using h))
theorem scsnb {R : List Nat} {frt frf : List Value} {d : Nat} {b : Bool} (hl : Lk fr d (.bool (!b))) (ht : Pt fr d (.bool true) frt) (hf : Pt fr d (.bool false) frf)
    (h1 : ¬ b = true → SC P ops Q R frt ds w) (h0 : b = true → SC P ops Q R frf ds w) : SC P ops Q R fr ds w :=
  scs hl ht hf (fun h => h1 (by simpa using h)) (fun h => h0 (by simpa using h))
end
end Go.Wk

/- loads, ahead of all that do not wait for them -/
namespace Go.Wk
open Go.RowKit
section
variable {P : Program} {Q : Exit → Act → World → Prop} {ops : Array Oper} {fr fr' : List Value} {ds : List Deferred} {w : World}
/-- Each of S, but i, waits for one of S that is left. -/
def waits (ops : Array Oper) (R S : List Nat) (i : Nat) : Bool := S.all fun j => j == i || S.any fun k => (deps ops j).contains k && R.contains k
theorem LinExt.later {R π : List Nat} (h : LinExt ops R π) (hn : R.Nodup) {i : Nat} {S : List Nat} (hS : ∀ j ∈ S, j = i ∨ ∃ k ∈ S, k ∈ deps ops j ∧ k ∈ R) : ∀ l1 l2, π = l1 ++ i :: l2 → i ∉ l1 → ∀ j ∈ l1, j ∉ S := by
  induction h with
  | z => intro l1 l2 h; simp at h
  | @s R π k hk t ih =>
    intro l1 l2 h hi j hj
    cases l1 with
    | nil => cases hj
    | cons e l1 =>
      simp only [List.cons_append, List.cons.injEq] at h
      obtain ⟨rfl, h⟩ := h
      have he : k ∉ S := fun hm => by
        rcases hS k hm with rfl | ⟨q, q1, q2, q3⟩
        · exact hi (by simp)
        · exact enabled_dep hk q2 q3
      rcases List.mem_cons.1 hj with rfl | hj
      · exact he
      · refine ih (hn.erase k) (fun j hj => ?_) l1 l2 h (fun hm => hi (by simp [hm])) j hj
        rcases hS j hj with rfl | ⟨q, q1, q2, q3⟩
        · exact .inl rfl
        · exact .inr ⟨q, q1, q2, (hn.mem_erase_iff).2 ⟨fun e => he (e ▸ q1), q3⟩⟩
def apartS (ops : Array Oper) (S R : List Nat) (i : Nat) : Bool :=
  match ops[i]? with
  | some o => match o.dst with
    | some d => noSel o.op && R.all fun j => S.contains j || (match ops[j]? with
        | some p => noSel p.op && !(reads ops p).contains d && p.dst != some d && (match p.dst with | some e => !(reads ops o).contains e | none => true) && quiet p.op
        | none => true)
    | _ => false
  | none => false
theorem sc_firstS {R R' : List Nat} {i : Nat} (S : List Nat) {wt : Bool} {dst : Tmp} {op : Op} {ty : TypeId} {pos : String} {after : Array Edge} {gd : Option (Nat × Bool)} {v : Value} (hQ : Blind Q) (hnd : (decide R.Nodup && enabled ops R i && waits ops R S i && apartS ops S R i) = true) (hR : R.erase i = R') (ho : ops[i]? = some ⟨some dst, op, ty, pos, after, gd⟩)
    (hwt : Region.wanted ⟨some dst, op, ty, pos, after, gd⟩ (yielded ops (F fr ds).tmps) = wt) (hun : wt = false → v = undef)
    (hv : wt = true → ∀ ds w', w' = w → (execOp (F fr ds).eval ⟨some dst, op, ty, pos, after, gd⟩).run P w' = .ok (.value v) w') (hp : Pt fr dst v fr') (h : SC P ops Q R' fr' ds w) : SC P ops Q R fr ds w := ⟨fun π hπ => by
  simp only [Bool.and_eq_true, decide_eq_true_eq] at hnd
  obtain ⟨⟨⟨hn, hen⟩, hwa⟩, hap⟩ := hnd
  obtain ⟨l1, l2, rfl, h2, h3⟩ := hπ.split hn (enabled_mem hen) hen
  have hlat := LinExt.later (S := S) hπ hn (fun j hj => by
    unfold waits at hwa
    have := List.all_eq_true.1 hwa j hj
    simp only [Bool.or_eq_true, beq_iff_eq, List.any_eq_true, Bool.and_eq_true, List.contains_iff_mem] at this
    rcases this with h | ⟨k, k1, k2, k3⟩
    · exact .inl h
    · exact .inr ⟨k, k1, k2, k3⟩) l1 l2 rfl (fun hm => (h3 i hm).2.1 rfl)
  unfold apartS at hap
  simp only [ho, Bool.and_eq_true, List.all_eq_true, Bool.or_eq_true, List.contains_iff_mem] at hap
  unfold Pt at hp
  subst hp
  subst hR
  refine simG hQ ho rfl hun (rd := true) (w0 := w) (v := v) l1 l2 fr ds w (fun j hj => ?_) (fun _ => rfl) hap.1 hwt (fun a b c d => hv a b c (d rfl)) (h.out _ h2)
  obtain ⟨a, b, c⟩ := h3 j hj
  have := hap.2 j a
  rcases this with h | h
  · exact absurd h (hlat j hj)
  · cases hp : ops[j]? with
    | none => trivial
    | some p =>
      rw [hp] at h
      simp only [Bool.and_eq_true, Bool.not_eq_true', bne_iff_ne, ne_eq] at h
      obtain ⟨⟨⟨⟨q1, q2⟩, q3⟩, q4⟩, q5⟩ := h
      refine ⟨q1, q2, q3, fun e he => ?_, fun e => q5⟩
      rw [he] at q4; simpa using q4⟩
theorem sc_rdS {R R' : List Nat} {i : Nat} (S : List Nat) {dst : Tmp} {op : Op} {ty : TypeId} {pos : String} {after : Array Edge} {v : Value} (hQ : Blind Q) (hnd : (decide R.Nodup && enabled ops R i && waits ops R S i && apartS ops S R i) = true) (hR : R.erase i = R') (ho : ops[i]? = some ⟨some dst, op, ty, pos, after, none⟩)
    (hv : LU P ⟨some dst, op, ty, pos, after, none⟩ fr w v) (hp : Pt fr dst v fr') (h : SC P ops Q R' fr' ds w) : SC P ops Q R fr ds w :=
  sc_firstS S (wt := true) hQ hnd hR ho (wanted_0 rfl) (fun h => by cases h) (fun _ ds w' hw => by rw [hw]; exact hv.out ds) hp h
theorem sc_rdSY {R R' : List Nat} {i j d : Nat} {b : Bool} (S : List Nat) {dst : Tmp} {op : Op} {ty : TypeId} {pos : String} {after : Array Edge} {v : Value} (hQ : Blind Q) (hnd : (decide R.Nodup && enabled ops R i && waits ops R S i && apartS ops S R i) = true) (hR : R.erase i = R') (ho : ops[i]? = some ⟨some dst, op, ty, pos, after, some (j, b)⟩) (hj : (ops[j]?).bind (·.dst) = some d) (hl : Lk fr d (.bool b))
    (hv : LU P ⟨some dst, op, ty, pos, after, some (j, b)⟩ fr w v) (hp : Pt fr dst v fr') (h : SC P ops Q R' fr' ds w) : SC P ops Q R fr ds w :=
  sc_firstS S (wt := true) hQ hnd hR ho (wanted_t rfl hj hl) (fun h => by cases h) (fun _ ds w' hw => by rw [hw]; exact hv.out ds) hp h
end
end Go.Wk

/- slices of structs that are written out; loops of a known number of rounds; bound methods -/
namespace Go.Wk
open Go.RowKit
section
variable {P : Program} {Q : Exit → Act → World → Prop} {K : List Value → List Deferred → World → Prop} {fr fr' : List Value} {ds : List Deferred} {w : World}
variable {dst : Option Tmp} {ty : TypeId} {pos : String} {after : Array Edge} {g : Option (Nat × Bool)}
variable {S S0 : Nat → Prop} {w0 : World} {rs rs' : List Res} {A : World → Prop}
variable {T : TypeId} {d : TypeDesc} {ag : Bool} {zc : List Value} {n m : Nat}
inductive PartsA (fr : List Value) (n : Nat) : Nat → List (Nat × Operand) → List Value → Prop where
  | z {i : Nat} : PartsA fr n i [] []
  | s {i : Nat} {x : Operand} {v : Value} {cs rest : List Value} {xs : List (Nat × Operand)} (hx : Ev fr x v) (hv : v.cells = ⟨cs⟩) (hn : cs.length = n) (t : PartsA fr n (i + 1) xs rest) : PartsA fr n i ((i, x) :: xs) (cs ++ rest)
theorem PartsA.fill {i : Nat} {xs : List (Nat × Operand)} {cells : List Value} (h : PartsA fr n i xs cells) : ∀ zs : List Value, zs.length = i * n + cells.length →
    Instr.fill (fun i => some (i * n, n)) ⟨zs⟩ (xs.map fun p => (p.1, (F fr ds).eval p.2)) = some ⟨zs.take (i * n) ++ cells⟩ := by
  induction h with
  | z => intro zs hz; simp at hz; simp [Instr.fill, ← hz]
  | @s i x v cs rest xs hx hv hn t ih =>
    intro zs hz
    simp only [List.length_append] at hz
    have e2 : (i + 1) * n = i * n + n := by rw [Nat.add_mul, Nat.one_mul]
    simp only [List.map_cons, Instr.fill, hx ds, hv]
    have e0 : ¬ (((⟨cs⟩ : Array Value).size ≠ n || i * n + (⟨cs⟩ : Array Value).size > (⟨zs⟩ : Array Value).size) = true) := by simp [hn, hz]
    rw [if_neg e0]
    have h1 := foldl_splice cs (i * n) 0 zs (by omega)
    have e1 : (⟨cs⟩ : Array Value).zipIdx.toList = cs.zipIdx 0 := by simp
    have e3 : (⟨cs⟩ : Array Value).zipIdx.foldl (fun (cs : Array Value) (p : Value × Nat) => cs.setIfInBounds (i * n + p.2) p.1) ⟨zs⟩ = ⟨zs.take (i * n + 0) ++ cs ++ zs.drop (i * n + 0 + cs.length)⟩ := by
      rw [← Array.foldl_toList, e1]; exact h1
    first
      | rw [e3]
      | (erw [e3])
    rw [ih _ (by simp [e2, hn, hz]; omega)]
    congr 2
    rw [e2, hn, Nat.add_zero]
    have : (zs.take (i * n) ++ cs).length = i * n + n := by simp [hn]; omega
    rw [← this, List.take_left, List.append_assoc]
theorem s_bslA {e : TypeId} {len : Nat} {xs : List (Nat × Operand)} {cells : List Value} (hT : P.underlying T = some (.slice e)) (hE : TI P e ag zc n m) (hz : (decide (0 < n) && decide (n ≤ 1000) && decide (0 < len) && decide (len ≤ 1000)) = true) (hx : PartsA fr n 0 xs cells) (hn : cells.length = len * n) (hS : Sep S S0 w0 w rs A)
    (h : ∀ b w', w.heap.size ≤ b → Sep S S0 w0 w' (.blk b e cells :: rs) A → Put fr dst (.slice (some ⟨b, 0, none⟩) len len) fun fr' => K fr' ds w') : OW P (Oper.mk dst (.buildSlice T len ⟨xs⟩) ty pos after g) fr ds w K Q := by
  obtain ⟨fr', hd⟩ := dt_ex fr dst (.slice (some ⟨w.heap.size, 0, none⟩) len len)
  refine op_v (v := .slice (some ⟨w.heap.size, 0, none⟩) len len) (w' := w.alloc (.cells ⟨cells⟩ e)) ?_ hd (h _ _ (Nat.le_refl _) (hS.alloc rfl (heap_alloc_new w _)) fr' hd)
  obtain ⟨z, hzz, hc⟩ := hE.zero (w := w)
  have hE1 := hE.sizeOf (w := w)
  simp only [Bool.and_eq_true, decide_eq_true_eq] at hz
  have hmul : len * n ≤ 1000 * 1000 := Nat.mul_le_mul hz.2 hz.1.1.2
  have h2 : ¬ (len * n > 2 ^ 24) := by omega
  have h0 : ¬ (len * n = 0) := by
    have := Nat.mul_pos hz.1.2 hz.1.1.1
    omega
  have hl : ((⟨xs⟩ : Array (Nat × Operand)).map fun (i, x) => (i, (F fr ds).eval x)).toList = xs.map fun p => (p.1, (F fr ds).eval p.2) := by simp
  have hfill := hx.fill (ds := ds) ((Array.range (len * n)).map (z.cells[· % z.cells.size]!)).toList (by simp [hn])
  simp only [execOp, Instr.buildSlice, Sem.run_bind, run_underlying hT, Result.andThen_ok, hE1, if_neg h2, if_neg h0, hzz, Sem.run_pure, hl]
  have e4 : (⟨((Array.range (len * n)).map (z.cells[· % z.cells.size]!)).toList⟩ : Array Value) = (Array.range (len * n)).map (z.cells[· % z.cells.size]!) := rfl
  rw [e4] at hfill
  simp only [hfill]
  simp [newRow]
/-- A loop, round by round. -/
structure CR (P : Program) (c : Code) (Q : Exit → Act → World → Prop) (n : Nat) (fr : List Value) (ds : List Deferred) (w : World) : Prop where
  out : Code.rounds P c Q n (F fr ds) w
theorem cunroll {c : Code} (n : Nat) (h : CR P c Q n fr ds w) : CW P (.loop c) Q fr ds w := ⟨wp_loop_rounds n h.out⟩
theorem crnd {c : Code} {n : Nat} (h : CW P c (Exit.then (fun a w => ∃ fr ds, a = F fr ds ∧ CR P c Q n fr ds w) Q) fr ds w) : CR P c Q (n + 1) fr ds w := ⟨by
  rw [rounds_succ]
  refine wp_mono h.out fun e a w hq => ?_
  cases e with
  | normal => obtain ⟨fr, ds, rfl, h⟩ := hq; exact h.out
  | exit id => exact hq
  | goto l => exact hq
  | ret => exact hq
  | panic ch => exact hq
  | outgrown => exact hq⟩
theorem xrnd {c : Code} {n : Nat} (h : CR P c Q n fr ds w) : Exit.then (fun a w => ∃ fr ds, a = F fr ds ∧ CR P c Q n fr ds w) Q .normal (F fr ds) w := ⟨_, _, rfl, h⟩
theorem s_callB {f : Operand} {xs : List Operand} {tys : Array TypeId} {k : FuncId} {first cap vs : List Value} {R : Value → World → Prop} (hk : IsFn P k) (hf : Ev fr f (.func (.func k) ⟨first⟩ ⟨cap⟩)) (hs : Evs fr xs vs)
    (hc : CallsV P k (first ++ vs ++ cap) w R) (h : ∀ v w', R v w' → Put fr dst v fun fr' => K fr' ds w') : OW P (Oper.mk dst (.call { callee := .value f, args := ⟨xs⟩, argTypes := tys }) ty pos after g) fr ds w K Q := by
  refine op_call (args := first ++ vs ++ cap) ?_ hc h
  have h1 := hf ds
  have h2 := hs ds
  have hk' := hk.out ⟨first ++ vs ++ cap⟩ w
  have e : (⟨first⟩ : Array Value) ++ (⟨vs⟩ : Array Value) ++ (⟨cap⟩ : Array Value) = ⟨first ++ vs ++ cap⟩ := by
    apply Array.ext'
    simp
  simp only [List.append_assoc] at hk' e ⊢
  simp [execOp, resolve, h1, Deferred.ofValue, invoke, h2]
  first
    | exact hk'
    | (simpa using hk')
end
end Go.Wk

/- deferred calls; rows of maps -/
namespace Go.Xt
open Go.Wk Go.RowKit
section
variable {P : Program} {Q : Exit → Act → World → Prop} {K : List Value → List Deferred → World → Prop} {fr fr' : List Value} {ds : List Deferred} {w : World}
variable {dst : Option Tmp} {ty : TypeId} {pos : String} {after : Array Edge} {g : Option (Nat × Bool)}
variable {w0 : World} {rs rs' : List Res} {μ μ' : M}
variable {T : TypeId} {d : TypeDesc} {ag : Bool} {zc : List Value} {n m : Nat}
def okV (R : Value → World → Prop) : Ending → World → Prop
  | .returned v, w => R v w
  | _, _ => False
/-- What a function that defers owes at its end; it does not panic. -/
def PostD (P : Program) (fn : Func) (R : Value → World → Prop) : Exit → Act → World → Prop
  | .panic _, _, _ => False
  | e, a, w => bodyPostD P fn (okV R) e a w
theorem enterF {f : FuncId} {fn : Func} {c : Code} {args frm : List Value} {R : Value → World → Prop} (hf : P.funcs[f]? = some fn) (hb : fn.body = some c)
    (hfr : args ++ List.replicate (fn.ntmps - args.length) undef = frm) (h : CW P c (PostD P fn R) frm [] w) : CallsV P f args w R := by
  refine ⟨Calls.mono (calls_of_wp_defers (R := okV R) hf hb ?_) fun e w he => by cases e <;> exact he⟩
  subst hfr
  have e1 : (⟨args⟩ : Array Value) ++ Array.replicate (fn.ntmps - args.length) undef = ⟨args ++ List.replicate (fn.ntmps - args.length) undef⟩ := by
    apply Array.ext'
    simp
  have h := wp_mono h.out (Q' := bodyPostD P fn (okV R)) fun e a w hq => by
    cases e <;> first | exact hq | exact (False.elim hq)
  simpa [F, e1] using h
/-- A deferred call that returns. -/
structure CallsDV (P : Program) (f : FuncId) (args : List Value) (w : World) (R : Value → World → Prop) : Prop where
  out : ∀ u, CallsD P f ⟨args⟩ u w fun e u' w' => u' = u ∧ okV R e w'
theorem enterDD {f : FuncId} {fn : Func} {c : Code} {args frm : List Value} {R : Value → World → Prop} (hf : P.funcs[f]? = some fn) (hb : fn.body = some c)
    (hfr : args ++ List.replicate (fn.ntmps - args.length) undef = frm) (h : CW P c (Post P fn R) frm [] w) : CallsDV P f args w R := by
  refine ⟨fun u => callsD_of_wp hf hb ?_⟩
  subst hfr
  have e1 : (⟨args⟩ : Array Value) ++ Array.replicate (fn.ntmps - args.length) undef = ⟨args ++ List.replicate (fn.ntmps - args.length) undef⟩ := by
    apply Array.ext'
    simp
  have h := wp_mono h.out (Q' := bodyPost P fn (okV R)) fun e a w hq => by
    cases e with
    | normal => exact hq
    | ret => exact hq
    | panic ch => exact hq
    | exit i => exact hq
    | goto l => exact hq
    | outgrown => exact hq
  simpa [F, e1] using h
theorem s_defer {f : Operand} {xs : List Operand} {tys : Array TypeId} {k : FuncId} {cap vs : List Value} (hf : Ev fr f (.func (.func k) #[] ⟨cap⟩)) (hs : Evs fr xs vs)
    (hp : Dt fr dst undef fr') (h : K fr' (⟨.fn (.func k) ⟨cap⟩, ⟨vs⟩⟩ :: ds) w) : OW P (Oper.mk dst (.defer { callee := .value f, args := ⟨xs⟩, argTypes := tys }) ty pos after g) fr ds w K Q := by
  constructor
  intro K2 hK
  have h1 := hf ds
  have h2 := hs ds
  have hr : (execOp (F fr ds).eval (Oper.mk dst (.defer { callee := .value f, args := ⟨xs⟩, argTypes := tys }) ty pos after g)).run P w = .ok (.defer ⟨.fn (.func k) ⟨cap⟩, ⟨vs⟩⟩) w := by
    simp [execOp, resolve, h1, Deferred.ofValue, h2]
  unfold Oper.wp
  rw [hr]
  have := hK _ _ _ h
  rw [← hp _] at this
  simpa [Oper.upon, F, Act.put] using this
/-- The end: what is deferred runs. -/
theorem retD {fn : Func} {R R1 : Value → World → Prop} {k : FuncId} {cap vs : List Value} (hk : IsFn P k) (hc : CallsDV P k (vs ++ cap) w R1) (h : ∀ v w', R1 v w' → PostD P fn R .ret (F fr ds) w') :
    PostD P fn R .ret (F fr (⟨.fn (.func k) ⟨cap⟩, ⟨vs⟩⟩ :: ds)) w := by
  refine ⟨by simp, .func k, ⟨cap⟩, k, ⟨vs ++ cap⟩, rfl, ?_, ?_⟩
  · have := hk.out ⟨vs ++ cap⟩ w
    simp [invoke, this]
  · refine (hc.out .returning).mono fun e u' w' he => ?_
    obtain ⟨rfl, he⟩ := he
    cases e with
    | returned v => exact h v w' he
    | panicked c => exact he.elim
    | outgrown => exact he.elim
theorem retDN {fn : Func} {R : Value → World → Prop} {rl : List ResultVar} {vs : List Value} (hr : fn.results = ⟨rl⟩) (hv : RVs P fr w rl vs) (h : R (tupV vs) w) : PostD P fn R .ret (F fr []) w :=
  ⟨_, run_results hr hv, h⟩
theorem endD {fn : Func} {R : Value → World → Prop} {a : Act} (h : PostD P fn R .ret a w) : PostD P fn R .normal a w := h

/-- Maps that are owned, the last one first. -/
def mapsRes (ms : List (Nat × List MapEntry × Nat)) : List Res := (ms.map fun m => .map m.1 m.2.1 m.2.2).reverse
def cellsOf (ms : List (Nat × List MapEntry × Nat)) : List Value := ms.map fun m => .map (some m.1)
variable {κ β : Type} [DecidableEq κ] [Mk κ] [MV β]
def Ms (μ : M) : List (Nat × List MapEntry × Nat) → List (List (κ × β)) → Prop
  | [], bl => bl = []
  | m :: ms, bl => ∃ x t, bl = x :: t ∧ Mq μ m.2.1 m.2.2 x ∧ Ms μ ms t
theorem Ms.up (l : Le μ μ') : ∀ {ms : List (Nat × List MapEntry × Nat)} {bl : List (List (κ × β))}, Ms μ ms bl → Ms μ' ms bl
  | [], bl, h => by rw [Ms] at h ⊢; exact h
  | m :: ms, bl, h => by
    rw [Ms] at h ⊢
    obtain ⟨x, t, h1, h2, h3⟩ := h
    exact ⟨x, t, h1, h2.up l, Ms.up l h3⟩
theorem Ms.len : ∀ {ms : List (Nat × List MapEntry × Nat)} {bl : List (List (κ × β))}, Ms μ ms bl → ms.length = bl.length
  | [], bl, h => by rw [Ms] at h; simp [h]
  | m :: ms, bl, h => by
    rw [Ms] at h
    obtain ⟨x, t, rfl, h2, h3⟩ := h
    simp [Ms.len h3]
theorem Ms.get : ∀ {ms : List (Nat × List MapEntry × Nat)} {bl : List (List (κ × β))} {i : Nat} {x : List (κ × β)}, Ms μ ms bl → bl[i]? = some x → ∃ b es c, ms[i]? = some (b, es, c) ∧ Mq μ es c x
  | [], bl, i, x, h, hx => by rw [Ms] at h; subst h; simp at hx
  | m :: ms, bl, i, x, h, hx => by
    rw [Ms] at h
    obtain ⟨y, t, rfl, h2, h3⟩ := h
    cases i with
    | zero => simp at hx; subst hx; exact ⟨m.1, m.2.1, m.2.2, rfl, h2⟩
    | succ i => simp at hx; simpa using Ms.get h3 hx
theorem Ms.set : ∀ {ms : List (Nat × List MapEntry × Nat)} {bl : List (List (κ × β))} {i : Nat} {e : Nat × List MapEntry × Nat} {x : List (κ × β)}, Ms μ ms bl → Mq μ e.2.1 e.2.2 x → Ms μ (ms.set i e) (bl.set i x)
  | [], bl, i, e, x, h, hx => by rw [Ms] at h; subst h; simp [Ms]
  | m :: ms, bl, i, e, x, h, hx => by
    rw [Ms] at h
    obtain ⟨y, t, rfl, h2, h3⟩ := h
    cases i with
    | zero => exact ⟨x, t, rfl, hx, h3⟩
    | succ i => exact ⟨y, _, rfl, h2, Ms.set h3 hx⟩
theorem Ms.push : ∀ {ms : List (Nat × List MapEntry × Nat)} {bl : List (List (κ × β))} {e : Nat × List MapEntry × Nat} {x : List (κ × β)}, Ms μ ms bl → Mq μ e.2.1 e.2.2 x → Ms μ (ms ++ [e]) (bl ++ [x])
  | [], bl, e, x, h, hx => by rw [Ms] at h; subst h; exact ⟨x, [], rfl, hx, rfl⟩
  | m :: ms, bl, e, x, h, hx => by
    rw [Ms] at h
    obtain ⟨y, t, rfl, h2, h3⟩ := h
    exact ⟨y, _, rfl, h2, Ms.push h3 hx⟩
theorem Ms.take : ∀ {ms : List (Nat × List MapEntry × Nat)} {bl : List (List (κ × β))} (j : Nat), Ms μ ms bl → Ms μ (ms.take j) (bl.take j)
  | [], bl, j, h => by rw [Ms] at h; subst h; simp [Ms]
  | m :: ms, bl, j, h => by
    rw [Ms] at h
    obtain ⟨y, t, rfl, h2, h3⟩ := h
    cases j with
    | zero => simp [Ms]
    | succ j => exact ⟨y, _, rfl, h2, Ms.take j h3⟩
theorem mapsRes_push (ms : List (Nat × List MapEntry × Nat)) (e : Nat × List MapEntry × Nat) : mapsRes (ms ++ [e]) = .map e.1 e.2.1 e.2.2 :: mapsRes ms := by simp [mapsRes]
theorem cellsOf_set {ms : List (Nat × List MapEntry × Nat)} {i b c c' : Nat} {es es' : List MapEntry} (h : ms[i]? = some (b, es, c)) : cellsOf (ms.set i (b, es', c')) = cellsOf ms := by
  unfold cellsOf
  refine List.ext_getElem? fun j => ?_
  rw [List.getElem?_map, List.getElem?_map, List.getElem?_set]
  split
  · rename_i hj
    subst hj
    have hlt := (List.getElem?_eq_some_iff.1 h).1
    rw [if_pos hlt, h]; rfl
  · rfl
theorem mapsRes_mem {ms : List (Nat × List MapEntry × Nat)} {i b c : Nat} {es : List MapEntry} (h : ms[i]? = some (b, es, c)) : Res.map b es c ∈ mapsRes ms := by
  unfold mapsRes
  rw [List.mem_reverse, List.mem_map]
  exact ⟨(b, es, c), List.mem_of_getElem? h, rfl⟩
/-- A map of the row, as it stands in memory. -/
theorem _root_.Go.Wk.Sep.mapAt {pre : List Res} {ms : List (Nat × List MapEntry × Nat)} {i b c : Nat} {es : List MapEntry} (hS : Sq μ w0 w (pre ++ (mapsRes ms ++ rs))) (h : ms[i]? = some (b, es, c)) : w.heap[b]? = some (.map ⟨es⟩ c) :=
  hS.all (.map b es c) (by simp [mapsRes_mem h])
theorem Row.mapElem {v : Value} {ms : List (Nat × List MapEntry × Nat)} {bl : List (List (κ × β))} {i : Int} {x : List (κ × β)} (h : Row w v T 1 bl.length (cellsOf ms)) (hm : Ms μ ms bl) (g : at_ bl i = some x) :
    ∃ b o mb es c, Elv v 1 i b o ∧ (∀ w T, Row w v T 1 bl.length (cellsOf ms) → CellsAt w b o [.map (some mb)]) ∧ ms[i.toNat]? = some (mb, es, c) ∧ Mq μ es c x := by
  obtain ⟨h0, h1, h2⟩ := at_eq g
  obtain ⟨mb, es, c, hms, hq⟩ := hm.get h2
  obtain ⟨b, o, cc, rfl, hc⟩ := h.some' (by omega)
  refine ⟨b, o + i.toNat, mb, es, c, ⟨o, _, _, rfl, h0, h1, by simp⟩, fun w2 T2 hk j u hj => ?_, hms, hq⟩
  obtain ⟨b', o', c', hv, hc'⟩ := hk.some' (by omega)
  simp at hv
  obtain ⟨⟨rfl, rfl⟩, rfl⟩ := hv
  cases j with
  | succ j => simp at hj
  | zero =>
    simp at hj
    subst hj
    have : (cellsOf ms)[i.toNat]? = some (.map (some mb)) := by unfold cellsOf; rw [List.getElem?_map, hms]; rfl
    exact hc' _ _ this
/-- An assignment to a map of the row. -/
theorem s_mputS {x y z : Operand} {kt et : TypeId} {v : Value} {pre : List Res} {ms : List (Nat × List MapEntry × Nat)} {b c i : Nat} {es : List MapEntry} {kk : κ} {q : List (κ × β)} {xx : β} {bl : List (List (κ × β))} (hT : P.underlying T = some (.map kt et)) (hk : P.underlying kt = some (Mk.kd (κ := κ))) (hx : Ev fr x (.map (some b))) (hy : Ev fr y (Mk.key kk)) (hz : Ev fr z v) (hv : MV.rv μ v xx)
    (hS : Sq μ w0 w (pre ++ (mapsRes ms ++ rs))) (hi : ms[i]? = some (b, es, c)) (he : Mq μ es c q) (hm : Ms μ ms bl)
    (hd : Dt fr dst undef fr') (h : ∀ ms' w', Ms μ ms' (bl.set i (mput q kk xx)) → cellsOf ms = cellsOf ms' → bl.length = (bl.set i (mput q kk xx)).length → Sq μ w0 w' (pre ++ (mapsRes ms' ++ rs)) → K fr' ds w') : OW P (Oper.mk dst (.mapUpdate T x y z) ty pos after g) fr ds w K Q := by
  have hlt := (List.getElem?_eq_some_iff.1 hi).1
  have hpos : (pre ++ (mapsRes ms ++ rs))[pre.length + (ms.length - 1 - i)]? = some (.map b es c) := by
    rw [List.getElem?_append_right (by omega), Nat.add_sub_cancel_left, List.getElem?_append_left (by simp [mapsRes]; omega)]
    unfold mapsRes
    rw [List.getElem?_reverse (by simp; omega), List.length_map, show ms.length - 1 - (ms.length - 1 - i) = i by omega, List.getElem?_map, hi]
    rfl
  refine s_mput hT hk hx hy (Mk.kt kk) hz hS hpos he.kv.keys hd fun w' rs' hp hS' => h _ w' (hm.set (e := (b, putAt es c (Mk.key kk) v, putC es c (Mk.key kk))) (he.put kk hv)) (cellsOf_set hi).symm (by simp) ?_
  unfold Pt at hp
  subst hp
  have e : (pre ++ (mapsRes ms ++ rs)).set (pre.length + (ms.length - 1 - i)) (.map b (putAt es c (Mk.key kk) v) (putC es c (Mk.key kk))) = pre ++ (mapsRes (ms.set i (b, putAt es c (Mk.key kk) v, putC es c (Mk.key kk))) ++ rs) := by
    rw [List.set_append_right _ _ (by omega), Nat.add_sub_cancel_left, List.set_append_left _ _ (by simp [mapsRes]; omega)]
    congr 2
    unfold mapsRes
    rw [List.map_set]
    refine List.ext_getElem? fun j => ?_
    rcases Nat.lt_or_ge j ms.length with hj | hj
    · rw [List.getElem?_set, List.getElem?_reverse (by simpa using hj), List.getElem?_reverse (by simpa using hj)]
      simp only [List.length_map, List.length_reverse, List.length_set, List.getElem?_set]
      by_cases h1 : ms.length - 1 - i = j
      · rw [if_pos h1, if_pos (by omega), if_pos (by omega), if_pos (by omega)]
      · rw [if_neg h1, if_neg (by omega)]
    · rw [List.getElem?_eq_none (by simpa using hj), List.getElem?_eq_none (by simpa using hj)]
  rw [e] at hS'
  exact hS'
/-- A map more at the row's end. -/
theorem s_appM {t : TypeId} {s x : Operand} {v : Value} {bytes k b mb c : Nat} {ms : List (Nat × List MapEntry × Nat)} {bl bl' : List (List (κ × β))} (ht : P.underlying t = some (.slice T)) (hE : TI P T ag zc 1 bytes) (hz : zc.length = 1)
    (hs : Ev fr s v) (hx : Ev fr x (.slice (some ⟨b, 0, none⟩) 1 c)) (hS : Sq μ w0 w rs) (hl : Lk rs k (.row v T 1 bl.length (cellsOf ms))) (hnews : CellsAt w b 0 [.map (some mb)]) (gg : app bl [([] : List (κ × β))] = some bl') (hb : bytes ≤ 4096)
    (h : ∀ v' w' rs', Pt rs k (.row v' T 1 bl'.length (cellsOf ms ++ [.map (some mb)])) rs' → Sq μ w0 w' rs' → Put fr dst v' fun fr' => K fr' ds w') :
    OW P (Oper.mk dst (.call { callee := .builtin .append, args := #[s, x], argTypes := #[t, t] }) ty pos after g) fr ds w K Q := by
  obtain ⟨h1, h2⟩ := app_len gg
  refine s_append ht hE (by simp [hz]) hs hx hS hl hnews rfl rfl ⟨h2, hb⟩ fun v' w' rs' hp => h v' w' rs' (by rw [h1]; exact hp)
theorem _root_.Go.Wk.Sep.pushM {pre : List Res} {ms : List (Nat × List MapEntry × Nat)} {b c : Nat} {es : List MapEntry} (hS : Sq μ w0 w (pre ++ (.map b es c :: (mapsRes ms ++ rs)))) : Sq μ w0 w (pre ++ (mapsRes (ms ++ [(b, es, c)]) ++ rs)) := by
  rw [mapsRes_push]; exact hS
theorem cellsOf_push (ms : List (Nat × List MapEntry × Nat)) (b c : Nat) (es : List MapEntry) : cellsOf ms ++ [.map (some b)] = cellsOf (ms ++ [(b, es, c)]) := by simp [cellsOf]
/-- The row's last map goes. -/
theorem _root_.Go.Wk.Sep.popM {pre : List Res} {ms : List (Nat × List MapEntry × Nat)} {j : Nat} (hS : Sq μ w0 w (pre ++ (mapsRes ms ++ rs))) : Sq μ w0 w (pre ++ (mapsRes (ms.take j) ++ rs)) := by
  have hsub : (pre ++ (mapsRes (ms.take j) ++ rs)).Sublist (pre ++ (mapsRes ms ++ rs)) := by
    refine (List.Sublist.refl pre).append (List.Sublist.append ?_ (List.Sublist.refl rs))
    unfold mapsRes
    exact ((List.take_sublist j ms).map _).reverse
  refine ⟨hS.keeps, fun r hr => hS.all r (hsub.subset hr), (hsub.filterMap _).nodup hS.dis, fun b hb => hS.new b ((hsub.filterMap _).subset hb), ?_⟩
  refine hS.imm.mono fun k _ hs => ⟨hs.1, fun hm => hs.2 ((hsub.filterMap Res.block).subset hm)⟩
theorem Row.cutTo {v : Value} {sz : Nat} {xs : List Value} {j : Int} (h : Row w v T sz n xs) (h0 : 0 ≤ j) (hj : j ≤ n) :
    ∃ v', Slc v sz none (some j) v' ∧ v'.ownBlock = v.ownBlock ∧ ∀ w T, Row w v T sz n xs → Row w v' T sz j.toNat (xs.take (j.toNat * sz)) := by
  have hl : ∀ w T, Row w v T sz n xs → (xs.take (j.toNat * sz)).length = j.toNat * sz := fun w T h => by
    rw [List.length_take, h.1]
    exact Nat.min_eq_left (Nat.mul_le_mul_right _ (by omega))
  rcases h.2 with ⟨rfl, rfl⟩ | ⟨g, o, cap, cur, rfl, hg, h1, h2, h3, h4⟩
  · have : j = 0 := by omega
    subst this
    exact ⟨.slice none 0 0, ⟨none, 0, 0, rfl, by simp, by simp, by simp, by simp⟩, rfl, fun w T h => ⟨hl w T h, .inl ⟨rfl, rfl⟩⟩⟩
  · refine ⟨.slice (some ⟨g, o, none⟩) j.toNat cap, ⟨_, _, _, rfl, by simp, by simpa using h0, by simp; omega, ?_⟩, rfl, fun w2 T2 hk => ⟨hl w2 T2 hk, .inr ?_⟩⟩
    · simp [add_addr]
    · rcases hk.2 with ⟨hv, _⟩ | ⟨g', o', cap', cur', hv, hg', k1, k2, k3, k4⟩
      · simp at hv
      · simp at hv
        obtain ⟨⟨rfl, rfl⟩, rfl⟩ := hv
        exact ⟨g, o, cap, cur', rfl, hg', by omega, k2, k3, by rw [← k4, List.take_take, Nat.min_eq_left (Nat.mul_le_mul_right _ (by omega))]⟩
/-- A row that loses its first elements. -/
theorem Row.cutFrom {v : Value} {sz : Nat} {xs : List Value} {i : Int} (h : Row w v T sz n xs) (h0 : 0 ≤ i) (hi : i ≤ n) :
    ∃ v', Slc v sz (some i) none v' ∧ v'.ownBlock = v.ownBlock ∧ ∀ w T, Row w v T sz n xs → Row w v' T sz (n - i.toNat) (xs.drop (i.toNat * sz)) := by
  have hl : ∀ w T, Row w v T sz n xs → (xs.drop (i.toNat * sz)).length = (n - i.toNat) * sz := fun w T h => by
    rw [List.length_drop, h.1, Nat.sub_mul]
  rcases h.2 with ⟨rfl, rfl⟩ | ⟨g, o, cap, cur, rfl, hg, h1, h2, h3, h4⟩
  · have : i = 0 := by omega
    subst this
    exact ⟨.slice none 0 0, ⟨none, 0, 0, rfl, by simp, by simp, by simp, by simp⟩, rfl, fun w T h => ⟨hl w T h, .inl ⟨rfl, by simp⟩⟩⟩
  · refine ⟨_, ⟨_, _, _, rfl, by simpa using h0, by simpa using hi, by simp; omega, rfl⟩, by simp only [Option.getD_some]; split <;> simp [Value.ownBlock, add_addr], fun w2 T2 hk => ⟨hl w2 T2 hk, .inr ?_⟩⟩
    rcases hk.2 with ⟨hv, _⟩ | ⟨g', o', cap', cur', hv, hg', k1, k2, k3, k4⟩
    · simp at hv
    · simp at hv
      obtain ⟨⟨rfl, rfl⟩, rfl⟩ := hv
      have hmul : i.toNat * sz + (cap - i.toNat) * sz = cap * sz := by rw [← Nat.add_mul]; congr 1; omega
      by_cases hc : cap = i.toNat
      · refine ⟨g, o, cap - i.toNat, cur', by simp [hc], hg', by omega, by omega, by omega, ?_⟩
        rw [show n - i.toNat = 0 by omega, Nat.zero_mul, List.take_zero, List.drop_eq_nil_of_le (by rw [hk.1]; exact Nat.mul_le_mul_right _ (by omega))]
      · refine ⟨g, o + i.toNat * sz, cap - i.toNat, cur', by simp [hc, add_addr], hg', by omega, by omega, by omega, ?_⟩
        rw [← k4, ← List.drop_drop, List.drop_take, Nat.sub_mul]
theorem Rw.drop {α : Type} [Mo α] : ∀ {l : List α} {cells : List Value} (i : Nat), Rw μ cells l → Rw μ (cells.drop (i * Mo.sz α)) (l.drop i)
  | [], cells, i, h => by rw [Rw] at h; subst h; simp [Rw]
  | x :: l, cells, 0, h => by simpa using h
  | x :: l, cells, i + 1, h => by
    rw [Rw] at h
    obtain ⟨cs, t, rfl, h1, h2⟩ := h
    have e : (i + 1) * Mo.sz α = cs.length + i * Mo.sz α := by rw [Nat.add_mul, Mo.ln h1]; omega
    rw [e, ← List.drop_drop]
    simpa using Rw.drop i h2
theorem Row.cutQ {α : Type} [Mo α] {v : Value} {cells : List Value} {l l' : List α} {i : Int} (h : Row w v T (Mo.sz α) l.length cells) (hm : Rw μ cells l) (g : cut l i l.length = some l') :
    ∃ v' cells', Slc v (Mo.sz α) (some i) none v' ∧ v'.ownBlock = v.ownBlock ∧ (∀ w T, Row w v T (Mo.sz α) l.length cells → Row w v' T (Mo.sz α) l'.length cells') ∧ Rw μ cells' l' := by
  obtain ⟨⟨h0, h1, h2⟩, rfl⟩ := cut_eq g
  obtain ⟨v', e1, e2, e3⟩ := Row.cutFrom h h0 h1
  refine ⟨v', cells.drop (i.toNat * Mo.sz α), e1, e2, fun w T hk => ?_, by simpa using hm.drop i.toNat⟩
  have := e3 w T hk
  simpa using this
/-- A row of maps that gets shorter. -/
theorem Row.cutM {v : Value} {ms : List (Nat × List MapEntry × Nat)} {bl bl' : List (List (κ × β))} {j : Int} (h : Row w v T 1 bl.length (cellsOf ms)) (hm : Ms μ ms bl) (g : cut bl 0 j = some bl') :
    ∃ v' ms', Slc v 1 none (some j) v' ∧ v'.ownBlock = v.ownBlock ∧ (∀ w T, Row w v T 1 bl.length (cellsOf ms) → Row w v' T 1 bl'.length (cellsOf ms')) ∧ Ms μ ms' bl' ∧ ms.take j.toNat = ms' := by
  obtain ⟨⟨h0, h1, h2⟩, rfl⟩ := cut_eq g
  obtain ⟨v', e1, e2, e3⟩ := Row.cutTo h h1 h2
  refine ⟨v', ms.take j.toNat, e1, e2, fun w T hk => ?_, by simpa using hm.take j.toNat, rfl⟩
  have := e3 w T hk
  have el : ((bl.take j.toNat).drop (0 : Int).toNat).length = j.toNat := by simp; omega
  rw [el]
  have ec : cellsOf (ms.take j.toNat) = (cellsOf ms).take (j.toNat * 1) := by simp [cellsOf]
  rw [ec]
  exact this
theorem _root_.Go.Wk.Sep.perm {S S0 : Nat → Prop} {A : World → Prop} (h : Sep S S0 w0 w rs A) (hp : rs.Perm rs') : Sep S S0 w0 w rs' A where
  keeps := h.keeps
  all r hr := h.all r (hp.mem_iff.2 hr)
  dis := (hp.filterMap _).nodup_iff.1 h.dis
  new b hb := h.new b ((hp.filterMap _).mem_iff.2 hb)
  imm := h.imm.mono fun k _ hs => ⟨hs.1, fun hm => hs.2 ((hp.filterMap Res.block).mem_iff.2 hm)⟩
/-- The maps come ahead of what else is owned; and back. -/
theorem _root_.Go.Wk.Sep.mOut {a p M R : List Res} (h : Sq μ w0 w (a ++ (p ++ (M ++ R)))) : Sq μ w0 w (a ++ (M ++ (p ++ R))) :=
  h.perm (List.Perm.append_left a (by
    rw [← List.append_assoc, ← List.append_assoc]
    exact List.Perm.append_right R List.perm_append_comm))
theorem _root_.Go.Wk.Sep.reRow {k : Nat} {v v' : Value} {sz n' : Nat} {xs xs' : List Value} {S S0 : Nat → Prop} {A : World → Prop} (hS : Sep S S0 w0 w rs A) (hl : Lk rs k (.row v T sz n xs)) (hb : v'.ownBlock = v.ownBlock) (hr : ∀ w T, Row w v T sz n xs → Row w v' T sz n' xs') (hp : Pt rs k (.row v' T sz n' xs') rs') : Sep S S0 w0 w rs' A := by
  have h : Row w v T sz n xs := hS.get hl
  cases hv : v.ownBlock with
  | some b => exact hS.put (b := b) (r := .row v T sz n xs) (r' := .row v' T sz n' xs') hl hv (hb.trans hv) hp (hr _ _ h) (Keeps.refl _)
  | none =>
    unfold Pt at hp
    subst hp
    have hbs := blocks_set (r' := .row v' T sz n' xs') hl (show v'.ownBlock = v.ownBlock from hb)
    refine ⟨hS.keeps, fun r hr2 => ?_, by rw [hbs]; exact hS.dis, by rw [hbs]; exact hS.new, by rw [hbs]; exact hS.imm⟩
    obtain ⟨i, hi⟩ := List.mem_iff_getElem?.1 hr2
    rw [List.getElem?_set] at hi
    split at hi
    · split at hi
      · cases hi; exact hr _ _ h
      · cases hi
    · exact hS.all r (List.mem_of_getElem? hi)
end
end Go.Xt
