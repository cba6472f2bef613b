import PyProof.Rows.All
import Wide.All
import OpenK.AllK
import Wide.FinOn
import PySem.Challenge.RW_pb0113_01
set_option Elab.async false
set_option maxRecDepth 100000
set_option maxHeartbeats 8000000
set_option linter.all false
section
open PySem PySem.W PyProof.Rows
theorem Mine.sh.PySem.W.holds_open {α : Type} {A B : Prop} {R : WRecords} {r : OpenRow} {q : Program} {loose : List Str} {Xt : Shared → Bool} {XP : (Str → Option Value) → Heap → Prop} {Yf : Shared → α} {Ya : World → α} {YP : World → Heap → Prop} {N : Nat}
    (hl : True) (a : A) (b : B) (x : ∀ s, Xt s = true → XP (s.heap.nsMap mainGlobals) s.heap) (c : ∀ m h h', XP m h → (∀ b o, h.get? b = some o → h'.get? b = some o) → XP m h') (e1 e2 e3 : true = true) (y : ∀ s, Xt s = true → RecFacts R s.heap) (e4 : true = true) (e5 e6 : True)
    (e7 : true = true ∧ true = true ∧ true = true ∧ true = true ∧ true = true ∧ True) (hw hc : True) (f : False := by assumption) : r.Holds := f.elim
theorem Mine.sh.hd : False → PySem.Challenge.rw_pb0113_01.row.Holds := by
  intro f
  have hl : True := ?hl
  have hl : True := ?hw
  have hl : True := ?hc
  rotate_left
  trivial
  trivial
  trivial
  w_on
  k_head
end
set_option compiler.extract_closed false
set_option bootstrap.genMatcherCode false
set_option genSizeOf false
set_option genInjectivity false
open PySem PySem.W PySem.Spec PySem.Calls PyProof.Rows
namespace Mine
noncomputable section
section
theorem X0_12 {R S T U V W X Y Z R0 R1 R2 : Prop} {r : Prop} (t : R ∧ S ∧ T ∧ U ∧ V ∧ W ∧ X ∧ Y ∧ Z ∧ R0 ∧ R1 ∧ R2) (s : R → S → T → U → V → W → X → Y → Z → R0 → R1 → R2 → r) : r := s t.1 t.2.1 t.2.2.1 t.2.2.2.1 t.2.2.2.2.1 t.2.2.2.2.2.1 t.2.2.2.2.2.2.1 t.2.2.2.2.2.2.2.1 t.2.2.2.2.2.2.2.2.1 t.2.2.2.2.2.2.2.2.2.1 t.2.2.2.2.2.2.2.2.2.2.1 t.2.2.2.2.2.2.2.2.2.2.2
theorem X0_2 {R S : Prop} {r : Prop} (t : R ∧ S) (s : R → S → r) : r := s t.1 t.2
theorem X0_3 {R S T : Prop} {r : Prop} (t : R ∧ S ∧ T) (s : R → S → T → r) : r := s t.1 t.2.1 t.2.2
theorem X0_4 {R S T U : Prop} {r : Prop} (t : R ∧ S ∧ T ∧ U) (s : R → S → T → U → r) : r := s t.1 t.2.1 t.2.2.1 t.2.2.2
theorem X0_5 {R S T U V : Prop} {r : Prop} (t : R ∧ S ∧ T ∧ U ∧ V) (s : R → S → T → U → V → r) : r := s t.1 t.2.1 t.2.2.1 t.2.2.2.1 t.2.2.2.2
theorem X0_6 {R S T U V W : Prop} {r : Prop} (t : R ∧ S ∧ T ∧ U ∧ V ∧ W) (s : R → S → T → U → V → W → r) : r := s t.1 t.2.1 t.2.2.1 t.2.2.2.1 t.2.2.2.2.1 t.2.2.2.2.2
theorem X0_7 {R S T U V W X : Prop} {r : Prop} (t : R ∧ S ∧ T ∧ U ∧ V ∧ W ∧ X) (s : R → S → T → U → V → W → X → r) : r := s t.1 t.2.1 t.2.2.1 t.2.2.2.1 t.2.2.2.2.1 t.2.2.2.2.2.1 t.2.2.2.2.2.2
theorem X0_8 {R S T U V W X Y : Prop} {r : Prop} (t : R ∧ S ∧ T ∧ U ∧ V ∧ W ∧ X ∧ Y) (s : R → S → T → U → V → W → X → Y → r) : r := s t.1 t.2.1 t.2.2.1 t.2.2.2.1 t.2.2.2.2.1 t.2.2.2.2.2.1 t.2.2.2.2.2.2.1 t.2.2.2.2.2.2.2
theorem X11_3 {A B C D E F G H I J K : Type} {R S T : A → B → C → D → E → F → G → H → I → J → K → Prop} {r : Prop} (t : ∃ a b c d e f g h i j k, R a b c d e f g h i j k ∧ S a b c d e f g h i j k ∧ T a b c d e f g h i j k) (s : ∀ a b c d e f g h i j k, R a b c d e f g h i j k → S a b c d e f g h i j k → T a b c d e f g h i j k → r) : r := t.elim fun a t => t.elim fun b t => t.elim fun c t => t.elim fun d t => t.elim fun e t => t.elim fun f t => t.elim fun g t => t.elim fun h t => t.elim fun i t => t.elim fun j t => t.elim fun k t => s a b c d e f g h i j k t.1 t.2.1 t.2.2
theorem X12_10 {A B C D E F G H I J K L : Type} {R S T U V W X Y Z R0 : A → B → C → D → E → F → G → H → I → J → K → L → Prop} {r : Prop} (t : ∃ a b c d e f g h i j k l, R a b c d e f g h i j k l ∧ S a b c d e f g h i j k l ∧ T a b c d e f g h i j k l ∧ U a b c d e f g h i j k l ∧ V a b c d e f g h i j k l ∧ W a b c d e f g h i j k l ∧ X a b c d e f g h i j k l ∧ Y a b c d e f g h i j k l ∧ Z a b c d e f g h i j k l ∧ R0 a b c d e f g h i j k l) (s : ∀ a b c d e f g h i j k l, R a b c d e f g h i j k l → S a b c d e f g h i j k l → T a b c d e f g h i j k l → U a b c d e f g h i j k l → V a b c d e f g h i j k l → W a b c d e f g h i j k l → X a b c d e f g h i j k l → Y a b c d e f g h i j k l → Z a b c d e f g h i j k l → R0 a b c d e f g h i j k l → r) : r := t.elim fun a t => t.elim fun b t => t.elim fun c t => t.elim fun d t => t.elim fun e t => t.elim fun f t => t.elim fun g t => t.elim fun h t => t.elim fun i t => t.elim fun j t => t.elim fun k t => t.elim fun l t => s a b c d e f g h i j k l t.1 t.2.1 t.2.2.1 t.2.2.2.1 t.2.2.2.2.1 t.2.2.2.2.2.1 t.2.2.2.2.2.2.1 t.2.2.2.2.2.2.2.1 t.2.2.2.2.2.2.2.2.1 t.2.2.2.2.2.2.2.2.2
theorem X12_4 {A B C D E F G H I J K L : Type} {R S T U : A → B → C → D → E → F → G → H → I → J → K → L → Prop} {r : Prop} (t : ∃ a b c d e f g h i j k l, R a b c d e f g h i j k l ∧ S a b c d e f g h i j k l ∧ T a b c d e f g h i j k l ∧ U a b c d e f g h i j k l) (s : ∀ a b c d e f g h i j k l, R a b c d e f g h i j k l → S a b c d e f g h i j k l → T a b c d e f g h i j k l → U a b c d e f g h i j k l → r) : r := t.elim fun a t => t.elim fun b t => t.elim fun c t => t.elim fun d t => t.elim fun e t => t.elim fun f t => t.elim fun g t => t.elim fun h t => t.elim fun i t => t.elim fun j t => t.elim fun k t => t.elim fun l t => s a b c d e f g h i j k l t.1 t.2.1 t.2.2.1 t.2.2.2
theorem X12_7 {A B C D E F G H I J K L : Type} {R S T U V W X : A → B → C → D → E → F → G → H → I → J → K → L → Prop} {r : Prop} (t : ∃ a b c d e f g h i j k l, R a b c d e f g h i j k l ∧ S a b c d e f g h i j k l ∧ T a b c d e f g h i j k l ∧ U a b c d e f g h i j k l ∧ V a b c d e f g h i j k l ∧ W a b c d e f g h i j k l ∧ X a b c d e f g h i j k l) (s : ∀ a b c d e f g h i j k l, R a b c d e f g h i j k l → S a b c d e f g h i j k l → T a b c d e f g h i j k l → U a b c d e f g h i j k l → V a b c d e f g h i j k l → W a b c d e f g h i j k l → X a b c d e f g h i j k l → r) : r := t.elim fun a t => t.elim fun b t => t.elim fun c t => t.elim fun d t => t.elim fun e t => t.elim fun f t => t.elim fun g t => t.elim fun h t => t.elim fun i t => t.elim fun j t => t.elim fun k t => t.elim fun l t => s a b c d e f g h i j k l t.1 t.2.1 t.2.2.1 t.2.2.2.1 t.2.2.2.2.1 t.2.2.2.2.2.1 t.2.2.2.2.2.2
theorem X13_2 {A B C D E F G H I J K L M : Type} {R S : A → B → C → D → E → F → G → H → I → J → K → L → M → Prop} {r : Prop} (t : ∃ a b c d e f g h i j k l m, R a b c d e f g h i j k l m ∧ S a b c d e f g h i j k l m) (s : ∀ a b c d e f g h i j k l m, R a b c d e f g h i j k l m → S a b c d e f g h i j k l m → r) : r := t.elim fun a t => t.elim fun b t => t.elim fun c t => t.elim fun d t => t.elim fun e t => t.elim fun f t => t.elim fun g t => t.elim fun h t => t.elim fun i t => t.elim fun j t => t.elim fun k t => t.elim fun l t => t.elim fun m t => s a b c d e f g h i j k l m t.1 t.2
theorem X13_3 {A B C D E F G H I J K L M : Type} {R S T : A → B → C → D → E → F → G → H → I → J → K → L → M → Prop} {r : Prop} (t : ∃ a b c d e f g h i j k l m, R a b c d e f g h i j k l m ∧ S a b c d e f g h i j k l m ∧ T a b c d e f g h i j k l m) (s : ∀ a b c d e f g h i j k l m, R a b c d e f g h i j k l m → S a b c d e f g h i j k l m → T a b c d e f g h i j k l m → r) : r := t.elim fun a t => t.elim fun b t => t.elim fun c t => t.elim fun d t => t.elim fun e t => t.elim fun f t => t.elim fun g t => t.elim fun h t => t.elim fun i t => t.elim fun j t => t.elim fun k t => t.elim fun l t => t.elim fun m t => s a b c d e f g h i j k l m t.1 t.2.1 t.2.2
theorem X13_8 {A B C D E F G H I J K L M : Type} {R S T U V W X Y : A → B → C → D → E → F → G → H → I → J → K → L → M → Prop} {r : Prop} (t : ∃ a b c d e f g h i j k l m, R a b c d e f g h i j k l m ∧ S a b c d e f g h i j k l m ∧ T a b c d e f g h i j k l m ∧ U a b c d e f g h i j k l m ∧ V a b c d e f g h i j k l m ∧ W a b c d e f g h i j k l m ∧ X a b c d e f g h i j k l m ∧ Y a b c d e f g h i j k l m) (s : ∀ a b c d e f g h i j k l m, R a b c d e f g h i j k l m → S a b c d e f g h i j k l m → T a b c d e f g h i j k l m → U a b c d e f g h i j k l m → V a b c d e f g h i j k l m → W a b c d e f g h i j k l m → X a b c d e f g h i j k l m → Y a b c d e f g h i j k l m → r) : r := t.elim fun a t => t.elim fun b t => t.elim fun c t => t.elim fun d t => t.elim fun e t => t.elim fun f t => t.elim fun g t => t.elim fun h t => t.elim fun i t => t.elim fun j t => t.elim fun k t => t.elim fun l t => t.elim fun m t => s a b c d e f g h i j k l m t.1 t.2.1 t.2.2.1 t.2.2.2.1 t.2.2.2.2.1 t.2.2.2.2.2.1 t.2.2.2.2.2.2.1 t.2.2.2.2.2.2.2
theorem X15_1 {A B C D E F G H I J K L M N O : Type} {R : A → B → C → D → E → F → G → H → I → J → K → L → M → N → O → Prop} {r : Prop} (t : ∃ a b c d e f g h i j k l m n o, R a b c d e f g h i j k l m n o) (s : ∀ a b c d e f g h i j k l m n o, R a b c d e f g h i j k l m n o → r) : r := t.elim fun a t => t.elim fun b t => t.elim fun c t => t.elim fun d t => t.elim fun e t => t.elim fun f t => t.elim fun g t => t.elim fun h t => t.elim fun i t => t.elim fun j t => t.elim fun k t => t.elim fun l t => t.elim fun m t => t.elim fun n t => t.elim fun o t => s a b c d e f g h i j k l m n o t
theorem X17_3 {A B C D E F G H I J K L M N O P Q : Type} {R S T : A → B → C → D → E → F → G → H → I → J → K → L → M → N → O → P → Q → Prop} {r : Prop} (t : ∃ a b c d e f g h i j k l m n o p q, R a b c d e f g h i j k l m n o p q ∧ S a b c d e f g h i j k l m n o p q ∧ T a b c d e f g h i j k l m n o p q) (s : ∀ a b c d e f g h i j k l m n o p q, R a b c d e f g h i j k l m n o p q → S a b c d e f g h i j k l m n o p q → T a b c d e f g h i j k l m n o p q → r) : r := t.elim fun a t => t.elim fun b t => t.elim fun c t => t.elim fun d t => t.elim fun e t => t.elim fun f t => t.elim fun g t => t.elim fun h t => t.elim fun i t => t.elim fun j t => t.elim fun k t => t.elim fun l t => t.elim fun m t => t.elim fun n t => t.elim fun o t => t.elim fun p t => t.elim fun q t => s a b c d e f g h i j k l m n o p q t.1 t.2.1 t.2.2
theorem X1_1 {A : Type} {R : A → Prop} {r : Prop} (t : ∃ a, R a) (s : ∀ a, R a → r) : r := t.elim fun a t => s a t
theorem X1_2 {A : Type} {R S : A → Prop} {r : Prop} (t : ∃ a, R a ∧ S a) (s : ∀ a, R a → S a → r) : r := t.elim fun a t => s a t.1 t.2
theorem X1_3 {A : Type} {R S T : A → Prop} {r : Prop} (t : ∃ a, R a ∧ S a ∧ T a) (s : ∀ a, R a → S a → T a → r) : r := t.elim fun a t => s a t.1 t.2.1 t.2.2
theorem X1_4 {A : Type} {R S T U : A → Prop} {r : Prop} (t : ∃ a, R a ∧ S a ∧ T a ∧ U a) (s : ∀ a, R a → S a → T a → U a → r) : r := t.elim fun a t => s a t.1 t.2.1 t.2.2.1 t.2.2.2
theorem X1_5 {A : Type} {R S T U V : A → Prop} {r : Prop} (t : ∃ a, R a ∧ S a ∧ T a ∧ U a ∧ V a) (s : ∀ a, R a → S a → T a → U a → V a → r) : r := t.elim fun a t => s a t.1 t.2.1 t.2.2.1 t.2.2.2.1 t.2.2.2.2
theorem X1_6 {A : Type} {R S T U V W : A → Prop} {r : Prop} (t : ∃ a, R a ∧ S a ∧ T a ∧ U a ∧ V a ∧ W a) (s : ∀ a, R a → S a → T a → U a → V a → W a → r) : r := t.elim fun a t => s a t.1 t.2.1 t.2.2.1 t.2.2.2.1 t.2.2.2.2.1 t.2.2.2.2.2
theorem X2_1 {A B : Type} {R : A → B → Prop} {r : Prop} (t : ∃ a b, R a b) (s : ∀ a b, R a b → r) : r := t.elim fun a t => t.elim fun b t => s a b t
theorem X2_2 {A B : Type} {R S : A → B → Prop} {r : Prop} (t : ∃ a b, R a b ∧ S a b) (s : ∀ a b, R a b → S a b → r) : r := t.elim fun a t => t.elim fun b t => s a b t.1 t.2
theorem X2_3 {A B : Type} {R S T : A → B → Prop} {r : Prop} (t : ∃ a b, R a b ∧ S a b ∧ T a b) (s : ∀ a b, R a b → S a b → T a b → r) : r := t.elim fun a t => t.elim fun b t => s a b t.1 t.2.1 t.2.2
theorem X2_4 {A B : Type} {R S T U : A → B → Prop} {r : Prop} (t : ∃ a b, R a b ∧ S a b ∧ T a b ∧ U a b) (s : ∀ a b, R a b → S a b → T a b → U a b → r) : r := t.elim fun a t => t.elim fun b t => s a b t.1 t.2.1 t.2.2.1 t.2.2.2
theorem X2_5 {A B : Type} {R S T U V : A → B → Prop} {r : Prop} (t : ∃ a b, R a b ∧ S a b ∧ T a b ∧ U a b ∧ V a b) (s : ∀ a b, R a b → S a b → T a b → U a b → V a b → r) : r := t.elim fun a t => t.elim fun b t => s a b t.1 t.2.1 t.2.2.1 t.2.2.2.1 t.2.2.2.2
theorem X2_6 {A B : Type} {R S T U V W : A → B → Prop} {r : Prop} (t : ∃ a b, R a b ∧ S a b ∧ T a b ∧ U a b ∧ V a b ∧ W a b) (s : ∀ a b, R a b → S a b → T a b → U a b → V a b → W a b → r) : r := t.elim fun a t => t.elim fun b t => s a b t.1 t.2.1 t.2.2.1 t.2.2.2.1 t.2.2.2.2.1 t.2.2.2.2.2
theorem X3_1 {A B C : Type} {R : A → B → C → Prop} {r : Prop} (t : ∃ a b c, R a b c) (s : ∀ a b c, R a b c → r) : r := t.elim fun a t => t.elim fun b t => t.elim fun c t => s a b c t
theorem X3_2 {A B C : Type} {R S : A → B → C → Prop} {r : Prop} (t : ∃ a b c, R a b c ∧ S a b c) (s : ∀ a b c, R a b c → S a b c → r) : r := t.elim fun a t => t.elim fun b t => t.elim fun c t => s a b c t.1 t.2
theorem X3_3 {A B C : Type} {R S T : A → B → C → Prop} {r : Prop} (t : ∃ a b c, R a b c ∧ S a b c ∧ T a b c) (s : ∀ a b c, R a b c → S a b c → T a b c → r) : r := t.elim fun a t => t.elim fun b t => t.elim fun c t => s a b c t.1 t.2.1 t.2.2
theorem X3_4 {A B C : Type} {R S T U : A → B → C → Prop} {r : Prop} (t : ∃ a b c, R a b c ∧ S a b c ∧ T a b c ∧ U a b c) (s : ∀ a b c, R a b c → S a b c → T a b c → U a b c → r) : r := t.elim fun a t => t.elim fun b t => t.elim fun c t => s a b c t.1 t.2.1 t.2.2.1 t.2.2.2
theorem X3_5 {A B C : Type} {R S T U V : A → B → C → Prop} {r : Prop} (t : ∃ a b c, R a b c ∧ S a b c ∧ T a b c ∧ U a b c ∧ V a b c) (s : ∀ a b c, R a b c → S a b c → T a b c → U a b c → V a b c → r) : r := t.elim fun a t => t.elim fun b t => t.elim fun c t => s a b c t.1 t.2.1 t.2.2.1 t.2.2.2.1 t.2.2.2.2
theorem X4_2 {A B C D : Type} {R S : A → B → C → D → Prop} {r : Prop} (t : ∃ a b c d, R a b c d ∧ S a b c d) (s : ∀ a b c d, R a b c d → S a b c d → r) : r := t.elim fun a t => t.elim fun b t => t.elim fun c t => t.elim fun d t => s a b c d t.1 t.2
theorem X4_3 {A B C D : Type} {R S T : A → B → C → D → Prop} {r : Prop} (t : ∃ a b c d, R a b c d ∧ S a b c d ∧ T a b c d) (s : ∀ a b c d, R a b c d → S a b c d → T a b c d → r) : r := t.elim fun a t => t.elim fun b t => t.elim fun c t => t.elim fun d t => s a b c d t.1 t.2.1 t.2.2
theorem X4_4 {A B C D : Type} {R S T U : A → B → C → D → Prop} {r : Prop} (t : ∃ a b c d, R a b c d ∧ S a b c d ∧ T a b c d ∧ U a b c d) (s : ∀ a b c d, R a b c d → S a b c d → T a b c d → U a b c d → r) : r := t.elim fun a t => t.elim fun b t => t.elim fun c t => t.elim fun d t => s a b c d t.1 t.2.1 t.2.2.1 t.2.2.2
theorem X4_5 {A B C D : Type} {R S T U V : A → B → C → D → Prop} {r : Prop} (t : ∃ a b c d, R a b c d ∧ S a b c d ∧ T a b c d ∧ U a b c d ∧ V a b c d) (s : ∀ a b c d, R a b c d → S a b c d → T a b c d → U a b c d → V a b c d → r) : r := t.elim fun a t => t.elim fun b t => t.elim fun c t => t.elim fun d t => s a b c d t.1 t.2.1 t.2.2.1 t.2.2.2.1 t.2.2.2.2
theorem X5_4 {A B C D E : Type} {R S T U : A → B → C → D → E → Prop} {r : Prop} (t : ∃ a b c d e, R a b c d e ∧ S a b c d e ∧ T a b c d e ∧ U a b c d e) (s : ∀ a b c d e, R a b c d e → S a b c d e → T a b c d e → U a b c d e → r) : r := t.elim fun a t => t.elim fun b t => t.elim fun c t => t.elim fun d t => t.elim fun e t => s a b c d e t.1 t.2.1 t.2.2.1 t.2.2.2
theorem X6_11 {A B C D E F : Type} {R S T U V W X Y Z R0 R1 : A → B → C → D → E → F → Prop} {r : Prop} (t : ∃ a b c d e f, R a b c d e f ∧ S a b c d e f ∧ T a b c d e f ∧ U a b c d e f ∧ V a b c d e f ∧ W a b c d e f ∧ X a b c d e f ∧ Y a b c d e f ∧ Z a b c d e f ∧ R0 a b c d e f ∧ R1 a b c d e f) (s : ∀ a b c d e f, R a b c d e f → S a b c d e f → T a b c d e f → U a b c d e f → V a b c d e f → W a b c d e f → X a b c d e f → Y a b c d e f → Z a b c d e f → R0 a b c d e f → R1 a b c d e f → r) : r := t.elim fun a t => t.elim fun b t => t.elim fun c t => t.elim fun d t => t.elim fun e t => t.elim fun f t => s a b c d e f t.1 t.2.1 t.2.2.1 t.2.2.2.1 t.2.2.2.2.1 t.2.2.2.2.2.1 t.2.2.2.2.2.2.1 t.2.2.2.2.2.2.2.1 t.2.2.2.2.2.2.2.2.1 t.2.2.2.2.2.2.2.2.2.1 t.2.2.2.2.2.2.2.2.2.2
theorem X6_4 {A B C D E F : Type} {R S T U : A → B → C → D → E → F → Prop} {r : Prop} (t : ∃ a b c d e f, R a b c d e f ∧ S a b c d e f ∧ T a b c d e f ∧ U a b c d e f) (s : ∀ a b c d e f, R a b c d e f → S a b c d e f → T a b c d e f → U a b c d e f → r) : r := t.elim fun a t => t.elim fun b t => t.elim fun c t => t.elim fun d t => t.elim fun e t => t.elim fun f t => s a b c d e f t.1 t.2.1 t.2.2.1 t.2.2.2
theorem X6_8 {A B C D E F : Type} {R S T U V W X Y : A → B → C → D → E → F → Prop} {r : Prop} (t : ∃ a b c d e f, R a b c d e f ∧ S a b c d e f ∧ T a b c d e f ∧ U a b c d e f ∧ V a b c d e f ∧ W a b c d e f ∧ X a b c d e f ∧ Y a b c d e f) (s : ∀ a b c d e f, R a b c d e f → S a b c d e f → T a b c d e f → U a b c d e f → V a b c d e f → W a b c d e f → X a b c d e f → Y a b c d e f → r) : r := t.elim fun a t => t.elim fun b t => t.elim fun c t => t.elim fun d t => t.elim fun e t => t.elim fun f t => s a b c d e f t.1 t.2.1 t.2.2.1 t.2.2.2.1 t.2.2.2.2.1 t.2.2.2.2.2.1 t.2.2.2.2.2.2.1 t.2.2.2.2.2.2.2
theorem X7_2 {A B C D E F G : Type} {R S : A → B → C → D → E → F → G → Prop} {r : Prop} (t : ∃ a b c d e f g, R a b c d e f g ∧ S a b c d e f g) (s : ∀ a b c d e f g, R a b c d e f g → S a b c d e f g → r) : r := t.elim fun a t => t.elim fun b t => t.elim fun c t => t.elim fun d t => t.elim fun e t => t.elim fun f t => t.elim fun g t => s a b c d e f g t.1 t.2
theorem X7_6 {A B C D E F G : Type} {R S T U V W : A → B → C → D → E → F → G → Prop} {r : Prop} (t : ∃ a b c d e f g, R a b c d e f g ∧ S a b c d e f g ∧ T a b c d e f g ∧ U a b c d e f g ∧ V a b c d e f g ∧ W a b c d e f g) (s : ∀ a b c d e f g, R a b c d e f g → S a b c d e f g → T a b c d e f g → U a b c d e f g → V a b c d e f g → W a b c d e f g → r) : r := t.elim fun a t => t.elim fun b t => t.elim fun c t => t.elim fun d t => t.elim fun e t => t.elim fun f t => t.elim fun g t => s a b c d e f g t.1 t.2.1 t.2.2.1 t.2.2.2.1 t.2.2.2.2.1 t.2.2.2.2.2
theorem X8_3 {A B C D E F G H : Type} {R S T : A → B → C → D → E → F → G → H → Prop} {r : Prop} (t : ∃ a b c d e f g h, R a b c d e f g h ∧ S a b c d e f g h ∧ T a b c d e f g h) (s : ∀ a b c d e f g h, R a b c d e f g h → S a b c d e f g h → T a b c d e f g h → r) : r := t.elim fun a t => t.elim fun b t => t.elim fun c t => t.elim fun d t => t.elim fun e t => t.elim fun f t => t.elim fun g t => t.elim fun h t => s a b c d e f g h t.1 t.2.1 t.2.2
theorem X8_5 {A B C D E F G H : Type} {R S T U V : A → B → C → D → E → F → G → H → Prop} {r : Prop} (t : ∃ a b c d e f g h, R a b c d e f g h ∧ S a b c d e f g h ∧ T a b c d e f g h ∧ U a b c d e f g h ∧ V a b c d e f g h) (s : ∀ a b c d e f g h, R a b c d e f g h → S a b c d e f g h → T a b c d e f g h → U a b c d e f g h → V a b c d e f g h → r) : r := t.elim fun a t => t.elim fun b t => t.elim fun c t => t.elim fun d t => t.elim fun e t => t.elim fun f t => t.elim fun g t => t.elim fun h t => s a b c d e f g h t.1 t.2.1 t.2.2.1 t.2.2.2.1 t.2.2.2.2
theorem X9_2 {A B C D E F G H I : Type} {R S : A → B → C → D → E → F → G → H → I → Prop} {r : Prop} (t : ∃ a b c d e f g h i, R a b c d e f g h i ∧ S a b c d e f g h i) (s : ∀ a b c d e f g h i, R a b c d e f g h i → S a b c d e f g h i → r) : r := t.elim fun a t => t.elim fun b t => t.elim fun c t => t.elim fun d t => t.elim fun e t => t.elim fun f t => t.elim fun g t => t.elim fun h t => t.elim fun i t => s a b c d e f g h i t.1 t.2
theorem X9_7 {A B C D E F G H I : Type} {R S T U V W X : A → B → C → D → E → F → G → H → I → Prop} {r : Prop} (t : ∃ a b c d e f g h i, R a b c d e f g h i ∧ S a b c d e f g h i ∧ T a b c d e f g h i ∧ U a b c d e f g h i ∧ V a b c d e f g h i ∧ W a b c d e f g h i ∧ X a b c d e f g h i) (s : ∀ a b c d e f g h i, R a b c d e f g h i → S a b c d e f g h i → T a b c d e f g h i → U a b c d e f g h i → V a b c d e f g h i → W a b c d e f g h i → X a b c d e f g h i → r) : r := t.elim fun a t => t.elim fun b t => t.elim fun c t => t.elim fun d t => t.elim fun e t => t.elim fun f t => t.elim fun g t => t.elim fun h t => t.elim fun i t => s a b c d e f g h i t.1 t.2.1 t.2.2.1 t.2.2.2.1 t.2.2.2.2.1 t.2.2.2.2.2.1 t.2.2.2.2.2.2
theorem Y0_12 {R S T U V W X Y Z R0 R1 R2 : Prop} (t0 : R) (t1 : S) (t2 : T) (t3 : U) (t4 : V) (t5 : W) (t6 : X) (t7 : Y) (t8 : Z) (t9 : R0) (t10 : R1) (t11 : R2) : R ∧ S ∧ T ∧ U ∧ V ∧ W ∧ X ∧ Y ∧ Z ∧ R0 ∧ R1 ∧ R2 := ⟨t0, t1, t2, t3, t4, t5, t6, t7, t8, t9, t10, t11⟩
theorem Y0_3 {R S T : Prop} (t0 : R) (t1 : S) (t2 : T) : R ∧ S ∧ T := ⟨t0, t1, t2⟩
theorem Y0_4 {R S T U : Prop} (t0 : R) (t1 : S) (t2 : T) (t3 : U) : R ∧ S ∧ T ∧ U := ⟨t0, t1, t2, t3⟩
theorem Y0_5 {R S T U V : Prop} (t0 : R) (t1 : S) (t2 : T) (t3 : U) (t4 : V) : R ∧ S ∧ T ∧ U ∧ V := ⟨t0, t1, t2, t3, t4⟩
theorem Y0_6 {R S T U V W : Prop} (t0 : R) (t1 : S) (t2 : T) (t3 : U) (t4 : V) (t5 : W) : R ∧ S ∧ T ∧ U ∧ V ∧ W := ⟨t0, t1, t2, t3, t4, t5⟩
theorem Y0_7 {R S T U V W X : Prop} (t0 : R) (t1 : S) (t2 : T) (t3 : U) (t4 : V) (t5 : W) (t6 : X) : R ∧ S ∧ T ∧ U ∧ V ∧ W ∧ X := ⟨t0, t1, t2, t3, t4, t5, t6⟩
theorem Y11_3 {A B C D E F G H I J K : Type} {R S T : A → B → C → D → E → F → G → H → I → J → K → Prop} (a : A) (b : B) (c : C) (d : D) (e : E) (f : F) (g : G) (h : H) (i : I) (j : J) (k : K) (t0 : R a b c d e f g h i j k) (t1 : S a b c d e f g h i j k) (t2 : T a b c d e f g h i j k) : ∃ a b c d e f g h i j k, R a b c d e f g h i j k ∧ S a b c d e f g h i j k ∧ T a b c d e f g h i j k := ⟨a, b, c, d, e, f, g, h, i, j, k, t0, t1, t2⟩
theorem Y12_10 {A B C D E F G H I J K L : Type} {R S T U V W X Y Z R0 : A → B → C → D → E → F → G → H → I → J → K → L → Prop} (a : A) (b : B) (c : C) (d : D) (e : E) (f : F) (g : G) (h : H) (i : I) (j : J) (k : K) (l : L) (t0 : R a b c d e f g h i j k l) (t1 : S a b c d e f g h i j k l) (t2 : T a b c d e f g h i j k l) (t3 : U a b c d e f g h i j k l) (t4 : V a b c d e f g h i j k l) (t5 : W a b c d e f g h i j k l) (t6 : X a b c d e f g h i j k l) (t7 : Y a b c d e f g h i j k l) (t8 : Z a b c d e f g h i j k l) (t9 : R0 a b c d e f g h i j k l) : ∃ a b c d e f g h i j k l, R a b c d e f g h i j k l ∧ S a b c d e f g h i j k l ∧ T a b c d e f g h i j k l ∧ U a b c d e f g h i j k l ∧ V a b c d e f g h i j k l ∧ W a b c d e f g h i j k l ∧ X a b c d e f g h i j k l ∧ Y a b c d e f g h i j k l ∧ Z a b c d e f g h i j k l ∧ R0 a b c d e f g h i j k l := ⟨a, b, c, d, e, f, g, h, i, j, k, l, t0, t1, t2, t3, t4, t5, t6, t7, t8, t9⟩
theorem Y12_11 {A B C D E F G H I J K L : Type} {R S T U V W X Y Z R0 R1 : A → B → C → D → E → F → G → H → I → J → K → L → Prop} (a : A) (b : B) (c : C) (d : D) (e : E) (f : F) (g : G) (h : H) (i : I) (j : J) (k : K) (l : L) (t0 : R a b c d e f g h i j k l) (t1 : S a b c d e f g h i j k l) (t2 : T a b c d e f g h i j k l) (t3 : U a b c d e f g h i j k l) (t4 : V a b c d e f g h i j k l) (t5 : W a b c d e f g h i j k l) (t6 : X a b c d e f g h i j k l) (t7 : Y a b c d e f g h i j k l) (t8 : Z a b c d e f g h i j k l) (t9 : R0 a b c d e f g h i j k l) (t10 : R1 a b c d e f g h i j k l) : ∃ a b c d e f g h i j k l, R a b c d e f g h i j k l ∧ S a b c d e f g h i j k l ∧ T a b c d e f g h i j k l ∧ U a b c d e f g h i j k l ∧ V a b c d e f g h i j k l ∧ W a b c d e f g h i j k l ∧ X a b c d e f g h i j k l ∧ Y a b c d e f g h i j k l ∧ Z a b c d e f g h i j k l ∧ R0 a b c d e f g h i j k l ∧ R1 a b c d e f g h i j k l := ⟨a, b, c, d, e, f, g, h, i, j, k, l, t0, t1, t2, t3, t4, t5, t6, t7, t8, t9, t10⟩
theorem Y12_7 {A B C D E F G H I J K L : Type} {R S T U V W X : A → B → C → D → E → F → G → H → I → J → K → L → Prop} (a : A) (b : B) (c : C) (d : D) (e : E) (f : F) (g : G) (h : H) (i : I) (j : J) (k : K) (l : L) (t0 : R a b c d e f g h i j k l) (t1 : S a b c d e f g h i j k l) (t2 : T a b c d e f g h i j k l) (t3 : U a b c d e f g h i j k l) (t4 : V a b c d e f g h i j k l) (t5 : W a b c d e f g h i j k l) (t6 : X a b c d e f g h i j k l) : ∃ a b c d e f g h i j k l, R a b c d e f g h i j k l ∧ S a b c d e f g h i j k l ∧ T a b c d e f g h i j k l ∧ U a b c d e f g h i j k l ∧ V a b c d e f g h i j k l ∧ W a b c d e f g h i j k l ∧ X a b c d e f g h i j k l := ⟨a, b, c, d, e, f, g, h, i, j, k, l, t0, t1, t2, t3, t4, t5, t6⟩
theorem Y13_8 {A B C D E F G H I J K L M : Type} {R S T U V W X Y : A → B → C → D → E → F → G → H → I → J → K → L → M → Prop} (a : A) (b : B) (c : C) (d : D) (e : E) (f : F) (g : G) (h : H) (i : I) (j : J) (k : K) (l : L) (m : M) (t0 : R a b c d e f g h i j k l m) (t1 : S a b c d e f g h i j k l m) (t2 : T a b c d e f g h i j k l m) (t3 : U a b c d e f g h i j k l m) (t4 : V a b c d e f g h i j k l m) (t5 : W a b c d e f g h i j k l m) (t6 : X a b c d e f g h i j k l m) (t7 : Y a b c d e f g h i j k l m) : ∃ a b c d e f g h i j k l m, R a b c d e f g h i j k l m ∧ S a b c d e f g h i j k l m ∧ T a b c d e f g h i j k l m ∧ U a b c d e f g h i j k l m ∧ V a b c d e f g h i j k l m ∧ W a b c d e f g h i j k l m ∧ X a b c d e f g h i j k l m ∧ Y a b c d e f g h i j k l m := ⟨a, b, c, d, e, f, g, h, i, j, k, l, m, t0, t1, t2, t3, t4, t5, t6, t7⟩
theorem Y15_1 {A B C D E F G H I J K L M N O : Type} {R : A → B → C → D → E → F → G → H → I → J → K → L → M → N → O → Prop} (a : A) (b : B) (c : C) (d : D) (e : E) (f : F) (g : G) (h : H) (i : I) (j : J) (k : K) (l : L) (m : M) (n : N) (o : O) (t0 : R a b c d e f g h i j k l m n o) : ∃ a b c d e f g h i j k l m n o, R a b c d e f g h i j k l m n o := ⟨a, b, c, d, e, f, g, h, i, j, k, l, m, n, o, t0⟩
theorem Y17_3 {A B C D E F G H I J K L M N O P Q : Type} {R S T : A → B → C → D → E → F → G → H → I → J → K → L → M → N → O → P → Q → Prop} (a : A) (b : B) (c : C) (d : D) (e : E) (f : F) (g : G) (h : H) (i : I) (j : J) (k : K) (l : L) (m : M) (n : N) (o : O) (p : P) (q : Q) (t0 : R a b c d e f g h i j k l m n o p q) (t1 : S a b c d e f g h i j k l m n o p q) (t2 : T a b c d e f g h i j k l m n o p q) : ∃ a b c d e f g h i j k l m n o p q, R a b c d e f g h i j k l m n o p q ∧ S a b c d e f g h i j k l m n o p q ∧ T a b c d e f g h i j k l m n o p q := ⟨a, b, c, d, e, f, g, h, i, j, k, l, m, n, o, p, q, t0, t1, t2⟩
theorem Y1_2 {A : Type} {R S : A → Prop} (a : A) (t0 : R a) (t1 : S a) : ∃ a, R a ∧ S a := ⟨a, t0, t1⟩
theorem Y1_3 {A : Type} {R S T : A → Prop} (a : A) (t0 : R a) (t1 : S a) (t2 : T a) : ∃ a, R a ∧ S a ∧ T a := ⟨a, t0, t1, t2⟩
theorem Y1_4 {A : Type} {R S T U : A → Prop} (a : A) (t0 : R a) (t1 : S a) (t2 : T a) (t3 : U a) : ∃ a, R a ∧ S a ∧ T a ∧ U a := ⟨a, t0, t1, t2, t3⟩
theorem Y1_5 {A : Type} {R S T U V : A → Prop} (a : A) (t0 : R a) (t1 : S a) (t2 : T a) (t3 : U a) (t4 : V a) : ∃ a, R a ∧ S a ∧ T a ∧ U a ∧ V a := ⟨a, t0, t1, t2, t3, t4⟩
theorem Y1_6 {A : Type} {R S T U V W : A → Prop} (a : A) (t0 : R a) (t1 : S a) (t2 : T a) (t3 : U a) (t4 : V a) (t5 : W a) : ∃ a, R a ∧ S a ∧ T a ∧ U a ∧ V a ∧ W a := ⟨a, t0, t1, t2, t3, t4, t5⟩
theorem Y2_1 {A B : Type} {R : A → B → Prop} (a : A) (b : B) (t0 : R a b) : ∃ a b, R a b := ⟨a, b, t0⟩
theorem Y2_2 {A B : Type} {R S : A → B → Prop} (a : A) (b : B) (t0 : R a b) (t1 : S a b) : ∃ a b, R a b ∧ S a b := ⟨a, b, t0, t1⟩
theorem Y2_3 {A B : Type} {R S T : A → B → Prop} (a : A) (b : B) (t0 : R a b) (t1 : S a b) (t2 : T a b) : ∃ a b, R a b ∧ S a b ∧ T a b := ⟨a, b, t0, t1, t2⟩
theorem Y2_4 {A B : Type} {R S T U : A → B → Prop} (a : A) (b : B) (t0 : R a b) (t1 : S a b) (t2 : T a b) (t3 : U a b) : ∃ a b, R a b ∧ S a b ∧ T a b ∧ U a b := ⟨a, b, t0, t1, t2, t3⟩
theorem Y2_5 {A B : Type} {R S T U V : A → B → Prop} (a : A) (b : B) (t0 : R a b) (t1 : S a b) (t2 : T a b) (t3 : U a b) (t4 : V a b) : ∃ a b, R a b ∧ S a b ∧ T a b ∧ U a b ∧ V a b := ⟨a, b, t0, t1, t2, t3, t4⟩
theorem Y2_6 {A B : Type} {R S T U V W : A → B → Prop} (a : A) (b : B) (t0 : R a b) (t1 : S a b) (t2 : T a b) (t3 : U a b) (t4 : V a b) (t5 : W a b) : ∃ a b, R a b ∧ S a b ∧ T a b ∧ U a b ∧ V a b ∧ W a b := ⟨a, b, t0, t1, t2, t3, t4, t5⟩
theorem Y2_7 {A B : Type} {R S T U V W X : A → B → Prop} (a : A) (b : B) (t0 : R a b) (t1 : S a b) (t2 : T a b) (t3 : U a b) (t4 : V a b) (t5 : W a b) (t6 : X a b) : ∃ a b, R a b ∧ S a b ∧ T a b ∧ U a b ∧ V a b ∧ W a b ∧ X a b := ⟨a, b, t0, t1, t2, t3, t4, t5, t6⟩
theorem Y3_1 {A B C : Type} {R : A → B → C → Prop} (a : A) (b : B) (c : C) (t0 : R a b c) : ∃ a b c, R a b c := ⟨a, b, c, t0⟩
theorem Y3_2 {A B C : Type} {R S : A → B → C → Prop} (a : A) (b : B) (c : C) (t0 : R a b c) (t1 : S a b c) : ∃ a b c, R a b c ∧ S a b c := ⟨a, b, c, t0, t1⟩
theorem Y3_3 {A B C : Type} {R S T : A → B → C → Prop} (a : A) (b : B) (c : C) (t0 : R a b c) (t1 : S a b c) (t2 : T a b c) : ∃ a b c, R a b c ∧ S a b c ∧ T a b c := ⟨a, b, c, t0, t1, t2⟩
theorem Y3_4 {A B C : Type} {R S T U : A → B → C → Prop} (a : A) (b : B) (c : C) (t0 : R a b c) (t1 : S a b c) (t2 : T a b c) (t3 : U a b c) : ∃ a b c, R a b c ∧ S a b c ∧ T a b c ∧ U a b c := ⟨a, b, c, t0, t1, t2, t3⟩
theorem Y3_5 {A B C : Type} {R S T U V : A → B → C → Prop} (a : A) (b : B) (c : C) (t0 : R a b c) (t1 : S a b c) (t2 : T a b c) (t3 : U a b c) (t4 : V a b c) : ∃ a b c, R a b c ∧ S a b c ∧ T a b c ∧ U a b c ∧ V a b c := ⟨a, b, c, t0, t1, t2, t3, t4⟩
theorem Y3_6 {A B C : Type} {R S T U V W : A → B → C → Prop} (a : A) (b : B) (c : C) (t0 : R a b c) (t1 : S a b c) (t2 : T a b c) (t3 : U a b c) (t4 : V a b c) (t5 : W a b c) : ∃ a b c, R a b c ∧ S a b c ∧ T a b c ∧ U a b c ∧ V a b c ∧ W a b c := ⟨a, b, c, t0, t1, t2, t3, t4, t5⟩
theorem Y4_2 {A B C D : Type} {R S : A → B → C → D → Prop} (a : A) (b : B) (c : C) (d : D) (t0 : R a b c d) (t1 : S a b c d) : ∃ a b c d, R a b c d ∧ S a b c d := ⟨a, b, c, d, t0, t1⟩
theorem Y4_3 {A B C D : Type} {R S T : A → B → C → D → Prop} (a : A) (b : B) (c : C) (d : D) (t0 : R a b c d) (t1 : S a b c d) (t2 : T a b c d) : ∃ a b c d, R a b c d ∧ S a b c d ∧ T a b c d := ⟨a, b, c, d, t0, t1, t2⟩
theorem Y4_4 {A B C D : Type} {R S T U : A → B → C → D → Prop} (a : A) (b : B) (c : C) (d : D) (t0 : R a b c d) (t1 : S a b c d) (t2 : T a b c d) (t3 : U a b c d) : ∃ a b c d, R a b c d ∧ S a b c d ∧ T a b c d ∧ U a b c d := ⟨a, b, c, d, t0, t1, t2, t3⟩
theorem Y4_5 {A B C D : Type} {R S T U V : A → B → C → D → Prop} (a : A) (b : B) (c : C) (d : D) (t0 : R a b c d) (t1 : S a b c d) (t2 : T a b c d) (t3 : U a b c d) (t4 : V a b c d) : ∃ a b c d, R a b c d ∧ S a b c d ∧ T a b c d ∧ U a b c d ∧ V a b c d := ⟨a, b, c, d, t0, t1, t2, t3, t4⟩
theorem Y5_3 {A B C D E : Type} {R S T : A → B → C → D → E → Prop} (a : A) (b : B) (c : C) (d : D) (e : E) (t0 : R a b c d e) (t1 : S a b c d e) (t2 : T a b c d e) : ∃ a b c d e, R a b c d e ∧ S a b c d e ∧ T a b c d e := ⟨a, b, c, d, e, t0, t1, t2⟩
theorem Y5_4 {A B C D E : Type} {R S T U : A → B → C → D → E → Prop} (a : A) (b : B) (c : C) (d : D) (e : E) (t0 : R a b c d e) (t1 : S a b c d e) (t2 : T a b c d e) (t3 : U a b c d e) : ∃ a b c d e, R a b c d e ∧ S a b c d e ∧ T a b c d e ∧ U a b c d e := ⟨a, b, c, d, e, t0, t1, t2, t3⟩
theorem Y6_11 {A B C D E F : Type} {R S T U V W X Y Z R0 R1 : A → B → C → D → E → F → Prop} (a : A) (b : B) (c : C) (d : D) (e : E) (f : F) (t0 : R a b c d e f) (t1 : S a b c d e f) (t2 : T a b c d e f) (t3 : U a b c d e f) (t4 : V a b c d e f) (t5 : W a b c d e f) (t6 : X a b c d e f) (t7 : Y a b c d e f) (t8 : Z a b c d e f) (t9 : R0 a b c d e f) (t10 : R1 a b c d e f) : ∃ a b c d e f, R a b c d e f ∧ S a b c d e f ∧ T a b c d e f ∧ U a b c d e f ∧ V a b c d e f ∧ W a b c d e f ∧ X a b c d e f ∧ Y a b c d e f ∧ Z a b c d e f ∧ R0 a b c d e f ∧ R1 a b c d e f := ⟨a, b, c, d, e, f, t0, t1, t2, t3, t4, t5, t6, t7, t8, t9, t10⟩
theorem Y6_4 {A B C D E F : Type} {R S T U : A → B → C → D → E → F → Prop} (a : A) (b : B) (c : C) (d : D) (e : E) (f : F) (t0 : R a b c d e f) (t1 : S a b c d e f) (t2 : T a b c d e f) (t3 : U a b c d e f) : ∃ a b c d e f, R a b c d e f ∧ S a b c d e f ∧ T a b c d e f ∧ U a b c d e f := ⟨a, b, c, d, e, f, t0, t1, t2, t3⟩
theorem Y6_8 {A B C D E F : Type} {R S T U V W X Y : A → B → C → D → E → F → Prop} (a : A) (b : B) (c : C) (d : D) (e : E) (f : F) (t0 : R a b c d e f) (t1 : S a b c d e f) (t2 : T a b c d e f) (t3 : U a b c d e f) (t4 : V a b c d e f) (t5 : W a b c d e f) (t6 : X a b c d e f) (t7 : Y a b c d e f) : ∃ a b c d e f, R a b c d e f ∧ S a b c d e f ∧ T a b c d e f ∧ U a b c d e f ∧ V a b c d e f ∧ W a b c d e f ∧ X a b c d e f ∧ Y a b c d e f := ⟨a, b, c, d, e, f, t0, t1, t2, t3, t4, t5, t6, t7⟩
theorem Y7_2 {A B C D E F G : Type} {R S : A → B → C → D → E → F → G → Prop} (a : A) (b : B) (c : C) (d : D) (e : E) (f : F) (g : G) (t0 : R a b c d e f g) (t1 : S a b c d e f g) : ∃ a b c d e f g, R a b c d e f g ∧ S a b c d e f g := ⟨a, b, c, d, e, f, g, t0, t1⟩
theorem Y7_6 {A B C D E F G : Type} {R S T U V W : A → B → C → D → E → F → G → Prop} (a : A) (b : B) (c : C) (d : D) (e : E) (f : F) (g : G) (t0 : R a b c d e f g) (t1 : S a b c d e f g) (t2 : T a b c d e f g) (t3 : U a b c d e f g) (t4 : V a b c d e f g) (t5 : W a b c d e f g) : ∃ a b c d e f g, R a b c d e f g ∧ S a b c d e f g ∧ T a b c d e f g ∧ U a b c d e f g ∧ V a b c d e f g ∧ W a b c d e f g := ⟨a, b, c, d, e, f, g, t0, t1, t2, t3, t4, t5⟩
theorem Y8_3 {A B C D E F G H : Type} {R S T : A → B → C → D → E → F → G → H → Prop} (a : A) (b : B) (c : C) (d : D) (e : E) (f : F) (g : G) (h : H) (t0 : R a b c d e f g h) (t1 : S a b c d e f g h) (t2 : T a b c d e f g h) : ∃ a b c d e f g h, R a b c d e f g h ∧ S a b c d e f g h ∧ T a b c d e f g h := ⟨a, b, c, d, e, f, g, h, t0, t1, t2⟩
theorem Y8_5 {A B C D E F G H : Type} {R S T U V : A → B → C → D → E → F → G → H → Prop} (a : A) (b : B) (c : C) (d : D) (e : E) (f : F) (g : G) (h : H) (t0 : R a b c d e f g h) (t1 : S a b c d e f g h) (t2 : T a b c d e f g h) (t3 : U a b c d e f g h) (t4 : V a b c d e f g h) : ∃ a b c d e f g h, R a b c d e f g h ∧ S a b c d e f g h ∧ T a b c d e f g h ∧ U a b c d e f g h ∧ V a b c d e f g h := ⟨a, b, c, d, e, f, g, h, t0, t1, t2, t3, t4⟩
theorem Y9_11 {A B C D E F G H I : Type} {R S T U V W X Y Z R0 R1 : A → B → C → D → E → F → G → H → I → Prop} (a : A) (b : B) (c : C) (d : D) (e : E) (f : F) (g : G) (h : H) (i : I) (t0 : R a b c d e f g h i) (t1 : S a b c d e f g h i) (t2 : T a b c d e f g h i) (t3 : U a b c d e f g h i) (t4 : V a b c d e f g h i) (t5 : W a b c d e f g h i) (t6 : X a b c d e f g h i) (t7 : Y a b c d e f g h i) (t8 : Z a b c d e f g h i) (t9 : R0 a b c d e f g h i) (t10 : R1 a b c d e f g h i) : ∃ a b c d e f g h i, R a b c d e f g h i ∧ S a b c d e f g h i ∧ T a b c d e f g h i ∧ U a b c d e f g h i ∧ V a b c d e f g h i ∧ W a b c d e f g h i ∧ X a b c d e f g h i ∧ Y a b c d e f g h i ∧ Z a b c d e f g h i ∧ R0 a b c d e f g h i ∧ R1 a b c d e f g h i := ⟨a, b, c, d, e, f, g, h, i, t0, t1, t2, t3, t4, t5, t6, t7, t8, t9, t10⟩
theorem Y9_2 {A B C D E F G H I : Type} {R S : A → B → C → D → E → F → G → H → I → Prop} (a : A) (b : B) (c : C) (d : D) (e : E) (f : F) (g : G) (h : H) (i : I) (t0 : R a b c d e f g h i) (t1 : S a b c d e f g h i) : ∃ a b c d e f g h i, R a b c d e f g h i ∧ S a b c d e f g h i := ⟨a, b, c, d, e, f, g, h, i, t0, t1⟩
end
section
noncomputable abbrev AA (dp un : Nat) (gd : Option (List Code)) (env : Env) (outer : List Env) : Around := { handled := none, depth := dp, frames := some (env :: outer), guards := gd, units := un }
noncomputable abbrev KNd (w : World) := strKind PySem.Challenge.rw_pb0113_01.row.prog w
noncomputable abbrev Bs := List UInt8
inductive Fold where
  | mk (name : Bs) (count : Int) (oid : Option Bs) (parts : List Fold) (files : List Bs) (many : Int)
set_option genInjectivity true in
inductive Tree where
  | mk (name : Bs) (count : Int) (oid : Option Bs) (parts : List Tree)
mutual
noncomputable def Fold.tree : Fold → Tree
  | .mk n c o ps _ _ => .mk n c o (Fold.trees ps)
noncomputable def Fold.trees : List Fold → List Tree
  | [] => []
  | p :: r => p.tree :: Fold.trees r
end
noncomputable abbrev Led := List (Addr × Obj)
noncomputable def BV (v : Value) (b : Bs) : Prop := ∃ t, v = .bytes b.toArray t
noncomputable def OV (v : Value) : Option Bs → Prop
  | none => v = .none
  | some b => ∃ t, v = .bytes b.toArray t
noncomputable def BVs : List Value → List Bs → Prop
  | [], [] => True
  | v :: vs, b :: bs => BV v b ∧ BVs vs bs
  | _, _ => False
noncomputable abbrev lstN (vs : List Value) (n : Nat) : Obj := { cls := .type "list", data := .seq vs.toArray n }
noncomputable abbrev tup (vs : List Value) : Obj := { cls := .type "tuple", data := .seq vs.toArray }
noncomputable abbrev treeEs (w : World) (t1 t2 t3 t4 t5 : Tok) (vn vo : Value) (c : Int) (pl : Addr) : List DictEntry :=
  [⟨PyData.keyHash w.params (Str.ofString "name"), .str (Str.ofString "name") t1, vn⟩, ⟨PyData.keyHash w.params (Str.ofString "count"), .str (Str.ofString "count") t2, .int c t5⟩,
   ⟨PyData.keyHash w.params (Str.ofString "oid"), .str (Str.ofString "oid") t3, vo⟩, ⟨PyData.keyHash w.params (Str.ofString "parts"), .str (Str.ofString "parts") t4, .ref pl⟩]
mutual
noncomputable def FoldIn (w : World) (news : Led) : Value → Fold → Prop
  | v, .mk n c o ps fs m => ∃ a ob tn vo pl fl t t' vs ws i j, v = .ref a ∧ (a, ob) ∈ news ∧ (a == sysModules) = false ∧
      ob.IsDictOf (KNd w) [(Str.ofString "name", .bytes n.toArray tn), (Str.ofString "count", .int c t), (Str.ofString "oid", vo), (Str.ofString "parts", .ref pl), (Str.ofString "files", .ref fl), (Str.ofString "many", .int m t')] ∧
      OV vo o ∧ (pl, lstN vs i) ∈ news ∧ (fl, lstN ws j) ∈ news ∧ FoldsIn w news vs ps ∧ BVs ws fs ∧ vs.length ≤ 1000 ∧ ws.length ≤ 1000
noncomputable def FoldsIn (w : World) (news : Led) : List Value → List Fold → Prop
  | [], [] => True
  | v :: vs, p :: ps => FoldIn w news v p ∧ FoldsIn w news vs ps
  | _, _ => False
end
mutual
noncomputable def TreeIn (w : World) (news : Led) : Value → Tree → Prop
  | v, .mk n c o ps => ∃ a d tn vo pl t1 t2 t3 t4 t5 vs i, v = .ref a ∧ (a, instObj 207 d) ∈ news ∧ (d, dictOf (treeEs w t1 t2 t3 t4 t5 (.bytes n.toArray tn) vo c pl) 4) ∈ news ∧
      OV vo o ∧ (pl, lstN vs i) ∈ news ∧ TreesIn w news vs ps ∧ vs.length ≤ 1000
noncomputable def TreesIn (w : World) (news : Led) : List Value → List Tree → Prop
  | [], [] => True
  | v :: vs, p :: ps => TreeIn w news v p ∧ TreesIn w news vs ps
  | _, _ => False
end
mutual
noncomputable def ToldIn (news : Led) : Value → Tree → Prop
  | v, .mk n c o ps => ∃ a tn vo pl t vs i, v = .ref a ∧ (a, tup [.bytes n.toArray tn, .int c t, vo, .ref pl]) ∈ news ∧ OV vo o ∧ (pl, lstN vs i) ∈ news ∧ ToldsIn news vs ps ∧ vs.length ≤ 1000
noncomputable def ToldsIn (news : Led) : List Value → List Tree → Prop
  | [], [] => True
  | v :: vs, p :: ps => ToldIn news v p ∧ ToldsIn news vs ps
  | _, _ => False
end
noncomputable def Deck (w : World) (o : Obj) (c : Addr) : Prop :=
  ∃ i st ti ts, 0 ≤ i ∧ 0 ≤ st ∧ st < 8191 ∧ o.IsDictOf (KNd w) [(Str.ofString "cells", .ref c), (Str.ofString "at", .int i ti), (Str.ofString "stir", .int st ts)]
noncomputable def Cells (cs : List Value) : Prop := ∃ ns, IntsAre cs ns ∧ (∀ n ∈ ns, 0 ≤ n ∧ n < 1000003) ∧ ns.length ≤ 48
theorem OV.handed {v : Value} {o : Option Bs} (h : OV v o) : handedIn v = true := by
  cases o with
  | none => subst h; rfl
  | some b => obtain ⟨t, rfl⟩ := h; rfl
mutual
noncomputable def Tree.ht : Tree → Nat
  | .mk _ _ _ ps => Tree.hts ps + 1
noncomputable def Tree.hts : List Tree → Nat
  | [] => 0
  | p :: r => max p.ht (Tree.hts r)
end
theorem Tree.ht_le {ps : List Tree} : ∀ {q}, q ∈ ps → q.ht ≤ Tree.hts ps := by
  induction ps with
  | nil => intro q h; cases h
  | cons p r ih =>
    intro q h
    unfold Tree.hts
    rcases List.mem_cons.mp h with rfl | h
    · exact Nat.le_max_left _ _
    · exact Nat.le_trans (ih h) (Nat.le_max_right _ _)
noncomputable def Apart (news tl : Led) : Prop := ∀ q ∈ news, ∀ p ∈ tl, @Ne Nat q.1 p.1
theorem size1000 {vs : List Value} (h : vs.length ≤ 1000) : vs.toArray.size ≤ sizeLine := by rw [List.size_toArray, sizeLine_eq]; lia
theorem Apart.nil {news : Led} : Apart news [] := fun _ _ _ h => nomatch h
theorem Apart.sub {l l' k k' : Led} (h : Apart l k) (h1 : ∀ q ∈ l', q ∈ l) (h2 : ∀ q ∈ k', q ∈ k) : Apart l' k' := fun q hq p hp => h q (h1 q hq) p (h2 p hp)
theorem Apart.app {l k k' : Led} (h : Apart l k) (h' : Apart l k') : Apart l (k ++ k') := fun q hq p hp => (List.mem_append.mp hp).elim (h q hq p) (h' q hq p)
theorem Apart.cons {l k : Led} {a : Addr} {o : Obj} (h : Apart l k) (h' : ∀ q ∈ l, @Ne Nat q.1 a) : Apart l ((a, o) :: k) := fun q hq p hp => by
  rcases List.mem_cons.mp hp with rfl | hp
  · exact h' q hq
  · exact h q hq p hp
theorem News.sub {h₀ h : Heap} {L : Addr} {l l' : Led} (N : News h₀ L h l) (hs : ∀ q ∈ l', q ∈ l) : News h₀ L h l' := fun p hp => N p (hs p hp)
theorem in_l {l k : Led} : ∀ q ∈ l, q ∈ l ++ k := fun _ h => List.mem_append_left _ h
theorem in_r {l k : Led} : ∀ q ∈ k, q ∈ l ++ k := fun _ h => List.mem_append_right _ h
end
section
section
theorem Tree.ind {P : Tree → Prop} (h : ∀ n c o ps, (∀ q ∈ ps, P q) → P (.mk n c o ps)) : ∀ t, P t := by
  intro t
  induction t using Tree.rec (motive_2 := fun l => ∀ q ∈ l, P q) with
  | mk n c o ps ih => exact h n c o ps ih
  | nil => rename_i hq; cases hq
  | cons a r ha hr => rename_i q hq; rcases List.mem_cons.mp hq with rfl | hq; exact ha; exact hr q hq
theorem Fold.ind {P : Fold → Prop} (h : ∀ n c o ps fs m, (∀ q ∈ ps, P q) → P (.mk n c o ps fs m)) : ∀ t, P t := by
  intro t
  induction t using Fold.rec (motive_2 := fun l => ∀ q ∈ l, P q) with
  | mk n c o ps fs m ih => exact h n c o ps fs m ih
  | nil => rename_i hq; cases hq
  | cons a r ha hr => rename_i q hq; rcases List.mem_cons.mp hq with rfl | hq; exact ha; exact hr q hq
theorem trees_of {w : World} {l l' : Led} : ∀ {ps : List Tree} {vs : List Value}, (∀ q ∈ ps, ∀ v, TreeIn w l v q → TreeIn w l' v q) → TreesIn w l vs ps → TreesIn w l' vs ps
  | [], [], _, h => trivial
  | [], _ :: _, _, h => False.elim h
  | _ :: _, [], _, h => False.elim h
  | p :: ps, v :: vs, k, h => by
    change _ ∧ _ at h ⊢
    exact ⟨k p (.head _) v h.1, trees_of (fun q hq => k q (.tail _ hq)) h.2⟩
theorem TreeIn.mono {w : World} {l l' : Led} (hs : ∀ q ∈ l, q ∈ l') : ∀ {t : Tree} {v : Value}, TreeIn w l v t → TreeIn w l' v t := by
  intro t
  induction t using Tree.ind with
  | h n c o ps ih =>
    intro v h
    change Exists _ at h ⊢
    refine X12_7 h ?_; clear h; rintro a d tn vo pl t1 t2 t3 t4 t5 vs i e h1 h2 h4 h5 h6 h7
    exact Y12_7 a d tn vo pl t1 t2 t3 t4 t5 vs i e (hs _ h1) (hs _ h2) h4 (hs _ h5) (trees_of (fun q hq v => ih q hq) h6) h7
theorem TreesIn.mono {w : World} {l l' : Led} (hs : ∀ q ∈ l, q ∈ l') {ps : List Tree} {vs : List Value} (h : TreesIn w l vs ps) : TreesIn w l' vs ps := trees_of (fun _ _ _ => TreeIn.mono hs) h
theorem tolds_of {l l' : Led} : ∀ {ps : List Tree} {vs : List Value}, (∀ q ∈ ps, ∀ v, ToldIn l v q → ToldIn l' v q) → ToldsIn l vs ps → ToldsIn l' vs ps
  | [], [], _, h => trivial
  | [], _ :: _, _, h => False.elim h
  | _ :: _, [], _, h => False.elim h
  | p :: ps, v :: vs, k, h => by
    change _ ∧ _ at h ⊢
    exact ⟨k p (.head _) v h.1, tolds_of (fun q hq => k q (.tail _ hq)) h.2⟩
theorem ToldIn.mono {l l' : Led} (hs : ∀ q ∈ l, q ∈ l') : ∀ {t : Tree} {v : Value}, ToldIn l v t → ToldIn l' v t := by
  intro t
  induction t using Tree.ind with
  | h n c o ps ih =>
    intro v h
    change Exists _ at h ⊢
    refine X7_6 h ?_; clear h; rintro a tn vo pl t vs i e h1 h4 h5 h6 h7
    exact Y7_6 a tn vo pl t vs i e (hs _ h1) h4 (hs _ h5) (tolds_of (fun q hq v => ih q hq) h6) h7
theorem ToldsIn.mono {l l' : Led} (hs : ∀ q ∈ l, q ∈ l') {ps : List Tree} {vs : List Value} (h : ToldsIn l vs ps) : ToldsIn l' vs ps := tolds_of (fun _ _ _ => ToldIn.mono hs) h
theorem folds_of {w : World} {l l' : Led} : ∀ {ps : List Fold} {vs : List Value}, (∀ q ∈ ps, ∀ v, FoldIn w l v q → FoldIn w l' v q) → FoldsIn w l vs ps → FoldsIn w l' vs ps
  | [], [], _, h => trivial
  | [], _ :: _, _, h => False.elim h
  | _ :: _, [], _, h => False.elim h
  | p :: ps, v :: vs, k, h => by
    change _ ∧ _ at h ⊢
    exact ⟨k p (.head _) v h.1, folds_of (fun q hq => k q (.tail _ hq)) h.2⟩
theorem FoldIn.mono {w : World} {l l' : Led} (hs : ∀ q ∈ l, q ∈ l') : ∀ {t : Fold} {v : Value}, FoldIn w l v t → FoldIn w l' v t := by
  intro t
  induction t using Fold.ind with
  | h n c o ps fs m ih =>
    intro v h
    change Exists _ at h ⊢
    refine X12_10 h ?_; clear h; rintro a ob tn vo pl fl t t' vs ws i j e h1 h2 h3 h4 h5 h6 h7 h8 h9
    exact Y12_10 a ob tn vo pl fl t t' vs ws i j e (hs _ h1) h2 h3 h4 (hs _ h5) (hs _ h6) (folds_of (fun q hq v => ih q hq) h7) h8 h9
theorem FoldsIn.mono {w : World} {l l' : Led} (hs : ∀ q ∈ l, q ∈ l') {ps : List Fold} {vs : List Value} (h : FoldsIn w l vs ps) : FoldsIn w l' vs ps := folds_of (fun _ _ _ => FoldIn.mono hs) h
theorem trees_len {w : World} {l : Led} : ∀ {ps : List Tree} {vs : List Value}, TreesIn w l vs ps → vs.length = ps.length
  | [], [], _ => rfl
  | [], _ :: _, h => False.elim h
  | _ :: _, [], h => False.elim h
  | p :: ps, v :: vs, h => by change _ ∧ _ at h; simp [trees_len h.2]
theorem trees_get {w : World} {l : Led} : ∀ {ps : List Tree} {vs : List Value} {i : Nat} {v : Value}, TreesIn w l vs ps → vs[i]? = some v → ∃ t, ps[i]? = some t ∧ TreeIn w l v t
  | [], [], _, _, _, e => by simp at e
  | [], _ :: _, _, _, h, _ => False.elim h
  | _ :: _, [], _, _, h, _ => False.elim h
  | p :: ps, v :: vs, 0, u, h, e => by change _ ∧ _ at h; simp at e; subst e; exact Y1_2 p rfl h.1
  | p :: ps, v :: vs, i + 1, u, h, e => by change _ ∧ _ at h; simp at e; refine X1_2 (trees_get h.2 e) fun t a b => ?_; exact Y1_2 t (by simpa using a) b
theorem folds_len {w : World} {l : Led} : ∀ {ps : List Fold} {vs : List Value}, FoldsIn w l vs ps → vs.length = ps.length
  | [], [], _ => rfl
  | [], _ :: _, h => False.elim h
  | _ :: _, [], h => False.elim h
  | p :: ps, v :: vs, h => by change _ ∧ _ at h; simp [folds_len h.2]
theorem folds_get {w : World} {l : Led} : ∀ {ps : List Fold} {vs : List Value} {i : Nat} {v : Value}, FoldsIn w l vs ps → vs[i]? = some v → ∃ t, ps[i]? = some t ∧ FoldIn w l v t
  | [], [], _, _, _, e => by simp at e
  | [], _ :: _, _, _, h, _ => False.elim h
  | _ :: _, [], _, _, h, _ => False.elim h
  | p :: ps, v :: vs, 0, u, h, e => by change _ ∧ _ at h; simp at e; subst e; exact Y1_2 p rfl h.1
  | p :: ps, v :: vs, i + 1, u, h, e => by change _ ∧ _ at h; simp at e; refine X1_2 (folds_get h.2 e) fun t a b => ?_; exact Y1_2 t (by simpa using a) b
theorem tolds_len {l : Led} : ∀ {ps : List Tree} {vs : List Value}, ToldsIn l vs ps → vs.length = ps.length
  | [], [], _ => rfl
  | [], _ :: _, h => False.elim h
  | _ :: _, [], h => False.elim h
  | p :: ps, v :: vs, h => by change _ ∧ _ at h; simp [tolds_len h.2]
theorem tolds_snoc {l : Led} : ∀ {ps : List Tree} {vs : List Value} {v : Value} {t : Tree}, ToldsIn l vs ps → ToldIn l v t → ToldsIn l (vs ++ [v]) (ps ++ [t])
  | [], [], v, t, _, k => by show _ ∧ _; exact ⟨k, trivial⟩
  | [], _ :: _, _, _, h, _ => False.elim h
  | _ :: _, [], _, _, h, _ => False.elim h
  | p :: ps, u :: vs, v, t, h, k => by change _ ∧ _ at h ⊢; exact ⟨h.1, tolds_snoc h.2 k⟩
theorem trees_snoc {w : World} {l : Led} : ∀ {ps : List Tree} {vs : List Value} {v : Value} {t : Tree}, TreesIn w l vs ps → TreeIn w l v t → TreesIn w l (vs ++ [v]) (ps ++ [t])
  | [], [], v, t, _, k => by show _ ∧ _; exact ⟨k, trivial⟩
  | [], _ :: _, _, _, h, _ => False.elim h
  | _ :: _, [], _, _, h, _ => False.elim h
  | p :: ps, u :: vs, v, t, h, k => by change _ ∧ _ at h ⊢; exact ⟨h.1, trees_snoc h.2 k⟩
theorem folds_snoc {w : World} {l : Led} : ∀ {ps : List Fold} {vs : List Value} {v : Value} {t : Fold}, FoldsIn w l vs ps → FoldIn w l v t → FoldsIn w l (vs ++ [v]) (ps ++ [t])
  | [], [], v, t, _, k => by show _ ∧ _; exact ⟨k, trivial⟩
  | [], _ :: _, _, _, h, _ => False.elim h
  | _ :: _, [], _, _, h, _ => False.elim h
  | p :: ps, u :: vs, v, t, h, k => by change _ ∧ _ at h ⊢; exact ⟨h.1, folds_snoc h.2 k⟩
end
theorem trees_mem {ps : List Fold} {t : Fold} (h : t ∈ ps) : t.tree ∈ Fold.trees ps := by
  induction ps with
  | nil => cases h
  | cons p r ih =>
    unfold Fold.trees
    rcases List.mem_cons.mp h with rfl | h
    · exact .head _
    · exact .tail _ (ih h)
theorem trees_app {ps : List Fold} {t : Fold} : Fold.trees (ps ++ (some t).toList) = Fold.trees ps ++ [t.tree] := by
  induction ps with
  | nil => rfl
  | cons p r ih => rw [List.cons_append]; unfold Fold.trees; rw [ih]; rfl
theorem trees_length {ps : List Fold} : ps.length = (Fold.trees ps).length := by
  induction ps with
  | nil => rfl
  | cons p r ih => unfold Fold.trees; simp [ih]
end
section
noncomputable abbrev upd (m : Str → Option Value) (x : Str) (v : Value) : Str → Option Value := fun y => if y = x then some v else m y
noncomputable def frm : List (Str × Option Value) → Str → Option Value
  | [] => fun _ => none
  | (x, o) :: r => fun y => if y = x then o else frm r y
noncomputable def put : List (Str × Option Value) → Str → Value → List (Str × Option Value)
  | [], x, v => [(x, some v)]
  | (z, o) :: r, x, v => if z = x then (z, some v) :: r else (z, o) :: put r x v
theorem upd_frm (l : List (Str × Option Value)) (x : Str) (v : Value) : upd (frm l) x v = frm (put l x v) := by
  induction l with
  | nil => rfl
  | cons p r ih =>
    obtain ⟨z, o⟩ := p
    funext y
    unfold put
    by_cases hz : z = x
    · rw [if_pos hz]
      subst hz
      unfold upd frm
      by_cases hy : y = z
      · rw [if_pos hy, if_pos hy]
      · rw [if_neg hy, if_neg hy, if_neg hy]
    · rw [if_neg hz]
      unfold frm
      rw [← ih]
      by_cases hy : y = x
      · have : ¬ y = z := fun e => hz (e.symm.trans hy)
        simp only [upd, if_pos hy, if_neg this]
      · simp only [upd, frm, if_neg hy]
theorem TreeIn.open {P : Prop} {w : World} {news : Led} {v : Value} {n : Bs} {c : Int} {o : Option Bs} {ps : List Tree} (h : TreeIn w news v (.mk n c o ps))
    (k : ∀ a d tn vo pl t1 t2 t3 t4 t5 vs i, v = .ref a → (a, instObj 207 d) ∈ news → (d, dictOf (treeEs w t1 t2 t3 t4 t5 (.bytes n.toArray tn) vo c pl) 4) ∈ news → OV vo o → (pl, lstN vs i) ∈ news → TreesIn w news vs ps → vs.length ≤ 1000 → P) : P := by
  change Exists _ at h
  refine X12_4 h ?_; clear h; rintro a d tn vo pl t1 t2 t3 t4 t5 vs i e h1 h2 zz; obtain ⟨h3, h4, h5, h6⟩ := zz
  exact k a d tn vo pl t1 t2 t3 t4 t5 vs i e h1 h2 h3 h4 h5 h6
theorem FoldIn.open {P : Prop} {w : World} {news : Led} {v : Value} {n : Bs} {c : Int} {o : Option Bs} {ps : List Fold} {fs : List Bs} {m : Int} (h : FoldIn w news v (.mk n c o ps fs m))
    (k : ∀ a ob tn vo pl fl t t' vs ws i j, v = .ref a → (a, ob) ∈ news → (a == sysModules) = false →
      ob.IsDictOf (KNd w) [(Str.ofString "name", .bytes n.toArray tn), (Str.ofString "count", .int c t), (Str.ofString "oid", vo), (Str.ofString "parts", .ref pl), (Str.ofString "files", .ref fl), (Str.ofString "many", .int m t')] →
      OV vo o → (pl, lstN vs i) ∈ news → (fl, lstN ws j) ∈ news → FoldsIn w news vs ps → BVs ws fs → vs.length ≤ 1000 → ws.length ≤ 1000 → P) : P := by
  change Exists _ at h
  refine X12_4 h ?_; clear h; rintro a ob tn vo pl fl t t' vs ws i j e h1 h2 zz; obtain ⟨h3, h4, h5, h6, h7, h8, h9, h10⟩ := zz
  exact k a ob tn vo pl fl t t' vs ws i j e h1 h2 h3 h4 h5 h6 h7 h8 h9 h10
theorem ToldIn.open {P : Prop} {news : Led} {v : Value} {n : Bs} {c : Int} {o : Option Bs} {ps : List Tree} (h : ToldIn news v (.mk n c o ps))
    (k : ∀ a tn vo pl t vs i, v = .ref a → (a, tup [.bytes n.toArray tn, .int c t, vo, .ref pl]) ∈ news → OV vo o → (pl, lstN vs i) ∈ news → ToldsIn news vs ps → vs.length ≤ 1000 → P) : P := by
  change Exists _ at h
  refine X7_6 h ?_; clear h; rintro a tn vo pl t vs i e h1 h2 h3 h4 h5
  exact k a tn vo pl t vs i e h1 h2 h3 h4 h5
end
section
noncomputable abbrev PR : Program := PySem.Challenge.rw_pb0113_01.row.prog
noncomputable abbrev KK (w : World) : Frag := Mine.sh.hd.heap_1 w.params
noncomputable abbrev Fm := List (Str × Option Value)
noncomputable def Rds (w : World) (env : Env) (h : Heap) (x : Str) (v : Value) : Prop :=
  ∀ (A : Around) (E : Value → Shared → Prop) (Q : Value → Shared → Prop) (s : Shared), s.heap = h → Q v s → wpAny (model PR w) A (loadName env x) Q E s
noncomputable def Off (hid n : Led) : Prop := ∀ p ∈ hid, ∀ q ∈ n, @Ne Nat p.1 q.1
set_option genInjectivity false
set_option genSizeOf false
structure Cx (w : World) where
  A₀ : Around
  base : Heap
  g : Heap
  outer : List Env
  fenv : Env
  env : Env
  L : Addr
  p : Program
  loose : List Str
  mean : ExcName → Option Value
  mg : Str → Option Value
  mb : Str → Option Value
  dp : Nat
  un : Nat
  gd : Option (List Code)
  E : Value → Shared → Prop
  s : Shared
  V : Fm → (Str → Option Value) → Led → Prop
  dfn : Bool
  B : Below A₀ base outer g
  X : (KK w).In g
  T : Top p loose mean mg mb g
  hf : fenv.frame = some L
  hk : fenv.scope.kind = .function
  ek : env.scope.kind = .function
  eg : env.globals = mainGlobals
  eb : env.builtins = builtinsNs
  rd : ∀ {l m hid n h x v}, V l m hid → Fr g L h m → News g L h (hid ++ n) → frm l x = some v → Rds w env h x v
  ce : dfn = true → ∀ {l m hid x}, V l m hid → (env.kindOf x = some .cell ∨ env.kindOf x = some .free) → ∃ a o, env.cells.lookup x = some a ∧ (a, o) ∈ hid ∧ o.data = .cell (frm l x)
  st : dfn = true → ∀ {l m hid n h x v}, V l m hid → Fr g L h m → News g L h (hid ++ n) → Off hid n → x ∈ l.map (·.1) →
    ∀ (A : Around) (E : Value → Shared → Prop) (Q : Unit → Shared → Prop) (s : Shared), s.heap = h →
    (∀ h' tk' m' hid', V (put l x v) m' hid' → Fr g L h' m' → News g L h' (hid' ++ n) → Off hid' n → Q () { s with heap := h', toks := tk' }) → wpAny (model PR w) A (storeName env x v) Q E s
  sl : dfn = true → ∀ {l m hid x v}, V l m hid → x ∈ l.map (·.1) → env.kindOf x = some .local → V (put l x v) (fun y => if y = x then some v else m y) hid
  lo : dfn = true → env.locals = L
  mu : ∀ {l m hid m' hid'}, V l m hid → V l m' hid' → m = m'
  po : dfn = true → PassesOwn (model PR w) (AA dp un gd fenv outer) env E
noncomputable abbrev Cx.A {w : World} (c : Cx w) : Around := AA c.dp c.un c.gd c.fenv c.outer
inductive HpB (V : Fm → (Str → Option Value) → Led → Prop) (g : Heap) (L : Addr) (n : Led) (l : Fm) (h : Heap) : Prop
  | mk (m : Str → Option Value) (hid : Led) (hV : V l m hid) (F : Fr g L h m) (N : News g L h (hid ++ n)) (O : Off hid n) : HpB V g L n l h
noncomputable def Hp {w : World} (c : Cx w) (n : Led) (l : Fm) (h : Heap) : Prop := HpB c.V c.g c.L n l h
noncomputable def At {w : World} (c : Cx w) {α : Type} (n : Led) (l : Fm) (t : Sem α) (Q : α → Shared → Prop) : Prop :=
  ∀ h tk, Hp c n l h → wpAny (model PR w) c.A t Q c.E { c.s with heap := h, toks := tk }
noncomputable def Go {w : World} (c : Cx w) {α : Type} (n : Led) (l : Fm) (Q : α → Shared → Prop) (v : α) : Prop :=
  ∀ h tk, Hp c n l h → Q v { c.s with heap := h, toks := tk }
noncomputable def EvP {w : World} (c : Cx w) (n : Led) (l : Fm) (e : PySem.Expr) (v : Value) : Prop := ∀ Q, Go c n l Q v → At c n l (eval e c.env) Q
noncomputable def EvR {w : World} (c : Cx w) (n : Led) (l : Fm) (e : PySem.Expr) (P : Value → Prop) : Prop := ∀ Q, (∀ v, P v → Go c n l Q v) → At c n l (eval e c.env) Q
noncomputable def EvG {w : World} (c : Cx w) (n : Led) (l : Fm) (e : PySem.Expr) (R : Value → Led → Prop) : Prop := ∀ Q, (∀ v n', R v n' → Go c n' l Q v) → At c n l (eval e c.env) Q
noncomputable def Tst {w : World} (c : Cx w) (n : Led) (l : Fm) (e : PySem.Expr) (p : Prop) : Prop := ∀ Q, (p → Go c n l Q true) → (¬ p → Go c n l Q false) → At c n l (isTrue e c.env (eval e c.env)) Q
noncomputable def IV (k : Int) (v : Value) : Prop := ∃ t, v = .int k t
noncomputable def BW (b : Bs) (v : Value) : Prop := ∃ t, v = .bytes b.toArray t
section
variable {w : World} {c : Cx w} {n : Led} {l : Fm}
theorem Hp.sub {n' : Led} {h : Heap} (H : Hp c n l h) (hs : ∀ q ∈ n', q ∈ n) : Hp c n' l h := by
  obtain ⟨m, hid, a, b, d, e⟩ := H
  exact ⟨m, hid, a, b, News.sub d fun q hq => (List.mem_append.mp hq).elim (fun h => List.mem_append_left _ h) fun h => List.mem_append_right _ (hs q h), fun p hp q hq => e p hp q (hs q hq)⟩
theorem Hp.get {h : Heap} {a : Addr} {o : Obj} (H : Hp c n l h) (hm : (a, o) ∈ n) : h.get? a = some o := by
  obtain ⟨m, hid, a, b, d, e⟩ := H
  exact d.get (List.mem_append_right _ hm)
noncomputable def Fn (n : Led) : Prop := ∀ a o o', (a, o) ∈ n → (a, o') ∈ n → o = o'
theorem Hp.fn {h : Heap} (H : Hp c n l h) : Fn n := fun a o o' h1 h2 => Option.some.inj ((H.get h1).symm.trans (H.get h2))
theorem At.fn {α : Type} {t : Sem α} {Q : α → Shared → Prop} (k : Fn n → At c n l t Q) : At c n l t Q := fun h tk H => k H.fn h tk H
theorem Go.sub {n' : Led} {α : Type} {v : α} {Q : α → Shared → Prop} (k : Go c n' l Q v) (hs : ∀ q ∈ n', q ∈ n) : Go c n l Q v := fun h tk H => k h tk (H.sub hs)
theorem At.stand {α : Type} {f : Unit → Sem α} {pos : Pos} {Q : α → Shared → Prop} (k : At c n l (f ()) Q) : At c n l (standAt pos >>= f) Q := fun h tk H => wpAny_bind (wpAny_standAt (k h tk H))
theorem At.mono {α : Type} {t : Sem α} {Q Q' : α → Shared → Prop} (k : At c n l t Q) (hq : ∀ v s', Q v s' → Q' v s') : At c n l t Q' := fun h tk H => wpAny_mono (k h tk H) hq fun _ _ x => x
theorem EvP.r {e : PySem.Expr} {v : Value} {P : Value → Prop} (h : EvP c n l e v) (p : P v) : EvR c n l e P := fun _ k => h _ (k v p)
theorem EvR.g {e : PySem.Expr} {P : Value → Prop} {R : Value → Led → Prop} (h : EvR c n l e P) (p : ∀ v, P v → R v n) : EvG c n l e R := fun _ k => h _ fun v q => k v n (p v q)
theorem EvP.g {e : PySem.Expr} {v : Value} {R : Value → Led → Prop} (h : EvP c n l e v) (p : R v n) : EvG c n l e R := fun _ k => h _ (k v n p)
theorem EvP.name {x : Str} {pos : Pos} {v : Value} (h : frm l x = some v) (hd : (x == ("__debug__" : Str)) = false := by decide) : EvP c n l (.Name x pos) v := fun Q k h' tk H => by
  obtain ⟨m, hid, hV, F, N, O⟩ := H
  exact wpAny_Name (c.rd hV F N h _ _ _ _ rfl (k h' tk ⟨m, hid, hV, F, N, O⟩)) hd
structure Wk {w : World} (c : Cx w) (sc : Scope) (d u : Nat) (b : Bool) : Prop where
  sc : c.env.scope = sc
  dp : c.dp = d
  un : c.un = u
  dfn : c.dfn = b
theorem EvP.glob {sc : Scope} {d u : Nat} {b : Bool} {x : Str} {pos : Pos} {v : Value} (hs : Wk c sc d u b) (h : nsIn (KK w) mainGlobals x = some (some v)) (hx : sc.names.lookup x = some .globalImplicit := by rfl) (hd : (x == ("__debug__" : Str)) = false := by decide) : EvP c n l (.Name x pos) v := fun Q k h' tk H => by
  have H' := H
  obtain ⟨m, hid, hV, F, N, O⟩ := H
  exact Name_function_global c.ek (by unfold Env.kindOf; rw [hs.sc]; exact hx) (loadGlobal_global (by rw [c.eg]; exact c.T.g.keeps F.keep) (mg_of c.X c.T.g h) (k h' tk H')) hd
theorem EvP.blt {sc : Scope} {d u : Nat} {b : Bool} {x : Str} {pos : Pos} {v : Value} (hs : Wk c sc d u b) (h : nsIn (KK w) mainGlobals x = some none) (hv : bootBuiltins x = some v) (hx : sc.names.lookup x = some .globalImplicit := by rfl) (hn : x ≠ "__name__" := by decide) (hd : (x == ("__debug__" : Str)) = false := by decide) : EvP c n l (.Name x pos) v := fun Q k h' tk H => by
  have H' := H
  obtain ⟨m, hid, hV, F, N, O⟩ := H
  exact Name_function_global c.ek (by unfold Env.kindOf; rw [hs.sc]; exact hx) (loadGlobal_builtin (by rw [c.eg]; exact c.T.g.keeps F.keep) (mg_none_of c.X c.T.g h) (by rw [c.eb]; exact c.T.b.keeps F.keep) ((c.T.builtins x hn).trans hv) (k h' tk H')) hd
end
end
section
structure New (n n' : Led) (a : Addr) (o : Obj) : Prop where
  mem : (a, o) ∈ n'
  sub : ∀ q ∈ n, q ∈ n'
  ne : ∀ q ∈ n, @Ne Nat q.1 a
structure Mut (n n' : Led) (a : Addr) (o : Obj) : Prop where
  mem : (a, o) ∈ n'
  sub : ∀ q ∈ n, @Ne Nat q.1 a → q ∈ n'
structure Ext (n n' tl : Led) : Prop where
  sub : ∀ q ∈ n, q ∈ n'
  new : ∀ q ∈ tl, q ∈ n'
  apart : Apart n tl
section
variable {w : World} {c : Cx w} {n : Led} {l : Fm}
theorem Hp.new {m : Str → Option Value} {hid : Led} {h' : Heap} {a : Addr} {o : Obj} (hV : c.V l m hid) (O : Off hid n) (F : Fr c.g c.L h' m) (N : News c.g c.L h' ((a, o) :: (hid ++ n))) (lt : ∀ p ∈ hid ++ n, @LT.lt Nat _ p.1 a) : Hp c ((a, o) :: n) l h' :=
  ⟨m, hid, hV, F, News.sub N fun q hq => by
    rcases List.mem_append.mp hq with hq | hq
    · exact .tail _ (List.mem_append_left _ hq)
    · rcases List.mem_cons.mp hq with rfl | hq
      · exact .head _
      · exact .tail _ (List.mem_append_right _ hq), fun p hp q hq => by
    rcases List.mem_cons.mp hq with rfl | hq
    · exact Nat.ne_of_lt (lt p (List.mem_append_left _ hp))
    · exact O p hp q hq⟩
theorem New.of {a : Addr} {o : Obj} (lt : ∀ p ∈ n, @LT.lt Nat _ p.1 a) : New n ((a, o) :: n) a o := ⟨.head _, fun _ h => .tail _ h, fun q hq => Nat.ne_of_lt (lt q hq)⟩
noncomputable def setL (n : Led) (a : Addr) (o : Obj) : Led := (a, o) :: n.filter fun p => decide (@Ne Nat p.1 a)
theorem Mut.of {a : Addr} {o : Obj} : Mut n (setL n a o) a o := ⟨.head _, fun q hq hn => .tail _ (List.mem_filter.mpr ⟨hq, by simpa using hn⟩)⟩
theorem Hp.front {h : Heap} {hid : Led} {a : Addr} {o : Obj} (N : News c.g c.L h (hid ++ n)) (hm : (a, o) ∈ n) :
    News c.g c.L h ((a, o) :: (hid ++ n).filter fun p => decide (@Ne Nat p.1 a)) := fun q hq => by
  rcases List.mem_cons.mp hq with rfl | hq
  · exact N _ (List.mem_append_right _ hm)
  · exact N _ (List.mem_filter.mp hq).1
theorem front_ne {k : Led} {a : Addr} : ∀ p ∈ k.filter fun p => decide (@Ne Nat p.1 a), @Ne Nat p.1 a := fun p hp => by simpa using (List.mem_filter.mp hp).2
theorem Hp.mut {m : Str → Option Value} {hid : Led} {h' : Heap} {a : Addr} {o o' : Obj} (hV : c.V l m hid) (O : Off hid n) (F : Fr c.g c.L h' m) (hm : (a, o) ∈ n) (N : News c.g c.L h' ((a, o') :: (hid ++ n).filter fun p => decide (@Ne Nat p.1 a))) : Hp c (setL n a o') l h' :=
  ⟨m, hid, hV, F, News.sub N fun q hq => by
    rcases List.mem_append.mp hq with hq | hq
    · exact .tail _ (List.mem_filter.mpr ⟨List.mem_append_left _ hq, by simpa using O q hq _ hm⟩)
    · rcases List.mem_cons.mp hq with rfl | hq
      · exact .head _
      · exact .tail _ (List.mem_filter.mpr ⟨List.mem_append_right _ (List.mem_filter.mp hq).1, (List.mem_filter.mp hq).2⟩), fun p hp q hq => by
    rcases List.mem_cons.mp hq with rfl | hq
    · show @Ne Nat p.1 a
      exact O p hp (a, o) hm
    · exact O p hp q (List.mem_filter.mp hq).1⟩
theorem EvR.int {k : Int} {j : Nat} {pos : Pos} : EvR c n l (.Constant (.int k) j pos) (IV k) := fun _ q h tk H => wpAny_Constant_int (q _ ⟨_, rfl⟩ h _ H)
theorem EvR.bytes {b : List UInt8} {j : Nat} {pos : Pos} : EvR c n l (.Constant (.bytes b) j pos) (BW b) := fun _ q h tk H => Constant_bytes (q _ ⟨_, rfl⟩ h _ H)
theorem EvP.none {j : Nat} {pos : Pos} : EvP c n l (.Constant .none j pos) .none := fun _ q h tk H => wpAny_Constant_none (q h _ H)
theorem EvP.bool {b : Bool} {j : Nat} {pos : Pos} : EvP c n l (.Constant (.bool b) j pos) (.bool b) := fun _ q h tk H => Constant_bool (q h _ H)
noncomputable def Pl (w : World) (C : Addr) (x : Str) : Prop := ∃ a, plainGet (KK w) C x = true ∧ hasDictIn (KK w) C = true ∧ findIn (KK w) (.ref C) x = some a ∧ noGet (KK w) a = true
theorem pl_name : Pl w 207 (Str.ofString "name") := Y1_4 _ (by rfl) (by rfl) (by rfl) (by rfl)
theorem pl_count : Pl w 207 (Str.ofString "count") := Y1_4 _ (by rfl) (by rfl) (by rfl) (by rfl)
theorem pl_oid : Pl w 207 (Str.ofString "oid") := Y1_4 _ (by rfl) (by rfl) (by rfl) (by rfl)
theorem pl_parts : Pl w 207 (Str.ofString "parts") := Y1_4 _ (by rfl) (by rfl) (by rfl) (by rfl)
theorem pl_path : Pl w 162 (Str.ofString "path") := Y1_4 _ (by rfl) (by rfl) (by rfl) (by rfl)
theorem pl_stage : Pl w 162 (Str.ofString "stage") := Y1_4 _ (by rfl) (by rfl) (by rfl) (by rfl)
theorem EvP.attr {e : PySem.Expr} {x : Str} {pos : Pos} {a d C : Addr} {es : List DictEntry} {k : Nat} {v : Value} (he : EvP c n l e (.ref a)) (h1 : (a, instObj C d) ∈ n) (h2 : (d, dictOf es k) ∈ n) (hp : Pl w C x) (hl : getL x es = some (some v)) (hv : handedIn v = true)
    (hx : ∀ env : Env, eval (.Attribute e x pos) env = (do
      let o ← eval e env
      standAt pos.atName
      let r ← holding [o] (getAttr o x true)
      letTemporaryGo e o r
      pure r) := by intro _; with_unfolding_all rfl) : EvP c n l (.Attribute e x pos) v := fun Q k h tk H => by
  refine X1_4 hp ?_; clear hp; rintro at' hK hd ha hn
  refine Attribute_any_ (he _ (fun h tk H => ?_) h tk H) (hx _)
  have H' := H
  obtain ⟨m, hid, hV, F, N, O⟩ := H
  exact get_own F c.X (InstAt.of_news N (List.mem_append_right _ h1) (List.mem_append_right _ h2)) hK hd ha hn hl hv (k h _ H')
theorem Hp.list {vs : List Value} {Q : Value → Shared → Prop} (hz : vs.length ≤ 1000) (k : ∀ a n', New n n' a (lstN vs 0) → Go c n' l Q (.ref a)) : At c n l (newList vs) Q := fun h tk H => by
  obtain ⟨m, hid, hV, F, N, O⟩ := H
  exact newList_K F N (fun a h' F' N' lt => k a _ (New.of fun p hp => lt p (List.mem_append_right _ hp)) h' tk (Hp.new hV O F' N' lt)) (by rw [sizeLine_eq]; lia)
end
end
section
structure NewOwn (h h' : Heap) (e : Addr) : Prop where
  keeps : ∀ b o, h.get? b = some o → h'.get? b = some o
  new : h.get? e = none
  there : ∃ oe vs t, h'.get? e = some oe ∧ oe.cls = .ref 64 ∧ oe.data = .fields vs ∧ vs[0]? = some t ∧ vs[1]? = some .none
noncomputable abbrev excO (t : Addr) : Obj := { cls := .ref 64, data := .fields #[.ref t, .none, .none, .none, .bool false, .none] }
noncomputable abbrev excD (t d : Addr) : Obj := { cls := .ref 64, dict := some d, data := .fields #[.ref t, .none, .none, .none, .bool false, .none] }
section
variable {w : World} {A : Around} {E : Value → Shared → Prop} {h : Heap} {g : Array GenState} {d : Drawn} {t : Nat} {os : OsState} {R : Result → Shared → Prop}
noncomputable abbrev MM (w : World) : Model := model PySem.Challenge.rw_pb0113_01.row.prog w
theorem ex_shape {h : Heap} (X : (Mine.sh.hd.heap_1 w.params).In h) : ∃ nm q N bs hdct sn sub ab col dd k0 k1 k2 k3 k5,
    h.get? 64 = some (excClassObj nm q 64 N bs [.ref 39, .type "Exception", .type "BaseException", .type "object"] hdct sn sub ab col dd k0 k1 k2 k3 k5 "Exception.__new__") :=
  (Y15_1 _ _ _ _ _ _ _ _ _ _ _ _ _ _ _ (X 64 _ (by rfl)))
section
variable {nm q : Str} {N : Addr} {bs : List Value} {hdct : Bool} {sn : List Str} {sub : List Value} {ab : Bool} {col : Option Bool} {dd : Option Addr} {k0 k1 k2 k3 k5 : Option Value} {C : Addr} {bm : List Value}
theorem ex_check_new {M : Model} {rest : List Value} {Q : Unit → Shared → Prop} (cB : bm.contains (.type "Exception") = true) (hC : h.get? C = some (excClassObj nm q C N bs bm hdct sn sub ab col dd k0 k1 k2 k3 k5 "Exception.__new__"))
    (hq : Q () ⟨h, g, d, t, os⟩) : wpAny M A (checkBuiltinCall "Exception.__new__" ⟨.ref C :: rest, []⟩) Q E ⟨h, g, d, t, os⟩ := by
  have F := PySem.F.excBase_Exception
  have c1 : (Value.ref C :: bm).contains (.type "Exception") = true := by rw [List.contains_cons, cB, Bool.or_true]
  have st := F.noStar
  simp only [checkBuiltinCall, F.newKind, F.newSplit, F.newRow]
  repeat (first | refine wpAny_loadPart_at hC ?_ | (refine wpAny_isSubtype_exc hC ?_; rw [c1]) | refine wpAny_staticBase_exc hC ?_ | refine wpAny_madeBy_exc hC ?_ | simp only [bne_self_eq_false, Bool.false_eq_true, if_false] | wp_step)
  exact hq
theorem ex_new {rest : List Value} (cB : bm.contains (.type "Exception") = true) (cA : bm.contains (.type "AttributeError") = false) (cN : bm.contains (.type "NameError") = false)
    (hC : h.get? C = some (excClassObj nm q C N bs bm hdct sn sub ab col dd k0 k1 k2 k3 k5 "Exception.__new__"))
    (hq : R (.ok (.ret (.ref (h.objs.size + 1)))) ⟨(h.push { cls := .type "tuple", data := .seq rest.toArray }).push { cls := .ref C, data := .fields #[.ref h.objs.size, .none, .none, .none, .bool false, .none] }, g, d, t, os⟩)
    (hrest : rest.length ≤ sizeLine := by size_fits) : codeAny (MM w) A (.builtin "Exception.__new__" ⟨.ref C :: rest, []⟩) R ⟨h, g, d, t, os⟩ := by
  have F := PySem.F.excBase_Exception
  have ends := F.ends
  have c1 : (Value.ref C :: bm).contains (.type "Exception") = true := by rw [List.contains_cons, cB, Bool.or_true]
  have c2 : (Value.ref C :: bm).contains (.type "AttributeError") = false := by rw [List.contains_cons, cA]; rfl
  have c3 : (Value.ref C :: bm).contains (.type "NameError") = false := by rw [List.contains_cons, cN]; rfl
  refine codeAny_builtinAt F.entry ?_
  unfold Builtin.«BaseException.__new__»
  refine PySem.wpAt_bind ?_
  show PySem.wpAt _ _ _ (stack >>= _) _ _ _
  refine PySem.wpAt_bind (PySem.wpAt_stack fun p below => PySem.wpAt_of_wpAny ?_)
  wp_walk
  refine PySem.wpAt_of_wpAny ?_
  rw [F.owner]
  repeat (first | with_reducible refine wpAny_madeHere_exc F.canon hC ?_ | with_reducible refine wpAny_loadPart_at hC ?_ | (with_reducible refine wpAny_isSubtype_exc hC ?_; first | rw [c1] | rw [c2] | rw [c3]) | wp_step)
  show R _ _
  rw [Heap.size_push]
  exact hq
end
theorem ex_call {rest : List Value} {Q : Value → Shared → Prop} (X : (Mine.sh.hd.heap_1 w.params).In h) (hrest : rest.length ≤ sizeLine)
    (hq : codeAny (MM w) (A.under (.builtin "type.__call__" ⟨.ref 64 :: rest, []⟩)) (.call (.ref 36) ⟨.ref (h.objs.size + 1) :: rest, []⟩) (InitBack (h.objs.size + 1) fun r s' => match r with | .ok (.ret v) => Q v s' | .ok _ => False | .error e => E e s')
      ⟨(h.push (tup rest)).push (excO h.objs.size), g, d, t, os⟩) : wpAny (MM w) A (call (.ref 64) rest) Q E ⟨h, g, d, t, os⟩ := by
  refine X15_1 (ex_shape X) fun nm q N bs hdct sn sub ab col dd k0 k1 k2 k3 k5 hC => ?_
  have f1 := tc_lookup
  have f2 := tc_bind (.ref 64)
  have hT : (⟨h, g, d, t, os⟩ : Shared).TypeIs (.ref 64) "type" := Y1_2 _ hC rfl
  refine wpAny_call (codeAny_of_tree ?_)
  show wpAny _ _ (callAny (.ref 64) _) _ _ _
  repeat (any_goals (first | assumption | with_reducible refine wpAny_loadPart_at hC ?_ | wp_step))
  refine ⟨rfl, ?_⟩
  refine codeAny_call_builtin_at (Code.quiet_builtin _ (by decide +kernel)) entry_typeCall (wpAny_check_type_call_sub hC ?_)
  unfold Builtin.«type.__call__»
  repeat (first | with_reducible refine wpAny_loadPart_at hC ?_ | with_reducible refine wpAny_madeBy_exc hC ?_ | wp_step)
  refine codeAny_call_builtin_code (Code.quiet_builtin _ PySem.F.excBase_Exception.quiet) (ex_check_new (by decide) hC ?_)
  refine ex_new (by decide) (by decide) (by decide) hC ?_ hrest
  show wpAny _ _ _ _ _ ⟨(h.push (tup rest)).push (excO h.objs.size), g, d, t, os⟩
  have kp : ∀ b o, h.get? b = some o → ((h.push (tup rest)).push (excO h.objs.size)).get? b = some o := fun b o e => Heap.get?_push_of_some _ (Heap.get?_push_of_some _ e)
  have hC₁ := kp _ _ hC
  have he : ((h.push (tup rest)).push (excO h.objs.size)).get? (h.objs.size + 1) = some (excO h.objs.size) := by heap_get
  have X₁ := X.keeps kp
  have li : Looks (MM w) ((h.push (tup rest)).push (excO h.objs.size)) (typeLookup (.ref 64) "__init__") (some (.ref 36)) := looks_findIn X₁ (by kernel_rfl)
  have lb := bind_fn (M := MM w) X₁ (f := 36) (.ref (h.objs.size + 1)) (by kernel_rfl)
  have ls : Looks (MM w) ((h.push (tup rest)).push (excO h.objs.size)) (isSubtype (.ref 64) (.ref 64)) true := looks_mroIn X₁ (by kernel_rfl)
  have lt : Looks (MM w) ((h.push (tup rest)).push (excO h.objs.size)) (typeOf (.ref (h.objs.size + 1))) (.ref 64) := (Looks.ld he).andThen .now
  unfold isInstance callSpecial? specialOf
  repeat (first | simp only [bne_self_eq_false, Bool.false_eq_true, if_false] | with_reducible refine wpAny_call ?_ | lk)
  refine codeAny_mono hq fun r s' z => ?_
  rcases r with e | (v | _ | _ | _) <;> first | exact z | exact z.elim | skip
  obtain ⟨rfl, z⟩ := z
  exact wpAny_pure (wpAny_pure z)
end
theorem ex_callK {w : World} {A : Around} {E : Value → Shared → Prop} {s : Shared} {h₀ : Heap} {L : Addr} {m : Str → Option Value} {news : Led} {Q : Value → Shared → Prop} {v : Value}
    (F : Fr h₀ L s.heap m) (N : News h₀ L s.heap news) (X : (Mine.sh.hd.heap_1 w.params).In s.heap)
    (h : ∀ x t h', Fr h₀ L h' m → News h₀ L h' ((x, excO t) :: (t, tup [v]) :: news) → (∀ p ∈ news, p.1 < t) → t < x →
      codeAny (MM w) (A.under (.builtin "type.__call__" ⟨[.ref 64, v], []⟩)) (.call (.ref 36) ⟨[.ref x, v], []⟩) (InitBack x fun r s' => match r with | .ok (.ret v) => Q v s' | .ok _ => False | .error e => E e s') { s with heap := h' }) :
    wpAny (MM w) A (call (.ref 64) [v]) Q E s := by
  obtain ⟨hh, g, d, t, os⟩ := s
  refine ex_call X (by simp [sizeLine_eq]) (h _ hh.objs.size _ ((F.push _).push _) ?_ (fun p hp => Heap.lt_size (N p hp).1) (Nat.lt_succ_self _))
  have := (N.push F (tup [v])).push (F.push _) (excO hh.objs.size)
  rwa [Heap.size_push] at this
end
section
theorem ex_set {w : World} {A : Around} {E : Value → Shared → Prop} {s : Shared} {g : Heap} {L x t : Addr} {m : Str → Option Value} {news : Led} {Q : Unit → Shared → Prop} {v : Value}
    (F : Fr g L s.heap m) (N : News g L s.heap ((x, excO t) :: news)) (X : (Mine.sh.hd.heap_1 w.params).In g) (hne : ∀ p ∈ news, @Ne Nat p.1 x)
    (h : ∀ h' d od tk', Fr g L h' m → News g L h' ((x, excD t d) :: (d, od) :: news) → Q () { s with heap := h', toks := tk' }) :
    wpAny (MM w) A (setAttr (.ref x) (Str.ofString "told") v) Q E s := by
  obtain ⟨hh, gn, dr, tk, os⟩ := s
  have SF := PySem.F.store_Exception
  have hx := (N (x, excO t) (.head _)).1
  have X₁ := X.keeps F.keep
  have lt : Looks (MM w) hh (typeOf (.ref x)) (.ref 64) := (Looks.ld hx).andThen .now
  have l1 : Looks (MM w) hh (typeLookup (.ref 64) "__setattr__") (some (.builtin "object.__setattr__")) := looks_findIn X₁ (by kernel_rfl)
  have lm : Looks (MM w) hh (mroOf (.ref 64)) [.ref 64, .ref 39, .type "Exception", .type "BaseException", .type "object"] := (looks_clsIn X₁ (cd := ((clsIn (Mine.sh.hd.heap_1 w.params) 64).getD default)) (by kernel_rfl)).andThen (Looks.of_pure (by kernel_rfl))
  have ls : Looks (MM w) hh (isInstance (.ref x) (.type "object")) true := lt.andThen (looks_mroIn X₁ (by kernel_rfl))
  have ltold : Looks (MM w) hh (typeLookup (.ref 64) (Str.ofString "told")) none := looks_findIn X₁ (by kernel_rfl)
  have hcls : clsIn (Mine.sh.hd.heap_1 w.params) 64 = some ((clsIn (Mine.sh.hd.heap_1 w.params) 64).getD default) := by kernel_rfl
  unfold setAttr callSpecial? specialOf
  refine wpAny_bind (wpAny_mkText (wpAny_bind (wpAny_bind (wpAny_bind (lt.at (l1.at (wpAny_holding (wpAny_bind ?_))))))))
  rw [SF.slot.bind]
  refine wpAny_pure (wpAny_bind (wpAny_call ?_))
  refine codeAny_call_builtin SF.slot.plain SF.entry (@check_slot (MM w) _ _ ⟨hh, gn, dr, tk + 1, os⟩ "object.__setattr__" "object" "__setattr__" (.ref x) [.str (Str.ofString "told") tk, v] [] _ SF.kind SF.split ls (SF.args (.ref x) (.str (Str.ofString "told") tk) v) ?_)
  show wpAny _ _ (Builtin.«object.__setattr__» ⟨[.ref x, .str (Str.ofString "told") tk, v], []⟩) _ _ _
  rw [osa_eq, refuse_eq]
  refine wpAny_bind (wpAny_bind (lt.at (wpAny_bind (lm.at ?_))))
  rw [refuseLoop_ref, refuseLoop_ref, SF.passes]
  refine wpAny_pure (wpAny_bind (lt.at (wpAny_bind (ltold.at (wpAny_bind (wpAny_pure ?_))))))
  dsimp only
  have D₀ := N
  have F₁ := F.push emptyDict
  have N₁ := N.push F emptyDict
  have Nu : News g L (hh.push emptyDict) ([(hh.objs.size, emptyDict)] ++ (x, excO t) :: news) := N₁
  obtain ⟨F₂, N₂⟩ := news_upd (f := fun o => { o with dict := some hh.objs.size }) (o' := excD t hh.objs.size) F₁ Nu (fun p hp => by
    rcases List.mem_singleton.mp hp with rfl
    exact Nat.ne_of_gt (Heap.lt_size hx)) hne rfl rfl
  have ne2 : ∀ p ∈ (x, excD t hh.objs.size) :: news, @Ne Nat p.1 hh.objs.size := fun p hp => by
    rcases List.mem_cons.mp hp with rfl | hp
    · exact Nat.ne_of_lt (Heap.lt_size hx)
    · exact Nat.ne_of_lt (Heap.lt_size (N p (.tail _ hp)).1)
  have N₂' : News g L ((hh.push emptyDict).update x fun o => { o with dict := some hh.objs.size }) ([] ++ (hh.objs.size, emptyDict) :: (x, excD t hh.objs.size) :: news) := N₂
  clear l1 lm ls ltold
  have lc : Looks (MM w) hh (classData 64) ((clsIn (Mine.sh.hd.heap_1 w.params) 64).getD default) := looks_clsIn X₁ hcls
  have hdict : ((clsIn (Mine.sh.hd.heap_1 w.params) 64).getD default).hasDict = true := by kernel_rfl
  generalize (clsIn (Mine.sh.hd.heap_1 w.params) 64).getD default = cd at hcls lc hdict
  dsimp only at hx
  unfold Builtin.ObjectAttr.storeInOwnDict
  repeat lk
  rw [hdict]
  repeat lk
  refine wpAny_updatePart ((N₁ (x, excO t) (.tail _ (.head _))).1) ?_
  have D := (N₂' (hh.objs.size, emptyDict) (.head _)).1
  obtain ⟨F₃, N₃⟩ := news_upd (f := Obj.putName (Str.ofString "told") (PyData.keyHash w.params (Str.ofString "told")) (.str (Str.ofString "told") (tk + 1)) v) (o' := dictOf [⟨PyData.keyHash w.params (Str.ofString "told"), .str (Str.ofString "told") (tk + 1), v⟩] 1) F₂ N₂' (fun _ h => nomatch h) ne2 rfl rfl
  have D' := (N₃ (hh.objs.size, _) (.head _)).1
  dsimp only at D D'
  repeat lk
  refine wpAny_updatePart D (wpAny_bind (wpAny_lookBehind D' (pastItsLine_dict (by simp [sizeLine_eq])) ?_))
  refine wpAny_pure ?_
  refine wpAny_pure ?_
  refine wpAny_pure ?_
  refine h _ hh.objs.size (dictOf [⟨PyData.keyHash w.params (Str.ofString "told"), .str (Str.ofString "told") (tk + 1), v⟩] 1) _ F₃ (News.sub N₃ fun q hq => ?_)
  rcases List.mem_cons.mp hq with rfl | hq
  · exact .tail _ (.head _)
  · rcases List.mem_cons.mp hq with rfl | hq
    · exact .head _
    · exact .tail _ (.tail _ hq)
end
section
noncomputable def Thrown (w : World) (E : Value → Shared → Prop) (v : Value) (s₁ : Shared) : Prop := ∃ x t d, v = .ref x ∧ s₁.heap.get? x = some (excD t d) ∧ (Mine.sh.hd.heap_1 w.params).In s₁.heap ∧ E (.ref x) s₁
theorem Thrown.intro {w : World} {E : Value → Shared → Prop} {s₁ : Shared} {x t d : Addr} (h1 : s₁.heap.get? x = some (excD t d)) (h2 : (Mine.sh.hd.heap_1 w.params).In s₁.heap) (h3 : E (.ref x) s₁) : Thrown w E (.ref x) s₁ := Y3_4 x t d rfl h1 h2 h3
theorem raise_own {w : World} {A : Around} {E : Value → Shared → Prop} {s : Shared} {env : Env} {ce : PySem.Expr} {pos : Pos} {Q : Flow → Shared → Prop} (hh : A.handled = none)
    (h : wpAny (MM w) A (eval ce env) (Thrown w E) E s) :
    wpAny (MM w) A (exec (.Raise (some ce) none pos) env) Q E s := by
  rw [arm_exec_Raise]
  refine wpAny_bind (wpAny_standAt ?_)
  show wpAny _ _ (raiseStmt env (some (do let v ← eval ce env; standAt pos; pure v)) none) _ _ _
  unfold raiseStmt
  refine wpAny_bind (wpAny_bind (wpAny_mono h (fun v s₁ h₁ => ?_) fun _ _ x => x))
  refine X3_4 h₁ ?_; clear h₁; rintro x t d rfl he X hE
  refine X15_1 (ex_shape X) fun nm q N bs hdct sn sub ab col dd k0 k1 k2 k3 k5 hC => ?_
  have hcB : (Value.ref 64 :: [Value.ref 39, .type "Exception", .type "BaseException", .type "object"]).contains (.type "BaseException") = true := by decide
  obtain ⟨hp, g, dr, tk, os⟩ := s₁
  repeat (first | with_reducible refine wpAny_loadPart_at he ?_ | with_reducible refine wpAny_loadPart_at hC ?_ | (with_reducible refine wpAny_isSubtype_exc hC ?_; rw [hcB]) | wp_step)
  exact wpAny_raiseNew_none hh hE
end
section
theorem frm_lookup (y : Str) : ∀ l : Fm, frm l y = (l.lookup y).getD none
  | [] => rfl
  | (x, o) :: r => by
    unfold frm
    rw [List.lookup_cons]
    by_cases h : y = x
    · subst h; simp
    · have : (y == x) = false := by simpa using h
      rw [this, if_neg h]
      exact frm_lookup y r
noncomputable def mkFm (names : List Str) (binds : List (Str × Value)) : Fm := names.map fun x => (x, binds.reverse.lookup x)
theorem lookup_none {y : Str} : ∀ {b : List (Str × Value)}, (∀ p ∈ b, p.1 ≠ y) → b.lookup y = none
  | [], _ => rfl
  | (x, v) :: r, h => by
    rw [List.lookup_cons]
    have : (y == x) = false := by simpa using fun e => h (x, v) (.head _) e.symm
    rw [this]
    exact lookup_none fun p hp => h p (.tail _ hp)
theorem frm_mkFm {names : List Str} {binds : List (Str × Value)} (hb : (binds.all fun b => names.contains b.1) = true) (y : Str) : frm (mkFm names binds) y = binds.reverse.lookup y := by
  have hm : ∀ (ns : List Str), frm (mkFm ns binds) y = if y ∈ ns then binds.reverse.lookup y else none := by
    intro ns
    induction ns with
    | nil => rfl
    | cons x r ih =>
      show (if y = x then binds.reverse.lookup x else frm (mkFm r binds) y) = _
      by_cases h : y = x
      · subst h; simp
      · rw [if_neg h, ih]
        by_cases h2 : y ∈ r
        · rw [if_pos h2, if_pos (.tail _ h2)]
        · rw [if_neg h2, if_neg fun q => by rcases List.mem_cons.mp q with q | q; exact h q; exact h2 q]
  rw [hm names]
  by_cases h : y ∈ names
  · rw [if_pos h]
  · rw [if_neg h]
    refine (lookup_none fun p hp e => h ?_).symm
    have := List.all_eq_true.mp hb p (List.mem_reverse.mp hp)
    rw [← e]
    simpa using this
theorem bindL_eq {k : Str → Option NameKind} : ∀ {binds : List (Str × Value)} {m : Str → Option Value} {y : Str}, bindL k binds m y = if k y = some .local then (binds.reverse.lookup y).or (m y) else m y
  | [], m, y => by unfold bindL; by_cases h : k y = some .local <;> simp [h]
  | (n, v) :: r, m, y => by
    unfold bindL
    rw [bindL_eq, List.reverse_cons, List.lookup_append]
    by_cases h : k y = some .local
    · rw [if_pos h, if_pos h]
      by_cases hy : y = n
      · subst hy
        rw [if_pos h]
        simp
      · have : (y == n) = false := by simpa using hy
        by_cases hn : k n = some .local <;> simp [hn, hy, this, List.lookup_cons]
    · rw [if_neg h, if_neg h]
      by_cases hn : k n = some .local
      · rw [if_pos hn]
        by_cases hy : y = n
        · subst hy; exact absurd hn h
        · simp [hy]
      · rw [if_neg hn]
theorem bindC_eq {k : Str → Option NameKind} : ∀ {binds : List (Str × Value)} {m : Str → Option Value} {y : Str}, k y ≠ some .local → bindC k binds m y = (binds.reverse.lookup y).or (m y)
  | [], m, y, _ => by unfold bindC; simp
  | (n, v) :: r, m, y, h => by
    unfold bindC
    rw [bindC_eq h, List.reverse_cons, List.lookup_append]
    by_cases hy : y = n
    · subst hy
      rw [if_neg h]
      simp
    · have : (y == n) = false := by simpa using hy
      by_cases hn : k n = some .local <;> simp [hn, hy, this, List.lookup_cons]
theorem cells_congr {cm cm' : Str → Option Value} {cs : List (Str × Addr)} {k : Led} (h : CellsAre cm cs k) : (∀ p ∈ cs, cm p.1 = cm' p.1) → CellsAre cm' cs k := by
  induction h with
  | nil => exact fun _ => .nil
  | cons hd _ ih => exact fun hp => .cons (by rw [hd, hp _ (.head _)]) (ih fun p q => hp p (.tail _ q))
theorem cells_get {cm : Str → Option Value} {cs : List (Str × Addr)} {k : Led} (h : CellsAre cm cs k) : ∀ {x : Str} {a : Addr}, cs.lookup x = some a → ∃ o, (a, o) ∈ k ∧ o.data = .cell (cm x) := by
  induction h with
  | nil => intro x a e; simp at e
  | @cons n c o cs cells hd _ ih =>
    intro x a e
    rw [List.lookup_cons] at e
    cases hx : x == n with
    | true => rw [hx] at e; simp at e hx; subst e hx; exact Y1_2 o (.head _) hd
    | false => rw [hx] at e; refine X1_2 (ih e) fun o' h1 h2 => ?_; exact Y1_2 o' (.tail _ h1) h2
theorem cells_of_mem : ∀ {ns : List (Str × NameKind)} {k : Nat} {acc : List (Str × Addr)} {p : Str × Addr}, p ∈ cellsFrom k ns acc → p ∈ acc ∨ (p.1, NameKind.cell) ∈ ns
  | [], k, acc, p, h => .inl h
  | (x, kd) :: r, k, acc, p, h => by
    unfold cellsFrom at h
    split at h
    · rename_i hk
      rcases cells_of_mem h with h | h
      · rcases List.mem_cons.mp h with rfl | h
        · right
          have : kd = .cell := by simpa using hk
          subst this
          exact .head _
        · exact .inl h
      · exact .inr (.tail _ h)
    · rcases cells_of_mem h with h | h
      · exact .inl h
      · exact .inr (.tail _ h)
theorem put_frm (l : Fm) (x : Str) (v : Value) (y : Str) : frm (put l x v) y = if y = x then some v else frm l y := congrFun (upd_frm l x v).symm y
theorem put_names {l : Fm} {x : Str} {v : Value} : x ∈ l.map (·.1) → (put l x v).map (·.1) = l.map (·.1) := by
  induction l with
  | nil => intro h; simp at h
  | cons p r ih =>
    obtain ⟨z, o⟩ := p
    intro h
    unfold put
    by_cases hz : z = x
    · rw [if_pos hz]; rfl
    · rw [if_neg hz]
      show z :: _ = z :: _
      rw [ih]
      rcases List.mem_cons.mp h with h | h
      · exact absurd h.symm hz
      · exact h
theorem frm_some_mem {l : Fm} {x : Str} {v : Value} (h : frm l x = some v) : x ∈ l.map (·.1) := by
  induction l with
  | nil => cases h
  | cons p r ih =>
    obtain ⟨z, o⟩ := p
    unfold frm at h
    by_cases hz : x = z
    · rw [hz]; exact .head _
    · rw [if_neg hz] at h; exact .tail _ (ih h)
noncomputable def DV (sc : Scope) (L : Addr) (names : List Str) (hid₀ : Led) (l : Fm) (m : Str → Option Value) (hid : Led) : Prop :=
  ∃ cs, CellsAre (frm l) (cellsFrom (L + 1) sc.names []) cs ∧ hid = cs ++ hid₀ ∧ (∀ y, m y = if sc.names.lookup y = some .local then frm l y else none) ∧ l.map (·.1) = names ∧ ∀ q ∈ hid₀, @LT.lt Nat _ q.1 L
theorem lookup_cells {sc : Scope} {x : Str} {k : Nat} (h : sc.names.lookup x = some .cell) : ∃ a, (cellsFrom k sc.names []).lookup x = some a := Option.isSome_iff_exists.mp (cellsFrom_some _ _ _ (.inl h))
theorem cells_addr : ∀ {ns : List (Str × NameKind)} {k : Nat} {acc : List (Str × Addr)}, (acc.map (·.2)).Nodup → (∀ p ∈ acc, @LT.lt Nat _ p.2 k) → ((cellsFrom k ns acc).map (·.2)).Nodup
  | [], k, acc, h, _ => h
  | (x, kd) :: r, k, acc, h, hl => by
    unfold cellsFrom
    split
    · refine cells_addr (List.nodup_cons.mpr ⟨fun hm => ?_, h⟩) fun p hp => ?_
      · refine X1_2 (List.mem_map.mp hm) fun q hq e => ?_
        exact absurd (e ▸ hl q hq) (Nat.lt_irrefl _)
      · rcases List.mem_cons.mp hp with rfl | hp
        · exact Nat.lt_succ_self _
        · exact Nat.lt_succ_of_lt (hl p hp)
    · exact cells_addr h hl
theorem cells_above : ∀ {ns : List (Str × NameKind)} {k : Nat} {acc : List (Str × Addr)} {p : Str × Addr}, p ∈ cellsFrom k ns acc → p ∉ acc → @LE.le Nat _ k p.2
  | [], k, acc, p, h, hn => absurd h hn
  | (x, kd) :: r, k, acc, p, h, hn => by
    unfold cellsFrom at h
    split at h
    · by_cases e : p = (x, k)
      · subst e; exact Nat.le_refl _
      · exact Nat.le_of_succ_le (cells_above h fun q => by rcases List.mem_cons.mp q with q | q; exact e q; exact hn q)
    · exact cells_above h hn
theorem cells_gt {cm : Str → Option Value} {L : Addr} {ns : List (Str × NameKind)} {k : Led} (h : CellsAre cm (cellsFrom (L + 1) ns []) k) : ∀ p ∈ k, @LT.lt Nat _ L p.1 := by
  have : ∀ {cs : List (Str × Addr)} {k : Led}, CellsAre cm cs k → (∀ q ∈ cs, @LT.lt Nat _ L q.2) → ∀ p ∈ k, @LT.lt Nat _ L p.1 := by
    intro cs k h
    induction h with
    | nil => intro _ p hp; cases hp
    | @cons n c o cs cells hd _ ih =>
      intro hq p hp
      rcases List.mem_cons.mp hp with rfl | hp
      · exact hq _ (.head _)
      · exact ih (fun q h => hq q (.tail _ h)) p hp
  exact this h fun q hq => cells_above hq (by simp)
theorem cells_map {cm cm' : Str → Option Value} {a : Addr} {o' : Obj} {cs : List (Str × Addr)} {k : Led} (h : CellsAre cm cs k) : (∀ p ∈ cs, p.2 = a → o'.data = .cell (cm' p.1)) → (∀ p ∈ cs, p.2 ≠ a → cm' p.1 = cm p.1) → CellsAre cm' cs (k.map fun p => if p.1 = a then (a, o') else p) := by
  induction h with
  | nil => exact fun _ _ => .nil
  | @cons n c o cs cells hd _ ih =>
    intro h1 h2
    have r := ih (fun p hp => h1 p (.tail _ hp)) fun p hp => h2 p (.tail _ hp)
    rw [List.map_cons]
    by_cases hc : c = a
    · rw [if_pos hc]
      subst hc
      exact .cons (h1 _ (.head _) rfl) r
    · rw [if_neg hc]
      exact .cons (by rw [hd, h2 _ (.head _) hc]) r
theorem lookup_mem {β : Type} {x : Str} {v : β} : ∀ {l : List (Str × β)}, l.lookup x = some v → (x, v) ∈ l
  | [], h => by simp at h
  | (y, u) :: r, h => by
    rw [List.lookup_cons] at h
    cases e : x == y with
    | true => rw [e] at h; simp at e h; subst e h; exact .head _
    | false => rw [e] at h; exact .tail _ (lookup_mem h)
theorem nodup_fst {β : Type} {x : Str} {u v : β} : ∀ {l : List (Str × β)}, (l.map (·.1)).Nodup → (x, u) ∈ l → (x, v) ∈ l → u = v
  | p :: r, h, h1, h2 => by
    rw [List.map_cons, List.nodup_cons] at h
    rcases List.mem_cons.mp h1 with e1 | e1 <;> rcases List.mem_cons.mp h2 with e2 | e2
    · exact (Prod.mk.inj (e1.trans e2.symm)).2
    · exact absurd (List.mem_map.mpr ⟨_, e2, by rw [← e1]⟩) h.1
    · exact absurd (List.mem_map.mpr ⟨_, e1, by rw [← e2]⟩) h.1
    · exact nodup_fst h.2 e1 e2
theorem nodup_snd {x y : Str} {a : Addr} : ∀ {l : List (Str × Addr)}, (l.map (·.2)).Nodup → (x, a) ∈ l → (y, a) ∈ l → x = y
  | p :: r, h, h1, h2 => by
    rw [List.map_cons, List.nodup_cons] at h
    rcases List.mem_cons.mp h1 with e1 | e1 <;> rcases List.mem_cons.mp h2 with e2 | e2
    · exact (Prod.mk.inj (e1.trans e2.symm)).1
    · exact absurd (List.mem_map.mpr ⟨_, e2, by rw [← e1]⟩) h.1
    · exact absurd (List.mem_map.mpr ⟨_, e1, by rw [← e2]⟩) h.1
    · exact nodup_snd h.2 e1 e2
section
variable {w : World} {c : Cx w} {n : Led} {l : Fm}
theorem dv_sl {sc : Scope} {L : Addr} {names : List Str} {hid₀ : Led} {l : Fm} {m : Str → Option Value} {hid : Led} {x : Str} {v : Value} (hlc : (sc.names.all fun y => sc.names.lookup y.1 == some y.2) = true)
    (hV : DV sc L names hid₀ l m hid) (hx : x ∈ l.map (·.1)) (hloc : sc.names.lookup x = some .local) : DV sc L names hid₀ (put l x v) (fun y => if y = x then some v else m y) hid := by
  refine X1_5 hV ?_; clear hV; rintro cs hcs rfl hm hln hlt
  refine Y1_5 cs (cells_congr hcs fun p hp => ?_) rfl (fun y => ?_) ((put_names hx).trans hln) hlt
  · rw [put_frm, if_neg]
    intro e
    rcases cells_of_mem hp with h | h
    · cases h
    · have := List.all_eq_true.mp hlc _ h
      rw [e, hloc] at this
      simp at this
  · show (if y = x then some v else m y) = _
    rw [put_frm, hm]
    by_cases e : y = x
    · subst e; rw [if_pos rfl, if_pos rfl, if_pos hloc]
    · rw [if_neg e, if_neg e]
theorem dv_store {w : World} {g : Heap} {env : Env} {sc : Scope} {L : Addr} {names : List Str} {hid₀ : Led} {l : Fm} {m : Str → Option Value} {hid n : Led} {x : Str} {v : Value} (hs : env.scope = sc) (hL : env.locals = L) (hc : env.cells = cellsFrom (L + 1) sc.names []) (hk : sc.kind = .function)
    (hn : (names.all fun y => sc.names.lookup y == some .local || sc.names.lookup y == some .cell) = true) (hlc : (sc.names.all fun y => sc.names.lookup y.1 == some y.2) = true) (hnd : ((cellsFrom 0 sc.names []).map (·.1)).Nodup)
    (hV : DV sc L names hid₀ l m hid) (hx : x ∈ l.map (·.1)) (O : Off hid n) {A : Around} {E : Value → Shared → Prop} {Q : Unit → Shared → Prop} {s : Shared} (F : Fr g L s.heap m) (N : News g L s.heap (hid ++ n))
    (k : ∀ h' tk' m' hid', DV sc L names hid₀ (put l x v) m' hid' → Fr g L h' m' → News g L h' (hid' ++ n) → Off hid' n → Q () { s with heap := h', toks := tk' }) : wpAny (model PR w) A (storeName env x v) Q E s := by
  subst hs hL
  refine X1_5 hV ?_; clear hV; rintro cs hcs rfl hm hln hlt
  have hpn : (put l x v).map (·.1) = names := (put_names hx).trans hln
  rw [hln] at hx
  rcases Bool.or_eq_true_iff.mp (List.all_eq_true.mp hn x hx) with hloc | hcel
  · have hloc : env.scope.names.lookup x = some .local := by simpa using hloc
    refine wpAny_storeName_local hloc F.ns (fun h' hn' hs' => ?_) (by rw [hk]; rfl)
    exact k h' _ (fun z => if z = x then some v else m z) (cs ++ hid₀) (dv_sl hlc (Y1_5 cs hcs rfl hm hln hlt) (by rw [hln]; exact hx) hloc) (F.set hn' hs') (N.set hs') O
  · have hcel : env.scope.names.lookup x = some .cell := by simpa using hcel
    obtain ⟨a, ha⟩ := lookup_cells (k := env.locals + 1) hcel
    refine X1_2 (cells_get hcs ha) fun o hmo hd => ?_
    have hN := N _ (List.mem_append_left _ (List.mem_append_left _ hmo))
    have nd1 : ((cellsFrom (env.locals + 1) env.scope.names []).map (·.1)).Nodup := cellsFrom_names env.scope.names 0 (env.locals + 1) [] [] rfl ▸ hnd
    have nd2 : ((cellsFrom (env.locals + 1) env.scope.names []).map (·.2)).Nodup := cells_addr (acc := []) .nil (fun _ h => nomatch h)
    refine wpAny_storeName_cell hk hcel (by rw [hc]; exact ha) (Y1_2 o hN.1 hd) fun h' hv hs' => ?_
    refine X1_2 hv ?_; clear hv; rintro o' ho' hd'
    have back : ∀ p ∈ cs.map fun p => if p.1 = a then (a, o') else p, p = (a, o') ∨ (p ∈ cs ∧ @Ne Nat p.1 a) := fun p hp => by
      refine X1_2 (List.mem_map.mp hp) ?_; rintro q hq rfl
      by_cases e : q.1 = a
      · rw [if_pos e]; exact .inl rfl
      · rw [if_neg e]; exact .inr ⟨hq, e⟩
    have hoff : ∀ p ∈ hid₀, @Ne Nat p.1 a := fun p hp => by
      have h1 := hlt p hp
      have h2 := cells_above (lookup_mem ha) (by simp)
      exact Nat.ne_of_lt (Nat.lt_trans h1 (Nat.lt_of_lt_of_le (Nat.lt_succ_self _) h2))
    have keep : ∀ p ∈ (cs ++ hid₀) ++ n, @Ne Nat p.1 a → h'.get? p.1 = some p.2 ∧ p.1 ≠ env.locals ∧ g.get? p.1 = none := fun p hp hne => ⟨(hs'.2 p.1 hne).trans (N p hp).1, (N p hp).2⟩
    refine k h' _ m ((cs.map fun p => if p.1 = a then (a, o') else p) ++ hid₀) (Y1_5 _ (cells_map hcs (fun p hp e => ?_) (fun p hp e => ?_)) rfl (fun y => ?_) hpn hlt) ⟨F.ns.sameBut hs' (Ne.symm hN.2.1), fun b ob e => (hs'.2 b fun q => by rw [q, hN.2.2] at e; cases e).trans (F.keep b ob e), F.above⟩ (fun p hp => ?_) (fun p hp q hq => ?_)
    · rw [hd', put_frm]
      have : p.1 = x := nodup_snd nd2 (show (p.1, a) ∈ _ from e ▸ hp) (lookup_mem ha)
      rw [if_pos this]
    · rw [put_frm, if_neg]
      intro q
      have h1 : (x, p.2) ∈ cellsFrom (env.locals + 1) env.scope.names [] := q ▸ hp
      exact e (nodup_fst nd1 h1 (lookup_mem ha))
    · rw [hm, put_frm]
      by_cases e : y = x
      · subst e
        rw [if_neg (by rw [hcel]; exact fun h => nomatch h), if_neg (by rw [hcel]; exact fun h => nomatch h)]
      · rw [if_neg e]
    · rcases List.mem_append.mp hp with hp | hp
      · rcases List.mem_append.mp hp with hp | hp
        · rcases back p hp with rfl | ⟨h1, h2⟩
          · exact ⟨ho', hN.2⟩
          · exact keep p (List.mem_append_left _ (List.mem_append_left _ h1)) h2
        · exact keep p (List.mem_append_left _ (List.mem_append_right _ hp)) (hoff p hp)
      · exact keep p (List.mem_append_right _ hp) fun e => O _ (List.mem_append_left _ hmo) p hp e.symm
    · rcases List.mem_append.mp hp with hp | hp
      · rcases back p hp with rfl | ⟨h1, h2⟩
        · exact O _ (List.mem_append_left _ hmo) q hq
        · exact O p (List.mem_append_left _ h1) q hq
      · exact O p (List.mem_append_right _ hp) q hq
theorem RaisedSN.sub {base G : Heap} {l : List Env} {e : Addr} {cls : Value} {news news' : Led} {h : Heap} (R : RaisedSN base G l e cls news h) (hs : ∀ q ∈ news', q ∈ news) : RaisedSN base G l e cls news' h := by
  refine X2_4 R ?_; clear R; rintro B a0 a b c d
  exact Y2_4 B a0 a b (fun q hq => c q (hs q hq)) d
theorem leave_firstE {M : Model} {A A' : Around} {E : Value → Shared → Prop} {s' : Shared} {base g : Heap} {env : Env} {outer : List Env} {L x t d : Addr} {m : Str → Option Value} {Q : Unit → Shared → Prop} {news : Led}
    (K : Below A base outer g) (hA : A'.frames = some (env :: outer)) (hf : env.frame = some L) (hk : env.scope.kind = .function) (F : Fr g L s'.heap m) (N : News g L s'.heap ((x, excD t d) :: news)) (hnx : ∀ p ∈ news, @Ne Nat p.1 x)
    (hQ : ∀ h', RaisedSN base g outer x (.ref 64) news h' → g.UpToSlots h' → Q () { s' with heap := h' }) : wpAny M A' (leaving env (.ref x)) Q E s' := by
  have hnew : base.get? L = none := fresh_of_stays K.stays (kts_self F)
  have stays : base.StaysIn s'.heap := fun b o e => F.keep b o (K.stays b o e)
  have frames : s'.heap.FunFrames base (env :: outer) := .cons (by rw [hk]; decide) hf F.ns hnew (K.frames.of_keeps fun b o e _ => Y1_2 o (F.keep b o e) rfl)
  have hx := N (x, excD t d) (.head _)
  have hin : ∀ e ∈ (env :: outer), ∀ b, e.frame = some b → b ∈ x :: (env :: outer).filterMap (·.frame) := fun e he b hb => .tail _ (List.mem_filterMap.mpr (Y1_2 e he hb))
  have hmem : ∀ {b : Addr}, b ∈ (env :: outer).filterMap (·.frame) → b = L ∨ b ∈ outer.filterMap (·.frame) := fun {b} hm => by
    refine X1_2 (List.mem_filterMap.mp hm) fun e he h1 => ?_
    rcases List.mem_cons.mp he with rfl | he
    · exact .inl (Option.some.inj (h1.symm.trans hf))
    · exact .inr (List.mem_filterMap.mpr (Y1_2 e he h1))
  have st : base.StaysIn (hideAll s'.heap (x :: (env :: outer).filterMap (·.frame))) := fun b o q => hideAll_get _ (stays b o q) fun hm => by
    rcases List.mem_cons.mp hm with rfl | hm
    · rw [fresh_of_stays K.stays hx.2.2] at q; cases q
    · rw [(frames.mem hm).1] at q; cases q
  have sg : ∀ b o, g.get? b = some o → b ∉ outer.filterMap (·.frame) → (hideAll s'.heap (x :: (env :: outer).filterMap (·.frame))).get? b = some o := fun b o q nm => hideAll_get _ (F.keep b o q) fun hm => by
    rcases List.mem_cons.mp hm with rfl | hm
    · rw [hx.2.2] at q; cases q
    · rcases hmem hm with z | z
      · rw [z, kts_self F] at q
        cases q
      · exact nm z
  have hl : ∀ q ∈ news, (hideAll s'.heap (x :: (env :: outer).filterMap (·.frame))).get? q.1 = some q.2 ∧ g.get? q.1 = none ∧ base.get? q.1 = none := fun q hq => by
    have Nq := N q (.tail _ hq)
    refine Y0_3 (hideAll_get _ Nq.1 fun hm => ?_) Nq.2.2 (fresh_of_stays K.stays Nq.2.2)
    rcases List.mem_cons.mp hm with hm | hm
    · exact hnx q hq hm
    rcases hmem hm with z | z
    · exact Nq.2.1 z
    · refine X1_2 ((K.frames.mem z).2) fun o ho _ => ?_
      rw [Nq.2.2] at ho; cases ho
  have hen : (hideAll s'.heap (x :: (env :: outer).filterMap (·.frame))).get? x = none := hideAll_none _ (.head _)
  refine wpAny_leaving_firstW (a0 := .ref t) hA (funFrames_hide frames hin) hf hx.1 (fun b o hb => of_hideAll _ hb) hen rfl rfl rfl fun h' hL => ?_
  refine X0_4 hL ?_; clear hL; rintro k1 ⟨_, _, k2⟩ k3 k4
  exact hQ h' (Y2_7 _ (.ref t) st sg hl k1 hen k2 k3) ((Heap.UpToSlots.of_keeps F.keep).trans k4)
theorem leave_onE {M : Model} {A' : Around} {E : Value → Shared → Prop} {s' : Shared} {base g G : Heap} {env : Env} {outer : List Env} {L e : Addr} {cls : Value} {m : Str → Option Value} {Q : Unit → Shared → Prop} {news : Led}
    (hA : A'.frames = some (env :: outer)) (hf : env.frame = some L) (F : Fr g L G m) (R : RaisedSN base G (env :: outer) e cls news s'.heap) (hsm : G.UpToSlots s'.heap)
    (hQ : ∀ h', RaisedSN base g outer e cls news h' → g.UpToSlots h' → Q () { s' with heap := h' }) : wpAny M A' (leaving env (.ref e)) Q E s' := by
  refine X2_4 R ?_; clear R; rintro B a0 hB hBG hl hfl
  exact wpAny_leaves_onW hA hf hfl fun h' x1 x2 => hQ h' ⟨B, a0, hB, fun b o q nm => hBG b o (F.keep b o q) (fun hm => by
    refine X1_2 (List.mem_filterMap.mp hm) fun x hx hb => ?_
    rcases List.mem_cons.mp hx with z | z
    · rw [z, hf] at hb
      cases hb
      rw [kts_self F] at q
      cases q
    · exact nm (List.mem_filterMap.mpr (Y1_2 x z hb))), fun q hq => Y0_3 ((hl q hq).1) (kts_none F.keep (hl q hq).2.1) ((hl q hq).2.2), x1⟩ ((Heap.UpToSlots.of_keeps F.keep).trans (hsm.trans x2))
noncomputable def Rai {w : World} (c : Cx w) (n : Led) (l : Fm) (x : Addr) : Prop := ∀ G h tk m hid, c.V l m hid → Off hid n → Fr c.g c.L G m → RaisedSN c.base G (c.fenv :: c.outer) x (.ref 64) (hid ++ n) h → G.UpToSlots h → c.E (.ref x) { c.s with heap := h, toks := tk }
structure Inn {w : World} (c : Cx w) (l : Fm) (Q : Value → Shared → Prop) (c' : Cx w) (sc : Scope) (RQ : Flow → Shared → Prop) (qual : Str) (f : Addr) (cdv : Value) : Prop where
  ev : c'.env = envOfC qual sc c'.L f cdv
  wk : Wk c' sc (c.dp + 1) (c.un + 3) true
  ret : ∀ n' l' v, Go c n' l Q v → Go c' n' l' RQ (.ret v)
  nxt : ∀ n' l', Go c n' l Q .none → Go c' n' l' RQ .next
  rai : ∀ {x t d : Addr} {n' : Led} {l' : Fm}, Rai c n' l x → ∀ h' tk', Hp c' ((x, excD t d) :: n') l' h' → (∀ p ∈ n', @Ne Nat p.1 x) → c'.E (.ref x) { c'.s with heap := h', toks := tk' }
  pas : ∀ {x : Addr} {n' : Led} {l' : Fm}, Rai c n' l x → Rai c' n' l' x
theorem At.enterD {Q : Value → Shared → Prop} {name qual : Str} {params : Arguments} {body : List Stmt} {scope : Scope} {dV kV doc pm cdv ct oc : Value} {an od : Option Addr} {osl : Array (Option Value)} {f : Addr} {vs us : List Value}
    (ho : (KK w).lookup f = some ⟨oc, od, .func (fnOf name qual params body scope dV kV doc pm an cdv ct), osl⟩) (hroom : c.dp < recursionLimit) (ps lo : List Str) (l' : Fm)
    (k : ∀ c' RQ, Inn c l Q c' scope RQ qual f cdv → At c' n l' (execs body c'.env) RQ)
    (hbind : ∀ s : Shared, (KK w).In s.heap → BindsTo s (fnOf name qual params body scope dV kV doc pm an cdv ct) ⟨vs, []⟩ (ps.zip us) := by intro _ _; exact BindsTo.of_eq rfl)
    (hcd : codeIn (KK w) cdv qual = true := by rfl) (hl : mkFm (ps ++ lo) (ps.zip us) = l' := by rfl)
    (hb : ((ps.zip us).all fun b => (ps ++ lo).contains b.1) = true := by rfl) (hn : ((ps ++ lo).all fun y => scope.names.lookup y == some .local || scope.names.lookup y == some .cell) = true := by rfl)
    (hlc : (scope.names.all fun y => scope.names.lookup y.1 == some y.2) = true := by rfl)
    (hnd : ((cellsFrom 0 scope.names []).map (·.1)).Nodup := by decide +kernel) (hfr : (scope.names.all fun y => y.2 != .free) = true := by rfl)
    (hco : scope.isCoroutine = false := by rfl) (hgen : scope.isGenerator = false := by rfl) (hk : scope.kind = .function := by rfl) : ∀ h tk, Hp c n l h → codeAny (model PR w) c.A (.call (.ref f) ⟨vs, []⟩) (fun r s' => match r with | .ok (.ret v) => Q v s' | .ok _ => False | .error e => c.E e s') { c.s with heap := h, toks := tk } := fun h tk H => by
  obtain ⟨m, hid, hV, F, N, O⟩ := H
  generalize hbs : ps.zip us = binds at hbind hl hb
  generalize hns : ps ++ lo = names at hl hb hn
  have hfm := frm_mkFm hb
  rw [hl] at hfm
  have hkind : (binds.all fun y => scope.names.lookup y.1 == some .local || scope.names.lookup y.1 == some .cell) = true := List.all_eq_true.mpr fun b hb' => by
    have h1 := List.all_eq_true.mp hb b hb'
    exact List.all_eq_true.mp hn b.1 (by simpa using h1)
  refine code_defC c.B F c.X N c.T rfl c.hf c.hk ho hcd hroom (hbind _ (c.X.keeps F.keep)) hkind hnd ?_ hco hgen hk
  intro g L' h₁ tk' cells FG F' N' Y B' X' T' lt
  have eC : ∀ y, scope.names.lookup y = some .cell → bindC (envOfC qual scope L' f cdv).kindOf binds (fun _ => none) y = frm l' y := fun y hy => by
    rw [bindC_eq (by show scope.names.lookup y ≠ _; rw [hy]; exact fun h => nomatch h), hfm]
    cases binds.reverse.lookup y <;> rfl
  let c' : Cx w :=
    { A₀ := c.A, base := c.base, g := g, outer := c.fenv :: c.outer, fenv := envOfC qual scope L' f cdv, env := envOfC qual scope L' f cdv, L := L', p := c.p, loose := c.loose, mean := c.mean, mg := c.mg, mb := c.mb, dp := c.dp + 1, un := c.un + 3, gd := c.gd
      E := fun e s' => wpAny (model PR w) (AA (c.dp + 1) (c.un + 3) c.gd (envOfC qual scope L' f cdv) (c.fenv :: c.outer)) (leaving (envOfC qual scope L' f cdv) e) (fun _ s'' => c.E e s'') (fun e' s'' => c.E e' s'') s'
      s := c.s, V := DV scope L' names hid, dfn := true, B := B', X := X', T := T', hf := rfl, hk := hk, ek := hk, eg := rfl, eb := rfl
      rd := fun {l m hid n h x v} hV F N hx A E Q s es q => by
        subst es
        refine X1_5 hV ?_; clear hV; rintro cs hc rfl hm hln hlt
        have hxn := frm_some_mem hx
        rw [hln] at hxn
        have := List.all_eq_true.mp hn x hxn
        rcases Bool.or_eq_true_iff.mp this with hloc | hcel
        · have hloc : scope.names.lookup x = some .local := by simpa using hloc
          exact wpAny_loadName_local hk hloc F.ns (by rw [hm, if_pos hloc]; exact hx) q
        · have hcel : scope.names.lookup x = some .cell := by simpa using hcel
          obtain ⟨a, ha⟩ := lookup_cells (k := L' + 1) hcel
          refine X1_2 (cells_get hc ha) fun o hmo hd => ?_
          exact wpAny_loadName_cell hk hcel ha (Y1_2 o (N.get (List.mem_append_left _ (List.mem_append_left _ hmo))) (by rw [hd, hx])) q
      ce := fun _ {l m hid x} hV hx => by
        refine X1_5 hV ?_; clear hV; rintro cs hc rfl hm hln hlt
        rcases hx with hx | hx
        · obtain ⟨a, ha⟩ := lookup_cells (k := L' + 1) (show scope.names.lookup x = some .cell from hx)
          refine X1_2 (cells_get hc ha) fun o hmo hd => ?_
          exact Y2_3 a o ha (List.mem_append_left _ hmo) hd
        · exact absurd (lookup_mem (show scope.names.lookup x = some .free from hx)) fun hm => by
            have := List.all_eq_true.mp hfr _ hm
            simp at this
      st := fun _ {l m hid n h x v} hV F N O hx A E Q s es k => by
        subst es
        exact dv_store (env := envOfC qual scope L' f cdv) rfl rfl rfl hk hn hlc hnd hV hx O F N k
      sl := fun _ {l m hid x v} hV hx hxk => dv_sl hlc hV hx hxk
      lo := fun _ => rfl
      mu := fun {l m hid m' hid'} h h' => by
        refine X1_4 h ?_; clear h; rintro _ _ _ h1 _
        refine X1_4 h' ?_; clear h'; rintro _ _ _ h2 _
        exact funext fun y => (h1 y).trans (h2 y).symm
      po := fun _ => PassesOwn.leaving }
  let RQ : Flow → Shared → Prop := fun fl s' => LeaveK c.g c.L m g (fun r s' => match r with | .ok (.ret v) => Q v s' | .ok _ => False | .error e => c.E e s') (match fl with | .ret v => v | _ => .none) s'
  have back : ∀ n' l'' v h2 tk2, Go c n' l Q v → Hp c' n' l'' h2 → LeaveK c.g c.L m g (fun r s' => match r with | .ok (.ret v) => Q v s' | .ok _ => False | .error e => c.E e s') v { c.s with heap := h2, toks := tk2 } := by
    rintro n' l'' v h2 tk2 hg zz; obtain ⟨m2, hid2, ⟨cs, hcs, rfl, hm, hln, hlt⟩, F2, N2, O2⟩ := zz
    exact leaveK_ F2 (News.sub N2 fun q hq => (List.mem_append.mp hq).elim (fun h => List.mem_append_left _ (List.mem_append_right _ h)) fun h => List.mem_append_right _ h) fun kF kN => hg h2 tk2 ⟨m, hid, hV, kF, kN, fun p hp => O2 p (List.mem_append_right _ hp)⟩
  have key : At c' n l' (execs body c'.env) RQ := k c' RQ ⟨rfl, ⟨rfl, rfl, rfl, rfl⟩, fun n' l'' v hg h2 tk2 H2 => back n' l'' v h2 tk2 hg H2, fun n' l'' hg h2 tk2 H2 => back n' l'' .none h2 tk2 hg H2, fun {x t d n' l''} hr h2 tk2 H2 hne => by
    obtain ⟨m2, hid2, ⟨cs, hcs, rfl, hm, hln, hlt⟩, F2, N2, O2⟩ := H2
    have hcx : ∀ p ∈ cs ++ hid, @Ne Nat p.1 x := fun p hp => O2 p hp _ (.head _)
    refine leave_firstE (t := t) (d := d) (news := (cs ++ hid) ++ n') B' rfl rfl hk F2 (News.sub N2 fun q hq => ?_) (fun p hp => ?_) fun h3 R3 U3 => hr g h3 tk2 m hid hV (fun p hp q hq => O2 p (List.mem_append_right _ hp) q (.tail _ hq)) FG ?_ U3
    · rcases List.mem_cons.mp hq with rfl | hq
      · exact List.mem_append_right _ (.head _)
      · rcases List.mem_append.mp hq with hq | hq
        · exact List.mem_append_left _ hq
        · exact List.mem_append_right _ (.tail _ hq)
    · rcases List.mem_append.mp hp with hp | hp
      · exact hcx p hp
      · exact hne p hp
    · exact RaisedSN.sub R3 fun q hq => by
        rcases List.mem_append.mp hq with hq | hq
        · exact List.mem_append_left _ (List.mem_append_right _ hq)
        · exact List.mem_append_right _ hq, fun {x n' l''} hr G2 h2 tk2 m2 hid2 hV2 O2 F2 R2 U2 => by
    refine X1_5 hV2 ?_; clear hV2; rintro cs hcs rfl hm hln hlt
    refine leave_onE (env := c'.fenv) (outer := c.fenv :: c.outer) rfl rfl F2 R2 U2 fun h3 R3 U3 => hr g h3 tk2 m hid hV (fun p hp => O2 p (List.mem_append_right _ hp)) FG (RaisedSN.sub R3 fun q hq => ?_) U3
    rcases List.mem_append.mp hq with hq | hq
    · exact List.mem_append_left _ (List.mem_append_right _ hq)
    · exact List.mem_append_right _ hq⟩
  suffices H' : Hp c' n l' h₁ from by
    have k2 := key h₁ tk' H'
    exact k2
  refine ⟨_, _, Y1_5 cells (cells_congr Y fun p hp => ?_) rfl (fun y => ?_) ?_ (fun q hq => lt q (List.mem_append_left _ hq)), F', by rw [List.append_assoc]; exact N', ?_⟩
  · refine eC _ ?_
    rcases cells_of_mem hp with h | h
    · cases h
    · have := List.all_eq_true.mp hlc _ h
      simpa using this
  · rw [bindL_eq, hfm]
    show (if scope.names.lookup y = _ then _ else _) = _
    by_cases e : scope.names.lookup y = some .local
    · rw [if_pos e]
      refine (if_pos e).trans ?_
      cases binds.reverse.lookup y <;> rfl
    · rw [if_neg e]
      exact if_neg e
  · rw [← hl]
    unfold mkFm
    rw [List.map_map]
    exact List.map_id' names
  · intro p hp q hq
    rcases List.mem_append.mp hp with hp | hp
    · refine fun e => ?_
      have h1 : @LT.lt Nat _ q.1 L' := lt q (List.mem_append_right _ hq)
      have h2 := cells_gt Y p hp
      rw [← e] at h1
      exact absurd (Nat.lt_trans h1 h2) (Nat.lt_irrefl _)
    · exact O p hp q hq
theorem At.enterC {Q : Value → Shared → Prop} {name qual : Str} {params : Arguments} {body : List Stmt} {scope : Scope} {dV kV doc pm cdv ct oc : Value} {an od : Option Addr} {osl : Array (Option Value)} {f : Addr} {vs : List Value}
    (ho : (KK w).lookup f = some ⟨oc, od, .func (fnOf name qual params body scope dV kV doc pm an cdv ct), osl⟩) (hroom : c.dp < recursionLimit) (ps lo : List Str) (l' : Fm)
    (k : ∀ c' RQ, Inn c l Q c' scope RQ qual f cdv → At c' n l' (execs body c'.env) RQ)
    (hbind : ∀ s : Shared, (KK w).In s.heap → BindsTo s (fnOf name qual params body scope dV kV doc pm an cdv ct) ⟨vs, []⟩ (ps.zip vs) := by intro _ _; exact BindsTo.of_eq rfl)
    (hcd : codeIn (KK w) cdv qual = true := by rfl) (hl : mkFm (ps ++ lo) (ps.zip vs) = l' := by rfl)
    (hb : ((ps.zip vs).all fun b => (ps ++ lo).contains b.1) = true := by rfl) (hn : ((ps ++ lo).all fun y => scope.names.lookup y == some .local || scope.names.lookup y == some .cell) = true := by rfl)
    (hlc : (scope.names.all fun y => scope.names.lookup y.1 == some y.2) = true := by rfl)
    (hnd : ((cellsFrom 0 scope.names []).map (·.1)).Nodup := by decide +kernel) (hfr : (scope.names.all fun y => y.2 != .free) = true := by rfl)
    (hco : scope.isCoroutine = false := by rfl) (hgen : scope.isGenerator = false := by rfl) (hk : scope.kind = .function := by rfl) : ∀ h tk, Hp c n l h → codeAny (model PR w) c.A (.call (.ref f) ⟨vs, []⟩) (fun r s' => match r with | .ok (.ret v) => Q v s' | .ok _ => False | .error e => c.E e s') { c.s with heap := h, toks := tk } := At.enterD (us := vs) ho hroom ps lo l' k hbind hcd hl hb hn hlc hnd hfr hco hgen hk
theorem At.enter {Q : Value → Shared → Prop} {name qual : Str} {params : Arguments} {body : List Stmt} {scope : Scope} {dV kV doc pm cdv ct oc : Value} {an od : Option Addr} {osl : Array (Option Value)} {f : Addr} {vs : List Value}
    (ho : (KK w).lookup f = some ⟨oc, od, .func (fnOf name qual params body scope dV kV doc pm an cdv ct), osl⟩) (hroom : c.dp < recursionLimit) (ps lo : List Str) (l' : Fm)
    (k : ∀ c' RQ, Inn c l Q c' scope RQ qual f cdv → At c' n l' (execs body c'.env) RQ)
    (hbind : ∀ s : Shared, (KK w).In s.heap → BindsTo s (fnOf name qual params body scope dV kV doc pm an cdv ct) ⟨vs, []⟩ (ps.zip vs) := by intro _ _; exact BindsTo.of_eq rfl)
    (hcd : codeIn (KK w) cdv qual = true := by rfl) (hl : mkFm (ps ++ lo) (ps.zip vs) = l' := by rfl)
    (hb : ((ps.zip vs).all fun b => (ps ++ lo).contains b.1) = true := by rfl) (hn : ((ps ++ lo).all fun y => scope.names.lookup y == some .local || scope.names.lookup y == some .cell) = true := by rfl)
    (hlc : (scope.names.all fun y => scope.names.lookup y.1 == some y.2) = true := by rfl)
    (hnd : ((cellsFrom 0 scope.names []).map (·.1)).Nodup := by decide +kernel) (hfr : (scope.names.all fun y => y.2 != .free) = true := by rfl)
    (hco : scope.isCoroutine = false := by rfl) (hgen : scope.isGenerator = false := by rfl) (hk : scope.kind = .function := by rfl) : At c n l (call (.ref f) vs) Q := fun h tk H => wpAny_call (At.enterC ho hroom ps lo l' k hbind hcd hl hb hn hlc hnd hfr hco hgen hk h tk H)
end
end
section
section
variable {prog : Program} {w : World} {A : Around} {E : Value → Shared → Prop} {s : Shared} {env : Env} {test : PySem.Expr} {body orelse : List Stmt} {Q : Flow → Shared → Prop}
noncomputable def Wh (prog : Program) (w : World) (A : Around) (E : Value → Shared → Prop) (env : Env) (test : PySem.Expr) (body orelse : List Stmt) (Q : Flow → Shared → Prop) (s : Shared) : Prop := WhlRest prog w A E env test body orelse Q 0 s
noncomputable def WhPost (prog : Program) (w : World) (A : Around) (E : Value → Shared → Prop) (env : Env) (test : PySem.Expr) (body orelse : List Stmt) (Q : Flow → Shared → Prop) (f : Flow) (s : Shared) : Prop := WhlPost prog w A E env test body orelse Q 0 f s
theorem wh_start {pos : Pos} (h : Wh prog w A E env test body orelse Q s) : wpAny (model prog w) A (exec (.While test body orelse pos) env) Q E s := whl_start 0 h
theorem wh_turn (hE : PassesOwn (model prog w) A env E)
    (h : wpAny (model prog w) A (isTrue test env (eval test env)) (fun b s₂ => if b = true then wpAny (model prog w) A (execs body env) (WhPost prog w A E env test body orelse Q) E s₂ else wpAny (model prog w) A (execs orelse env) Q E s₂) E s) :
    Wh prog w A E env test body orelse Q s := whl_turn (k := 0) hE (wpAny_mono h (fun b s₂ x => x) fun _ _ e => e)
theorem WhPost.ret {v : Value} (h : Q (.ret v) s) : WhPost prog w A E env test body orelse Q (.ret v) s := h
theorem WhPost.next (h : Wh prog w A E env test body orelse Q s) : WhPost prog w A E env test body orelse Q .next s := h
end
end
section
theorem of_if_t {p q : Prop} (h : p) : if true = true then p else q := by rw [if_pos rfl]; exact h
theorem of_if_f {p q : Prop} (h : q) : if false = true then p else q := by rw [if_neg (fun h => nomatch h)]; exact h
section
variable {w : World} {c : Cx w} {n : Led} {l : Fm} {rest : List Stmt} {Q : Flow → Shared → Prop} {sc : Scope} {d u : Nat} {b : Bool}
noncomputable def Th {w : World} (c : Cx w) (rest : List Stmt) (Q : Flow → Shared → Prop) (f : Flow) (s' : Shared) : Prop :=
  match f with
  | .next => wpAny (model PR w) c.A (execs rest c.env) Q c.E s'
  | f => Q f s'
theorem At.cons {st : Stmt} (k : At c n l (exec st c.env) (Th c rest Q)) : At c n l (execs (st :: rest) c.env) Q := fun h tk H => wpAny_execs_cons (wpAny_mono (k h tk H) (fun f s' x => by cases f <;> exact x) fun _ _ x => x)
theorem At.nil (k : Go c n l Q .next) : At c n l (execs [] c.env) Q := fun h tk H => wpAny_pure (k h tk H)
theorem Go.ret {v : Value} (k : Go c n l Q (.ret v)) : Go c n l (Th c rest Q) (.ret v) := k
noncomputable def Rq (Q : Flow → Shared → Prop) (v : Value) (s' : Shared) : Prop := Q (.ret v) s'
theorem At.retQ {e : PySem.Expr} {pos : Pos} (k : At c n l (eval e c.env) (Rq Q)) : At c n l (execs (.Return (some e) pos :: rest) c.env) Q := .cons fun h' tk H => wpAny_Return_some (k h' tk H)
noncomputable def Aq {w : World} (c : Cx w) (x : Str) (rest : List Stmt) (Q : Flow → Shared → Prop) (v : Value) (s' : Shared) : Prop := wpAny (model PR w) c.A (storeName c.env x v) (fun _ => Th c rest Q .next) c.E s'
theorem At.ret {e : PySem.Expr} {R : Value → Led → Prop} {pos : Pos} (h : EvG c n l e R) (k : ∀ v n', R v n' → Go c n' l Q (.ret v)) : At c n l (execs (.Return (some e) pos :: rest) c.env) Q :=
  .cons fun h' tk H => wpAny_Return_some (h _ (fun v n' r => k v n' r) h' tk H)
theorem At.retP {e : PySem.Expr} {v : Value} {pos : Pos} (h : EvP c n l e v) (k : Go c n l Q (.ret v)) : At c n l (execs (.Return (some e) pos :: rest) c.env) Q :=
  .cons fun h' tk H => wpAny_Return_some (h _ k h' tk H)
theorem At.ret0 {pos : Pos} (k : Go c n l Q (.ret .none)) : At c n l (execs (.Return none pos :: rest) c.env) Q := .cons fun h' tk H => wpAny_Return_none (k h' tk H)
theorem bind_name {x : Str} {v : Value} {Q : Unit → Shared → Prop} (hw : Wk c sc d u true) (hx : (l.map (·.1)).contains x = true) (k : Go c n (put l x v) Q ()) : At c n l (storeName c.env x v) Q := fun h tk H => by
  obtain ⟨m, hid, hV, F, N, O⟩ := H
  exact c.st hw.dfn hV F N O (by simpa using hx) _ _ _ _ rfl fun h' tk' m' hid' a b d e => k h' tk' ⟨m', hid', a, b, d, e⟩
theorem At.assignQ {x : Str} {px pos : Pos} {e : PySem.Expr} (k : At c n l (eval e c.env) (Aq c x rest Q)) (hs : ∀ env, swapsWith e (some (.Name x px)) pos.line env = pure false := by intro _; rfl) : At c n l (execs (.Assign [.Name x px] e pos :: rest) c.env) Q :=
  .cons fun h' tk H => wpAny_Assign_Name (k h' tk H) (hs _)
theorem Go.aq {x : Str} {v : Value} (hw : Wk c sc d u true) (k : At c n (put l x v) (execs rest c.env) Q) (hx : (l.map (·.1)).contains x = true := by rfl) : Go c n l (Aq c x rest Q) v := bind_name (Q := fun _ => Th c rest Q .next) hw hx k
theorem At.assignG {x : Str} {px pos : Pos} {e : PySem.Expr} {R : Value → Led → Prop} (hw : Wk c sc d u true) (h : EvG c n l e R) (k : ∀ v n', R v n' → At c n' (put l x v) (execs rest c.env) Q) (hx : (l.map (·.1)).contains x = true := by rfl)
    (hs : ∀ env, swapsWith e (some (.Name x px)) pos.line env = pure false := by intro _; rfl) : At c n l (execs (.Assign [.Name x px] e pos :: rest) c.env) Q :=
  .cons fun h' tk H => wpAny_Assign_Name (h _ (fun v n' r => bind_name (Q := fun _ => Th c rest Q .next) hw hx (k v n' r)) h' tk H) (hs _)
theorem At.assign {x : Str} {px pos : Pos} {e : PySem.Expr} {v : Value} (hw : Wk c sc d u true) (h : EvP c n l e v) (k : At c n (put l x v) (execs rest c.env) Q) (hx : (l.map (·.1)).contains x = true := by rfl)
    (hs : ∀ env, swapsWith e (some (.Name x px)) pos.line env = pure false := by intro _; rfl) : At c n l (execs (.Assign [.Name x px] e pos :: rest) c.env) Q :=
  .cons fun h' tk H => wpAny_Assign_Name (h (fun v s' => wpAny (model PR w) c.A (storeName c.env x v) (fun _ => Th c rest Q .next) c.E s') (bind_name (Q := fun _ => Th c rest Q .next) hw hx k) h' tk H) (hs _)
theorem At.assignR {x : Str} {px pos : Pos} {e : PySem.Expr} {P : Value → Prop} (hw : Wk c sc d u true) (h : EvR c n l e P) (k : ∀ v, P v → At c n (put l x v) (execs rest c.env) Q) (hx : (l.map (·.1)).contains x = true := by rfl)
    (hs : ∀ env, swapsWith e (some (.Name x px)) pos.line env = pure false := by intro _; rfl) : At c n l (execs (.Assign [.Name x px] e pos :: rest) c.env) Q :=
  .cons fun h' tk H => wpAny_Assign_Name (h _ (fun v p => bind_name (Q := fun _ => Th c rest Q .next) hw hx (k v p)) h' tk H) (hs _)
noncomputable def Xq {w : World} (c : Cx w) (rest : List Stmt) (Q : Flow → Shared → Prop) (v : Value) (s' : Shared) : Prop := match v with | .ref _ => False | _ => Th c rest Q .next s'
theorem inter_fn {env : Env} (h : env.scope.kind = .function) : interactive env = false := by
  unfold interactive
  rw [h]
  rfl
theorem At.exprQ {e : PySem.Expr} {pos : Pos} (k : At c n l (eval e c.env) (Xq c rest Q)) (hs : ∀ env, swapsWith e none pos.line env = pure false := by intro _; rfl) : At c n l (execs (.Expr e pos :: rest) c.env) Q :=
  .cons fun h' tk H => wpAny_Expr (k h' tk H) (inter_fn c.ek) (hs _)
theorem Go.xq (k : At c n l (execs rest c.env) Q) : Go c n l (Xq c rest Q) .none := k
theorem At.if_ {test : PySem.Expr} {body orelse : List Stmt} {pos : Pos} {p : Prop} (h : Tst c n l test p) (k1 : p → At c n l (execs body c.env) (Th c rest Q)) (k2 : ¬ p → At c n l (execs orelse c.env) (Th c rest Q)) : At c n l (execs (.If test body orelse pos :: rest) c.env) Q :=
  .cons fun h' tk H => wpAny_If (h (fun b s₂ => if b = true then wpAny (model PR w) c.A (execs body c.env) (Th c rest Q) c.E s₂ else wpAny (model PR w) c.A (execs orelse c.env) (Th c rest Q) c.E s₂)
    (fun hp h tk H => of_if_t (k1 hp h tk H)) (fun hp h tk H => of_if_f (k2 hp h tk H)) h' tk H)
theorem At.guard {test : PySem.Expr} {body : List Stmt} {pos : Pos} {p : Prop} (h : Tst c n l test p) (k1 : p → At c n l (execs body c.env) (Th c rest Q)) (k2 : ¬ p → At c n l (execs rest c.env) Q) : At c n l (execs (.If test body [] pos :: rest) c.env) Q :=
  .if_ h k1 fun hp => .nil (k2 hp)
theorem At.while_ {test : PySem.Expr} {body : List Stmt} {pos : Pos} (hw : Wk c sc d u true) (J : Nat → Led → Fm → Prop) {k₀ : Nat} (h0 : J k₀ n l)
    (turn : ∀ k n l TQ, J k n l → (∀ k' n' l', k' < k → J k' n' l' → Go c n' l' TQ .next) → (∀ n' l' v, Go c n' l' (Th c rest Q) (.ret v) → Go c n' l' TQ (.ret v)) →
      ∃ p, Tst c n l test p ∧ (p → At c n l (execs body c.env) TQ) ∧ (¬ p → At c n l (execs rest c.env) Q)) : At c n l (execs (.While test body [] pos :: rest) c.env) Q :=
  .cons fun h' tk' H' => by
    refine wh_start ?_
    have loop : ∀ k n l, J k n l → ∀ h tk, Hp c n l h → Wh PR w c.A c.E c.env test body [] (Th c rest Q) { c.s with heap := h, toks := tk } := by
      intro k
      induction k using Nat.strongRecOn with
      | _ k ih =>
        intro n l hJ h tk H
        have hfe : PassesOwn (model PR w) c.A c.env c.E := c.po hw.dfn
        refine X1_3 (turn k n l (WhPost PR w c.A c.E c.env test body [] (Th c rest Q)) hJ (fun k' n' l' hk hJ' h tk H => WhPost.next (ih k' hk n' l' hJ' h tk H)) fun n' l' v g h tk H => WhPost.ret (g h tk H)) fun p t1 t2 t3 => ?_
        exact wh_turn hfe (t1 (fun b s₂ => if b = true then wpAny (model PR w) c.A (execs body c.env) (WhPost PR w c.A c.E c.env test body [] (Th c rest Q)) c.E s₂ else wpAny (model PR w) c.A (execs [] c.env) (Th c rest Q) c.E s₂)
          (fun hp h tk H => of_if_t (t2 hp h tk H)) (fun hp h tk H => of_if_f (wpAny_pure (t3 hp h tk H))) h tk H)
    exact loop k₀ n l h0 h' tk' H'
end
end
section
section
variable {prog : Program} {w : World} {A : Around} {E : Value → Shared → Prop} {s : Shared} {env : Env} {h₀ : Heap} {x : Str} {body : List Stmt} {Q : Flow → Shared → Prop} {m₀ : Str → Option Value} {news : Led}
noncomputable def TurnEnd (h₀ : Heap) (L I : Addr) (oI : Obj) (J : (Str → Option Value) → Led → Prop) (s₁ : Shared) (Q : Flow → Shared → Prop) (f : Flow) (s₂ : Shared) : Prop :=
  match f with
  | .ret v => Q (.ret v) s₂
  | .brk => Q .next s₂
  | _ => ∃ h' tk m' news', s₂ = { s₁ with heap := h', toks := tk } ∧ Fr h₀ L h' m' ∧ News h₀ L h' ((I, oI) :: news') ∧ (∀ p ∈ news', @Ne Nat p.1 I) ∧ J m' news'
theorem loopW {I : Addr} {fp : List Addr} {n : Nat} {P : Nat → Value → Prop} {St : Nat → Heap → Prop} (W : Walks prog w A I fp [I] n P St) (hst : St 0 s.heap) (F : Fr h₀ env.locals s.heap m₀) (N : News h₀ env.locals s.heap news)
    (hI : ∃ o, s.heap.get? I = some o) (hIn : h₀.get? I = none) (hoff : ∀ p ∈ news, @Ne Nat p.1 I) (hfp : ∀ b ∈ fp, b ≠ env.locals) (J : Nat → (Str → Option Value) → Led → Prop) (ob : Addr → Obj)
    (hJ : ∀ i m n, J i m n → ∀ b ∈ fp, b ≠ I → h₀.get? b = none → (b, ob b) ∈ n) (h0 : J 0 m₀ news) (keepI : ∀ i h, St i h → ∃ o, h.get? I = some o)
    (turn : ∀ i v m₁ news₁ h tk oI, i < n → P i v → J i m₁ news₁ → (∀ p ∈ news₁, @Ne Nat p.1 I) → Fr h₀ env.locals h (fun y => if y = x then some v else m₁ y) → News h₀ env.locals h ((I, oI) :: news₁) →
      wpAny (model prog w) A (execs body env) (TurnEnd h₀ env.locals I oI (J (i + 1)) { s with heap := h, toks := tk } Q) E { s with heap := h, toks := tk })
    (done : ∀ m₁ news₁ h tk, J n m₁ news₁ → (∀ p ∈ news₁, @Ne Nat p.1 I) → Fr h₀ env.locals h m₁ → News h₀ env.locals h news₁ → Q .next { s with heap := h, toks := tk }) :
    LoopAtV prog w A h₀ env x body Q E (.ref I) s := by
  refine Y9_11 I fp [I] n P St m₀ news J rfl W (fun hm => hfp _ hm rfl) (fun b hb => by rw [List.mem_singleton.mp hb]; exact hIn) (fun p hp hm => hoff p hp (List.mem_singleton.mp hm)) hst F N h0 ?_ ?_
  · rintro i v m₁ news₁ s₁ own zz; refine X2_1 zz ?_; clear zz; rintro h tk rfl; rintro hi hP hj hnw hof hog hown hst₁ F₁ N₁
    obtain ⟨oI, hoI⟩ := keepI _ _ hst₁
    have hIo : (I, oI) ∈ own := hown I (W.sub _ (List.mem_singleton.mpr rfl)) hIn oI hoI
    have ne₁ : ∀ p ∈ news₁, @Ne Nat p.1 I := fun p hp e => hnw p hp (List.mem_singleton.mpr e)
    refine wpAny_mono (turn i v m₁ news₁ h tk oI hi hP hj ne₁ F₁ fun q hq => ?_) (fun f s₂ p => ?_) fun _ _ e => e
    · rcases List.mem_cons.mp hq with rfl | hq
      · exact N₁ _ (List.mem_append_left _ hIo)
      · exact N₁ _ (List.mem_append_right _ hq)
    have fin : (∃ h' tk' m' news', s₂ = { s with heap := h', toks := tk' } ∧ Fr h₀ env.locals h' m' ∧ News h₀ env.locals h' ((I, oI) :: news') ∧ (∀ p ∈ news', @Ne Nat p.1 I) ∧ J (i + 1) m' news') →
        LoopStepU h₀ env.locals [I] own (J (i + 1)) { s with heap := h, toks := tk } .next s₂ := by
      rintro zz; refine X4_5 zz ?_; clear zz; rintro h' tk' m' news' e F' N' ne' hj'
      refine ⟨rfl, Y4_5 h' tk' m' news' e F' (fun q hq => ?_) (fun q hq hm => ne' q hq (List.mem_singleton.mp hm)) hj'⟩
      rcases List.mem_append.mp hq with hq | hq
      · by_cases qI : q.1 = I
        · have e1 := hog q hq
          rw [qI] at e1
          have e2 : oI = q.2 := Option.some.inj (hoI.symm.trans e1)
          have : q = (I, oI) := Prod.ext qI e2.symm
          exact this ▸ N' _ (.head _)
        · have a := hJ _ _ _ hj q.1 (hof q hq) qI (N₁ q (List.mem_append_left _ hq)).2.2
          have b := hJ _ _ _ hj' q.1 (hof q hq) qI (N₁ q (List.mem_append_left _ hq)).2.2
          have e1 := (N₁ _ (List.mem_append_right _ a)).1
          have e2 : ob q.1 = q.2 := Option.some.inj (e1.symm.trans (hog q hq))
          have : q = (q.1, ob q.1) := Prod.ext rfl e2.symm
          exact this ▸ N' _ (.tail _ b)
      · exact N' _ (.tail _ hq)
    cases f with
    | ret v => exact .ret p
    | brk => exact .brk p
    | next => exact .next (fin p)
    | cont => exact .cont (fin p)
  · intro h' tk m' news' F' N' hnw hj
    exact done m' news' h' tk hj (fun p hp e => hnw p hp (List.mem_singleton.mpr e)) F' N'
theorem loopL {l : Addr} {vs : List Value} {k : Nat} (hh : A.handled = none) (F : Fr h₀ env.locals s.heap m₀) (N : News h₀ env.locals s.heap news) (hl : (l, lstN vs k) ∈ news)
    (J : Nat → (Str → Option Value) → Led → Prop) (hJ : ∀ i m n, J i m n → (l, lstN vs k) ∈ n) (h0 : J 0 m₀ news)
    (turn : ∀ i v m₁ news₁ h tk I oI, vs[i]? = some v → J i m₁ news₁ → (∀ p ∈ news₁, @Ne Nat p.1 I) → Fr h₀ env.locals h (fun y => if y = x then some v else m₁ y) → News h₀ env.locals h ((I, oI) :: news₁) →
      wpAny (model prog w) A (execs body env) (TurnEnd h₀ env.locals I oI (J (i + 1)) { s with heap := h, toks := tk } Q) E { s with heap := h, toks := tk })
    (done : ∀ m₁ news₁ h tk, J vs.length m₁ news₁ → Fr h₀ env.locals h m₁ → News h₀ env.locals h news₁ → Q .next { s with heap := h, toks := tk }) :
    wpAny (model prog w) A (pyIter (.ref l)) (fun it s₂ => LoopAtV prog w A h₀ env x body Q E it s₂) E s := by
  have hls := News.isList N hl
  have hne : l ≠ s.heap.objs.size := Nat.ne_of_lt (Heap.lt_size (N _ hl).1)
  refine wpAny_pyIter_list hls ?_
  have W := Walks.list (prog := prog) (w := w) hh s.heap.objs.size l hne vs.toArray
  refine loopW W ⟨Y1_3 _ (Heap.get?_push_size _ rfl) rfl rfl, hls.at fun o e => Heap.get?_push_of_some _ e⟩ (F.push _) (fun p hp => ⟨Heap.get?_push_of_some _ (N p hp).1, (N p hp).2⟩) ⟨_, Heap.get?_push_size _ rfl⟩ (next_is_new F)
    (fun p hp => Nat.ne_of_lt (Heap.lt_size (N p hp).1)) (fun b hb => ?_) J (fun _ => lstN vs k) (fun i m n hj b hb hbI hn => ?_) h0 (fun i h st => ?_) ?_ ?_
  · rcases List.mem_cons.mp hb with rfl | hb
    · exact Nat.ne_of_gt F.ns.lt
    · rw [List.mem_singleton.mp hb]; exact (N _ hl).2.1
  · rcases List.mem_cons.mp hb with rfl | hb
    · exact absurd rfl hbI
    · rw [List.mem_singleton.mp hb]; exact hJ _ _ _ hj
  · refine X1_2 st.1 fun o ho _ => ?_; exact ⟨o, ho⟩
  · intro i v m₁ news₁ h tk oI hi hP hj ne F₁ N₁
    exact turn i v m₁ news₁ h tk _ oI (by simpa using hP) hj ne F₁ N₁
  · intro m₁ news₁ h tk hj _ F₁ N₁
    exact done m₁ news₁ h tk (by simpa using hj) F₁ N₁
theorem loopB {b : Array UInt8} {tb : Tok} (hh : A.handled = none) (F : Fr h₀ env.locals s.heap m₀) (N : News h₀ env.locals s.heap news)
    (J : Nat → (Str → Option Value) → Led → Prop) (h0 : J 0 m₀ news)
    (turn : ∀ i c t m₁ news₁ h tk I oI, b.toList[i]? = some c → J i m₁ news₁ → (∀ p ∈ news₁, @Ne Nat p.1 I) → Fr h₀ env.locals h (fun y => if y = x then some (.int (c.toNat : Int) t) else m₁ y) → News h₀ env.locals h ((I, oI) :: news₁) →
      wpAny (model prog w) A (execs body env) (TurnEnd h₀ env.locals I oI (J (i + 1)) { s with heap := h, toks := tk } Q) E { s with heap := h, toks := tk })
    (done : ∀ m₁ news₁ h tk, J b.size m₁ news₁ → Fr h₀ env.locals h m₁ → News h₀ env.locals h news₁ → Q .next { s with heap := h, toks := tk }) :
    wpAny (model prog w) A (pyIter (.bytes b tb)) (fun it s₂ => LoopAtV prog w A h₀ env x body Q E it s₂) E s := by
  refine KBw.pyIter_bytes ?_
  have W := KBw.walks (prog := prog) (w := w) hh s.heap.objs.size b tb
  refine loopW W (Y1_3 _ (Heap.get?_push_size _ rfl) rfl rfl) (F.push _) (fun p hp => ⟨Heap.get?_push_of_some _ (N p hp).1, (N p hp).2⟩) ⟨_, Heap.get?_push_size _ rfl⟩ (next_is_new F)
    (fun p hp => Nat.ne_of_lt (Heap.lt_size (N p hp).1)) (fun c hb => ?_) J (fun _ => tup []) (fun i m n hj c hb hbI hn => ?_) h0 (fun i h st => ?_) ?_ ?_
  · rw [List.mem_singleton.mp hb]; exact Nat.ne_of_gt F.ns.lt
  · exact absurd (List.mem_singleton.mp hb) hbI
  · refine X1_2 st ?_; clear st; rintro o ho _; exact ⟨o, ho⟩
  · rintro i v m₁ news₁ h tk oI hi zz; refine X2_2 zz ?_; clear zz; rintro c u hc rfl; rintro hj ne F₁ N₁
    exact turn i c u m₁ news₁ h tk _ oI (by simpa using hc) hj ne F₁ N₁
  · intro m₁ news₁ h tk hj _ F₁ N₁
    exact done m₁ news₁ h tk hj F₁ N₁
end
end
section
section
variable {w : World} {c : Cx w} {n : Led} {l : Fm} {rest : List Stmt} {Q : Flow → Shared → Prop} {sc : Scope} {d u : Nat} {b : Bool}
theorem news_sub_mid {g h : Heap} {L : Addr} {x : Addr × Obj} {hid n : Led} (N : News g L h ((x :: hid) ++ n)) : News g L h (hid ++ n) := fun p hp => N p (.tail _ hp)
noncomputable def Cx.hide {w : World} (c : Cx w) (I : Addr) (oI : Obj) : Cx w :=
  { c with
    V := fun l m hid' => ∃ hid, c.V l m hid ∧ hid' = (I, oI) :: hid ∧ ∀ p ∈ hid, @Ne Nat p.1 I
    rd := fun {l m hid n h x v} hV F N hx => by
      refine X1_3 hV ?_; clear hV; rintro hid hV rfl hne
      exact c.rd hV F (news_sub_mid N) hx
    ce := fun hd {l m hid x} hV hx => by
      refine X1_3 hV ?_; clear hV; rintro hid hV rfl hne
      refine X2_3 (c.ce hd hV hx) fun a o h1 h2 h3 => ?_
      exact Y2_3 a o h1 (.tail _ h2) h3
    st := fun hd {l m hid n h x v} hV F N O hx A E Q s es k => by
      refine X1_3 hV ?_; clear hV; rintro hid hV rfl hne
      refine c.st hd hV F (n := (I, oI) :: n) (fun p hp => N p ?_) (fun p hp q hq => ?_) hx A E Q s es fun h' tk' m' hid' a b d e => ?_
      · rcases List.mem_append.mp hp with hp | hp
        · exact .tail _ (List.mem_append_left _ hp)
        · rcases List.mem_cons.mp hp with rfl | hp
          · exact .head _
          · exact .tail _ (List.mem_append_right _ hp)
      · rcases List.mem_cons.mp hq with rfl | hq
        · exact hne p hp
        · exact O p (.tail _ hp) q hq
      · refine k h' tk' m' ((I, oI) :: hid') (Y1_3 hid' a rfl (fun p hp => e p hp _ (.head _))) b (fun p hp => d p ?_) fun p hp q hq => ?_
        · rcases List.mem_cons.mp hp with rfl | hp
          · exact List.mem_append_right _ (.head _)
          · rcases List.mem_append.mp hp with hp | hp
            · exact List.mem_append_left _ hp
            · exact List.mem_append_right _ (.tail _ hp)
        · rcases List.mem_cons.mp hp with rfl | hp
          · exact O _ (.head _) q hq
          · exact e p hp q (.tail _ hq)
    sl := fun hd {l m hid x v} hV hx hk => by
      refine X1_3 hV ?_; clear hV; rintro hid hV rfl hne
      exact Y1_3 hid (c.sl hd hV hx hk) rfl hne
    lo := c.lo
    mu := fun {l m hid m' hid'} h h' => by
      refine X1_2 h ?_; clear h; rintro _ h1 _
      refine X1_2 h' ?_; clear h'; rintro _ h2 _
      exact c.mu h1 h2 }
theorem Wk.hide {I : Addr} {oI : Obj} (h : Wk c sc d u b) : Wk (c.hide I oI) sc d u b := ⟨h.sc, h.dp, h.un, h.dfn⟩
structure Tn {w : World} (c : Cx w) (Q : Flow → Shared → Prop) (sc : Scope) (d u : Nat) (ci : Cx w) (TQ : Flow → Shared → Prop) (J : Led → Fm → Prop) : Prop where
  wk : Wk ci sc d u true
  next : ∀ n' l', J n' l' → Go ci n' l' TQ .next
  ret : ∀ n' l' v, Go c n' l' Q (.ret v) → Go ci n' l' TQ (.ret v)
  out : ∀ n' l' h, Hp ci n' l' h → Hp c n' l' h
  err : ci.E = c.E
  st : ci.s = c.s
theorem hide_out {I : Addr} {oI : Obj} {n : Led} {l : Fm} {h : Heap} (H : Hp (c.hide I oI) n l h) : Hp c n l h := by
  obtain ⟨m, _, ⟨hid, hV, rfl, hne⟩, F, N, O⟩ := H
  exact ⟨m, hid, hV, F, news_sub_mid N, fun p hp => O p (.tail _ hp)⟩
noncomputable def LpS {w : World} (c : Cx w) (itv : Value) (cnt : Nat) (P : Nat → Value → Prop) (S : Led → Prop) : Prop :=
  ∀ (x : Str) (body : List Stmt) (Q : Flow → Shared → Prop) (h : Heap) (tk : Tok) (m₀ : Str → Option Value) (news : Led) (J : Nat → (Str → Option Value) → Led → Prop), Fr c.g c.env.locals h m₀ → News c.g c.env.locals h news → (∀ i m n, J i m n → S n) → J 0 m₀ news →
    (∀ i v m₁ news₁ h tk I oI, P i v → J i m₁ news₁ → (∀ p ∈ news₁, @Ne Nat p.1 I) → Fr c.g c.env.locals h (fun y => if y = x then some v else m₁ y) → News c.g c.env.locals h ((I, oI) :: news₁) →
      wpAny (model PR w) c.A (execs body c.env) (TurnEnd c.g c.env.locals I oI (J (i + 1)) { c.s with heap := h, toks := tk } Q) c.E { c.s with heap := h, toks := tk }) →
    (∀ m₁ news₁ h tk, J cnt m₁ news₁ → Fr c.g c.env.locals h m₁ → News c.g c.env.locals h news₁ → Q .next { c.s with heap := h, toks := tk }) →
    wpAny (model PR w) c.A (pyIter itv) (fun it s₂ => LoopAtV PR w c.A c.g c.env x body Q c.E it s₂) c.E { c.s with heap := h, toks := tk }
theorem LpS.list {a : Addr} {vs : List Value} {k : Nat} : LpS c (.ref a) vs.length (fun i v => vs[i]? = some v) fun n => (a, lstN vs k) ∈ n := fun x body Q h tk m₀ news J F N hJ h0 turn done => loopL (s := { c.s with heap := h, toks := tk }) rfl F N (hJ _ _ _ h0) J hJ h0 turn done
theorem LpS.bytes {b : Bs} {t : Tok} : LpS c (.bytes b.toArray t) b.length (fun i v => ∃ x u, b[i]? = some x ∧ v = .int (x.toNat : Int) u) fun _ => True := fun x body Q h tk m₀ news J F N hJ h0 turn done =>
  loopB (s := { c.s with heap := h, toks := tk }) rfl F N J h0 (fun i y t m₁ n₁ h tk I oI e => turn i _ m₁ n₁ h tk I oI (Y2_2 y t e rfl)) done
theorem At.forX {α : Type} {x : Str} {px pos : Pos} {it : PySem.Expr} {body : List Stmt} {cnt : Nat} {P : α → Nat → Value → Prop} {S : α → Led → Prop} (hw : Wk c sc d u true) (J : α → Nat → Led → Fm → Prop) (hit : EvG c n l it fun v n' => ∃ z, LpS c v cnt (P z) (S z) ∧ J z 0 n' l)
    (hJ : ∀ z i n l hid, J z i n l → S z (hid ++ n) ∧ (l.map (·.1)).contains x = true)
    (turn : ∀ z i v n l ci TQ, P z i v → J z i n l → Tn c (Th c rest Q) sc d u ci TQ (J z (i + 1)) → At ci n (put l x v) (execs body ci.env) TQ)
    (done : ∀ z n l, J z cnt n l → At c n l (execs rest c.env) Q) (hx : sc.names.lookup x = some .local) (hs : ∀ (env : Env) x, foldedSetIterable it env x = pure x) : At c n l (execs (.For (.Name x px) it body [] pos :: rest) c.env) Q :=
  .cons fun h' tk' H' => by
    have hl := c.lo hw.dfn
    have hkx : c.env.kindOf x = some .local := by unfold Env.kindOf; rw [hw.sc]; exact hx
    have hf : (c.env.scope.kind == .class || (c.env.scope.kind == .module && c.env.locals != c.env.globals)) = false := by rw [c.ek]; rfl
    refine For_invV c.g hkx hf (hit _ (fun itv n hz h tk H => ?_) h' tk' H') (hs _) (c.po hw.dfn)
    refine X1_2 hz ?_; clear hz; rintro z lp h0
    obtain ⟨m, hid, hV, F, N, O⟩ := H
    rw [← hl] at F N
    refine lp x body _ h tk m (hid ++ n) (fun i m news => ∃ l n hid, c.V l m hid ∧ news = hid ++ n ∧ Off hid n ∧ J z i n l) F N (fun i m news hj => ?_) (Y3_4 l n hid hV rfl O h0) ?_ ?_
    · refine X3_4 hj ?_; clear hj; rintro l n hid hV rfl O hj
      exact (hJ z i n l hid hj).1
    · rintro i v m₁ _ h tk I oI hv zz; refine X3_4 zz ?_; clear zz; rintro l n hid hV rfl O hj; rintro ne F1 N1
      rw [hl] at F1 N1 ⊢
      have V1 := c.sl hw.dfn (v := v) hV (by simpa using (hJ z i n l hid hj).2) hkx
      refine turn z i v n l (c.hide I oI) (TurnEnd c.g c.L I oI (fun m news => ∃ l n hid, c.V l m hid ∧ news = hid ++ n ∧ Off hid n ∧ J z (i + 1) n l) _ _) hv hj ⟨hw.hide, ?_, ?_, fun n' l' h H => hide_out H, rfl, rfl⟩ h tk ⟨_, _, Y1_3 hid V1 rfl (fun p hp => ne p (List.mem_append_left _ hp)), F1, N1, ?_⟩
      · rintro n' l' hj' h2 tk2 zz; obtain ⟨m2, _, ⟨hid2, hV2, rfl, hne2⟩, F2, N2, O2⟩ := zz
        exact ⟨h2, tk2, m2, hid2 ++ n', rfl, F2, N2, fun p hp => by
          rcases List.mem_append.mp hp with hp | hp
          · exact hne2 p hp
          · exact Ne.symm (O2 _ (.head _) p hp), l', n', hid2, hV2, rfl, fun p hp => O2 p (.tail _ hp), hj'⟩
      · intro n' l' v' g h2 tk2 H2
        exact g h2 tk2 (hide_out H2)
      · intro p hp q hq
        rcases List.mem_cons.mp hp with rfl | hp
        · exact Ne.symm (ne q (List.mem_append_right _ hq))
        · exact O p hp q hq
    · rintro m₁ _ h tk zz; refine X3_4 zz ?_; clear zz; rintro l n hid hV rfl O hj; rintro F1 N1
      rw [hl] at F1 N1
      exact done z n l hj h tk ⟨m₁, hid, hV, F1, N1, O⟩
theorem At.forL {x : Str} {px pos : Pos} {it : PySem.Expr} {body : List Stmt} {a : Addr} {vs : List Value} {k : Nat} (hw : Wk c sc d u true) (hit : EvP c n l it (.ref a)) (_ : (a, lstN vs k) ∈ n) (J : Nat → Led → Fm → Prop) (h0 : J 0 n l)
    (hJ : ∀ i n l, J i n l → (a, lstN vs k) ∈ n ∧ (l.map (·.1)).contains x = true)
    (turn : ∀ i v n l ci TQ, vs[i]? = some v → J i n l → Tn c (Th c rest Q) sc d u ci TQ (J (i + 1)) → At ci n (put l x v) (execs body ci.env) TQ)
    (done : ∀ n l, J vs.length n l → At c n l (execs rest c.env) Q) (hx : sc.names.lookup x = some .local := by rfl)
    (hs : ∀ (env : Env) x, foldedSetIterable it env x = pure x := by intro _ _; rfl) : At c n l (execs (.For (.Name x px) it body [] pos :: rest) c.env) Q :=
  .forX (α := Unit) (P := fun _ i v => vs[i]? = some v) (S := fun _ n => (a, lstN vs k) ∈ n) hw (fun _ => J) (hit.g (Y1_2 () LpS.list h0)) (fun _ i n l hid h => ⟨List.mem_append_right _ (hJ i n l h).1, (hJ i n l h).2⟩) (fun _ => turn) (fun _ => done) hx hs
theorem At.forB {x : Str} {px pos : Pos} {it : PySem.Expr} {body : List Stmt} {b : Bs} (hw : Wk c sc d u true) (hit : EvR c n l it (BW b)) (J : Nat → Led → Fm → Prop) (h0 : J 0 n l) (hJ : ∀ i n l, J i n l → (l.map (·.1)).contains x = true)
    (turn : ∀ i y v n l ci TQ, b[i]? = some y → IV (y.toNat : Int) v → J i n l → Tn c (Th c rest Q) sc d u ci TQ (J (i + 1)) → At ci n (put l x v) (execs body ci.env) TQ)
    (done : ∀ n l, J b.length n l → At c n l (execs rest c.env) Q) (hx : sc.names.lookup x = some .local := by rfl)
    (hs : ∀ (env : Env) x, foldedSetIterable it env x = pure x := by intro _ _; rfl) : At c n l (execs (.For (.Name x px) it body [] pos :: rest) c.env) Q :=
  .forX (α := Unit) (P := fun _ i v => ∃ x u, b[i]? = some x ∧ v = .int (x.toNat : Int) u) (S := fun _ _ => True) hw (fun _ => J) (hit.g fun v hv => by obtain ⟨t, rfl⟩ := hv; exact Y1_2 () LpS.bytes h0) (fun _ i n l hid h => ⟨trivial, hJ i n l h⟩) (fun _ i v n l ci TQ hv => by refine X2_2 hv ?_; clear hv; rintro y u e rfl; exact turn i y _ n l ci TQ e ⟨u, rfl⟩) (fun _ => done) hx hs
end
end
section
section
variable {w : World} {c : Cx w} {n : Led} {l : Fm} {rest : List Stmt} {Q : Flow → Shared → Prop} {sc : Scope} {d u : Nat} {b : Bool}
noncomputable def cloOf (scope : Scope) (env : Env) : List (Str × Addr) := (scope.names.filterMap fun p => if p.2 == .free then (env.cells.lookup p.1).map fun a => (p.1, a) else none).reverse
noncomputable def freeOf (sc : Scope) : List Str := sc.names.filterMap fun p => if p.2 == .free then some p.1 else none
noncomputable def rst (l : Fm) (fr : List Str) : Fm := fr.map fun y => (y, frm l y)
noncomputable def relS (scope sc : Scope) : Scope := { scope with names := scope.names.map fun p => if (p.2 == .free && sc.kind == .function && sc.names.lookup p.1 == some .cell) then (p.1, .cell) else (p.1, p.2) }
theorem rst_frm {l : Fm} {y : Str} {v : Value} : ∀ {fr : List Str}, frm (rst l fr) y = some v → y ∈ fr ∧ frm l y = some v
  | [], h => by cases h
  | x :: r, h => by
    unfold rst at h
    rw [List.map_cons] at h
    unfold frm at h
    by_cases e : y = x
    · subst e; rw [if_pos rfl] at h; exact ⟨.head _, h⟩
    · rw [if_neg e] at h; exact ⟨.tail _ (rst_frm h).1, (rst_frm h).2⟩
theorem free_mem {sc : Scope} {y : Str} (h : y ∈ freeOf sc) : (y, NameKind.free) ∈ sc.names := by
  refine X1_2 (List.mem_filterMap.mp h) fun p hp e => ?_
  obtain ⟨z, k⟩ := p
  by_cases hk : (k == NameKind.free) = true
  · have : k = .free := by simpa using hk
    subst this
    simp at e
    subst e
    exact hp
  · simp [hk] at e
theorem closure_go {env : Env} : ∀ (ns : List (Str × NameKind)) (acc : List (Str × Addr)), (∀ y, (y, NameKind.free) ∈ ns → ∃ a, env.cells.lookup y = some a) →
    (forIn ns acc (fun (x : Str × NameKind) (r : List (Str × Addr)) => (if x.2 == .free then do
        let a ← cellOf env x.1
        pure (ForInStep.yield ((x.1, a) :: r)) else pure (ForInStep.yield r)) : _) : Sem (List (Str × Addr))) = pure ((ns.filterMap fun p => if p.2 == .free then (env.cells.lookup p.1).map fun a => (p.1, a) else none).reverse ++ acc)
  | [], acc, _ => by simp
  | (y, k) :: r, acc, h => by
    rw [List.forIn_cons]
    by_cases hk : (k == NameKind.free) = true
    · have hk' : k = .free := by simpa using hk
      subst hk'
      obtain ⟨a, ha⟩ := h y (.head _)
      have e1 : cellOf env y = pure a := by unfold cellOf; rw [ha]
      simp only [beq_self_eq_true, if_true, e1]
      refine Eq.trans ?_ (Eq.trans (closure_go r ((y, a) :: acc) fun z hz => h z (.tail _ hz)) ?_)
      · rfl
      · simp [List.filterMap_cons, ha]
    · have : (k == NameKind.free) = false := by simpa using hk
      simp only [this, Bool.false_eq_true, if_false]
      refine Eq.trans ?_ (Eq.trans (closure_go r acc fun z hz => h z (.tail _ hz)) ?_)
      · rfl
      · have hk'' : k ≠ .free := by simpa using this
        simp [List.filterMap_cons, hk'']
theorem closure_eq {env : Env} {scope : Scope} (h : ∀ y, (y, NameKind.free) ∈ scope.names → ∃ a, env.cells.lookup y = some a) :
    closureFor scope env = pure ((scope.names.filterMap fun p => if p.2 == .free then (env.cells.lookup p.1).map fun a => (p.1, a) else none).reverse) := by
  have e := closure_go scope.names [] h
  rw [List.append_nil] at e
  unfold closureFor
  exact congrArg (fun t => t >>= fun x => (pure x : Sem _)) e
theorem free_lookup {names : List (Str × NameKind)} {env : Env} {y : Str} {a : Addr} (h : (y, NameKind.free) ∈ names) (ha : env.cells.lookup y = some a) :
    ((names.filterMap fun p => if p.2 == .free then (env.cells.lookup p.1).map fun a => (p.1, a) else none).reverse).lookup y = some a := by
  have hm : ∀ p ∈ (names.filterMap fun p => if p.2 == .free then (env.cells.lookup p.1).map fun a => (p.1, a) else none).reverse, env.cells.lookup p.1 = some p.2 := fun p hp => by
    refine X1_2 (List.mem_filterMap.mp (List.mem_reverse.mp hp)) fun q hq e => ?_
    split at e
    · refine X1_2 (Option.map_eq_some_iff.mp e) ?_; rintro b h1 rfl
      exact h1
    · cases e
  have hy : (y, a) ∈ (names.filterMap fun p => if p.2 == .free then (env.cells.lookup p.1).map fun a => (p.1, a) else none).reverse :=
    List.mem_reverse.mpr (List.mem_filterMap.mpr (Y1_2 _ h (by simp [ha])))
  generalize (names.filterMap fun p => if p.2 == .free then (env.cells.lookup p.1).map fun a => (p.1, a) else none).reverse = k at hm hy
  induction k with
  | nil => cases hy
  | cons p r ih =>
    obtain ⟨z, b⟩ := p
    rw [List.lookup_cons]
    by_cases e : y = z
    · subst e
      have := hm _ (.head _)
      rw [ha] at this
      simpa using (Option.some.inj this).symm
    · have e1 : (y == z) = false := by simpa using e
      rw [e1]
      refine ih (fun p hp => hm p (.tail _ hp)) ?_
      rcases List.mem_cons.mp hy with q | q
      · exact absurd (Prod.mk.inj q).1 e
      · exact q
theorem rel_lookup {env : Env} {y : Str} : ∀ {ns : List (Str × NameKind)} {k : NameKind}, ns.lookup y = some k →
    (ns.map fun p => if (p.2 == .free && env.scope.kind == .function && env.kindOf p.1 == some .cell) then (p.1, NameKind.cell) else (p.1, p.2)).lookup y = some (if (k == .free && env.scope.kind == .function && env.kindOf y == some .cell) then .cell else k)
  | [], k, h => by simp at h
  | (x, j) :: r, k, h => by
    rw [List.lookup_cons] at h
    rw [List.map_cons]
    by_cases e : y = x
    · subst e
      simp at h
      subst h
      split <;> simp_all
    · have e1 : (y == x) = false := by simpa using e
      rw [e1] at h
      have := rel_lookup (env := env) h
      split <;> (rw [List.lookup_cons]; simp only [e1]; exact this)
theorem rel_eq {scope sc : Scope} {env : Env} (h : env.scope = sc) : relabel scope env = relS scope sc := by
  subst h
  rfl
noncomputable def Cx.comp {w : World} (c : Cx w) (hd : c.dfn = true) {l : Fm} {m : Str → Option Value} {hid : Led} (hV : c.V l m hid) (scope : Scope) (C : Addr) (oC : Obj) (m₂ : Str → Option Value) (own : Led) (E' : Value → Shared → Prop) (bs : List (Str × Value))
    (hk : scope.kind = .function) (ho : (C, oC) ∈ own) (hC : LCg.NsObj oC m₂) (hb : ∀ y v, (bs.map fun p => (p.1, some p.2)).lookup y = some (some v) → m₂ y = some v ∧ scope.names.lookup y = some .local)
    (hf : ∀ y, (y, NameKind.free) ∈ scope.names → scope.names.lookup y = some .free ∧ (y == ("__classdict__" : Str)) = false ∧ (c.env.kindOf y = some .cell ∨ c.env.kindOf y = some .free)) : Cx w :=
  { c with
    env := compEnvC scope (cloOf scope c.env) C c.env
    E := E'
    dfn := false
    V := fun l' m' hid' => l' = (bs.map fun p => (p.1, some p.2)) ++ rst l (freeOf scope) ∧ m' = m ∧ hid' = own ++ hid
    ek := hk, eg := c.eg, eb := c.eb
    rd := fun {l' m' hid' n h x v} hV' F N hx A E Q s es q => by
      subst es
      refine X0_3 hV' ?_; clear hV'; rintro rfl rfl rfl
      rw [frm_lookup, List.lookup_append] at hx
      cases e : (bs.map fun p => (p.1, some p.2)).lookup x with
      | some o =>
        rw [e] at hx
        have : o = some v := hx
        subst this
        obtain ⟨h1, h2⟩ := hb x v e
        exact wpAny_loadName_local hk (lookup_relabel_local h2) (hC.ns (N.get (List.mem_append_left _ (List.mem_append_left _ ho)))) h1 q
      | none =>
        rw [e, Option.none_or, ← frm_lookup] at hx
        obtain ⟨h1, h2⟩ := rst_frm hx
        have h3 := free_mem h1
        refine X0_3 (hf x h3) fun f1 f2 f3 => ?_
        refine X2_3 (c.ce hd hV f3) fun a o q1 q2 q3 => ?_
        have hcell := N.get (List.mem_append_left _ (List.mem_append_right _ q2))
        have hk2 := rel_lookup (env := c.env) f1
        rcases f3 with f3 | f3
        · refine wpAny_loadName_cell hk (by refine hk2.trans ?_; rw [f3, c.ek]; rfl) (free_lookup h3 q1) (Y1_2 o hcell (by rw [q3, h2])) q
        · refine wpAny_loadName_free hk (by refine hk2.trans ?_; rw [f3]; simp) (free_lookup h3 q1) (Y1_2 o hcell (by rw [q3, h2])) q f2
    ce := fun h => by cases h
    st := fun h => by cases h
    sl := fun h => by cases h
    lo := fun h => by cases h
    mu := fun h h' => h.2.1.trans h'.2.1.symm
    po := fun h => by cases h }
end
end
section
section
open LCg
variable {w : World} {c : Cx w} {n : Led} {l : Fm} {sc : Scope} {d u : Nat}
noncomputable def CsOkB (scope sc : Scope) : Bool :=
  (scope.kind == .function) && scope.names.all (fun p => p.2 != .cell && (scope.names.lookup p.1 == some p.2)) && (freeOf scope).all fun y => !(y == ("__classdict__" : Str)) && (sc.names.lookup y == some .cell || sc.names.lookup y == some .free)
noncomputable def CsOk (scope sc : Scope) : Prop := CsOkB scope sc = true
theorem CsOk.kind {scope sc : Scope} (h : CsOk scope sc) : scope.kind = .function := by
  unfold CsOk CsOkB at h
  simp only [Bool.and_eq_true] at h
  simpa using h.1.1
theorem CsOk.cell {scope sc : Scope} (h : CsOk scope sc) : ∀ y ∈ scope.names, y.2 ≠ .cell := fun y hy => by
  unfold CsOk CsOkB at h
  simp only [Bool.and_eq_true] at h
  have := List.all_eq_true.mp h.1.2 y hy
  simp only [Bool.and_eq_true] at this
  simpa using this.1
theorem CsOk.look {scope sc : Scope} (h : CsOk scope sc) : ∀ y ∈ scope.names, scope.names.lookup y.1 = some y.2 := fun y hy => by
  unfold CsOk CsOkB at h
  simp only [Bool.and_eq_true] at h
  have := List.all_eq_true.mp h.1.2 y hy
  simp only [Bool.and_eq_true] at this
  simpa using this.2
theorem CsOk.free {scope sc : Scope} {env : Env} (h : CsOk scope sc) (hs : env.scope = sc) : ∀ y, (y, NameKind.free) ∈ scope.names → scope.names.lookup y = some .free ∧ (y == ("__classdict__" : Str)) = false ∧ (env.kindOf y = some .cell ∨ env.kindOf y = some .free) := fun y hy => by
  refine ⟨h.look _ hy, ?_⟩
  unfold CsOk CsOkB at h
  simp only [Bool.and_eq_true] at h
  have hm : y ∈ freeOf scope := List.mem_filterMap.mpr (Y1_2 _ hy (by simp))
  have := List.all_eq_true.mp h.2 y hm
  simp only [Bool.and_eq_true, Bool.or_eq_true] at this
  unfold Env.kindOf
  rw [hs]
  exact ⟨by simpa using this.1, by simpa using this.2⟩
theorem closure_ok {scope : Scope} (hw : Wk c sc d u true) (hs : CsOk scope sc) {m : Str → Option Value} {hid : Led} (hV : c.V l m hid) :
    closureFor scope c.env = pure (cloOf scope c.env) :=
  closure_eq fun y hy => by
    refine X2_2 (c.ce hw.dfn hV (hs.free hw.sc y hy).2.2) fun a o h1 _ => ?_
    exact ⟨a, h1⟩
end
end
section
section
open LCg
variable {w : World} {c : Cx w} {n : Led} {l : Fm} {sc : Scope} {d u : Nat}
theorem ite_tt {P R : Prop} (h : P) : if true = true then P else R := h
theorem ite_ff {P R : Prop} (h : R) : if false = true then P else R := h
noncomputable def TstL {w : World} (c : Cx w) (n : Led) (l : Fm) (ifs : List PySem.Expr) (p : Prop) : Prop := ∀ Q, (p → Go c n l Q true) → (¬ p → Go c n l Q false) →
  At c n l (forIn ifs true fun ct r => if r = true then do let ok ← isTrue ct c.env (eval ct c.env); pure (ForInStep.yield ok) else pure (ForInStep.yield r)) Q
theorem TstL.nil : TstL c n l [] True := fun _ k _ h tk H => wpAny_tests_nil (k trivial h tk H)
theorem TstL.one {ct : PySem.Expr} {p : Prop} (h : Tst c n l ct p) : TstL c n l [ct] p := fun Q k1 k2 h' tk H => wpAny_tests_one (h Q k1 k2 h' tk H)
theorem comp_loop {elt iter tgt : PySem.Expr} {ifs : List PySem.Expr} {scope : Scope} {pos : Pos} {it acc : Value} {env : Env} {prog : Program} {A : Around} {s : Shared} {R : Result → Shared → Prop} (I : Nat → Shared → Prop)
    (turn : ∀ n s, I n s → wpAny (model prog w) A (pyNext it) (fun r s₁ => match r with
      | none => R (.ok .next) s₁
      | some v => wpAny (model prog w) A (letOwnedTupleGo tgt it v) (fun _ s₁' => wpAny (model prog w) A (assign tgt env v) (fun _ s₂ =>
          wpAny (model prog w) A (forIn ifs true fun c r => if r = true then do let ok ← isTrue c env (eval c env); pure (ForInStep.yield ok) else pure (ForInStep.yield r)) (fun ok s₃ =>
            if ok = true then wpAny (model prog w) A (eval elt env) (fun x s₄ =>
              wpAny (model prog w) A (call (.builtin "list.append") [acc, x]) (fun _ s₅ => ∃ m, m < n ∧ I m s₅) (notedBy (model prog w) A env fun e s' => R (.error e) s') s₄) (notedBy (model prog w) A env fun e s' => R (.error e) s') s₃
            else ∃ m, m < n ∧ I m s₃) (notedBy (model prog w) A env fun e s' => R (.error e) s') s₂)
          (notedBy (model prog w) A env fun e s' => R (.error e) s') s₁') (notedBy (model prog w) A env fun e s' => R (.error e) s') s₁) (notedBy (model prog w) A env fun e s' => R (.error e) s') s)
    (n : Nat) (h : I n s) : codeAny (model prog w) A (.compLoop (.ListComp elt [⟨tgt, iter, ifs, 0⟩] scope pos) 0 it acc env) R s := by
  refine codeAny_loop rfl I (fun n s hI => ?_) n h
  show wpAny _ A ((compTurn (.ListComp elt [⟨tgt, iter, ifs, 0⟩] scope pos) 0 it acc env).onRaise (fun x => do noteFrame x env; theTreesLotGoes x)) _ _ s
  refine wpAny_noted ?_
  rw [compTurn_list]
  refine wpAny_bind (wpAny_standAt (wpAny_bind (wpAny_mono (turn n s hI) (fun r s₁ h₁ => ?_) fun _ _ h' => h')))
  cases r with
  | none => exact wpAny_pure h₁
  | some v =>
    refine wpAny_bind (wpAny_mono h₁ (fun _ s₁' h₁' => ?_) fun _ _ h' => h')
    refine wpAny_bind (wpAny_mono h₁' (fun _ s₂ h₂ => wpAny_bind (wpAny_mono h₂ (fun ok s₃ h₃ => ?_) fun _ _ h' => h')) fun _ _ h' => h')
    cases ok with
    | false => exact wpAny_pure ⟨rfl, h₃⟩
    | true =>
      exact wpAny_bind (wpAny_bind (wpAny_mono h₃ (fun x s₄ h₄ => wpAny_bind (wpAny_mono h₄ (fun _ s₅ h₅ => wpAny_pure (wpAny_pure ⟨rfl, h₅⟩)) fun _ _ h' => h')) fun _ _ h' => h'))
theorem tup_assign {prog : Program} {A : Around} {E : Value → Shared → Prop} {s : Shared} {env : Env} {x y : Str} {px py tp : Pos} {j : Nat} {T : Addr} {a b : Value} {m : Str → Option Value} {Q : Unit → Shared → Prop} (hh : A.handled = none) (ht : s.heap.IsTuple T #[a, b]) (hx : env.kindOf x = some .local) (hy : env.kindOf y = some .local) (hk : env.scope.kind = .function) (hn : s.heap.Ns env.locals m)
    (k : ∀ h', h'.Ns env.locals (fun z => if z = y then some b else if z = x then some a else m z) → (∀ q o, q ≠ env.locals → s.heap.get? q = some o → h'.get? q = some o) → Q () { s with heap := h', toks := s.toks + 1 + 1 }) : wpAny (model prog w) A (PySem.assign (.Tuple [.Name x px, .Name y py] j tp) env (.ref T)) Q E s := by
  refine assign_Tuple_tuple hh (ht : IsTup s.heap T #[a, b]) rfl rfl fun h1 he => ?_
  have he' : ∀ b o, s.heap.get? b = some o → h1.get? b = some o := fun b o e => he b o (Nat.ne_of_lt (Heap.lt_size e)) e
  refine assignInOrder_cons (wpAny_assign_Name (wpAny_storeName_local hx (hn.at' fun o e => he' _ o e) (fun h2 hn2 hs2 => ?_) (by rw [hk]; rfl)))
  refine assignInOrder_cons (wpAny_assign_Name (wpAny_storeName_local hy hn2 (fun h3 hn3 hs3 => ?_) (by rw [hk]; rfl)))
  exact assignInOrder_nil (k h3 hn3 fun q o hq e => hs3.extBut q o hq (hs2.extBut q o hq (he' q o e)))
theorem swaps_yes {elt : PySem.Expr} {gens : List Comprehension} {scope : Scope} {pos py spos : Pos} {y : Str} {env : Env} (hb : env.blockKind = .function) (hy : env.kindOf y = some .local) (hl : (py.line == pos.line) = true) (hn : (scope.names.any fun (n, k) => n == y && (k == .local || k == .cell)) = false) :
    swapsWith (.ListComp elt gens scope pos) (some (.Name y py)) spos.line env = pure true := by
  show (pure (env.blockKind == .function && env.kindOf y == some .local && py.line == pos.line && !(scope.names.any fun (n, k) => n == y && (k == .local || k == .cell))) : Sem Bool) = pure true
  rw [hb, hy, hl, hn]
  rfl
theorem blk_fn {env : Env} (h : env.scope.kind = .function) : env.blockKind = .function := by
  unfold Env.blockKind
  rw [h]
  first | rfl | simp
theorem Hp.drop {C : Addr} {oC : Obj} {m₂ : Str → Option Value} {h : Heap} (hC : NsObj oC m₂) (hn : ∀ q ∈ n, @Ne Nat q.1 C) (H : Hp c ((C, oC) :: n) l h) : ∃ m', h.Ns C m' ∧ ∀ h', Heap.SameBut C h h' → Hp c n l h' := by
  obtain ⟨m, hid, hV, F, N, O⟩ := H
  have NC := N (C, oC) (List.mem_append_right _ (.head _))
  refine Y1_2 m₂ (hC.ns NC.1) (fun h' hs => ⟨m, hid, hV, F.change hs NC.2.1 NC.2.2, fun p hp => ?_, fun p hp q hq => O p hp q (.tail _ hq)⟩)
  rcases List.mem_append.mp hp with hp | hp
  · have := N p (List.mem_append_left _ hp)
    exact ⟨hs.extBut _ _ (O p hp _ (.head _)) this.1, this.2⟩
  · have := N p (List.mem_append_right _ (.tail _ hp))
    exact ⟨hs.extBut _ _ (hn p hp) this.1, this.2⟩
noncomputable def frCp (xs : List Str) (vals : List Value) (l : Fm) (fr : List Str) : Fm := ((xs.zip vals).map fun p => (p.1, some p.2)) ++ rst l fr
theorem look_map {y : Str} {v : Value} : ∀ {bs : List (Str × Value)}, (bs.map fun p => (p.1, some p.2)).lookup y = some (some v) → bs.lookup y = some v
  | [], h => by simp at h
  | (x, u) :: r, h => by
    rw [List.map_cons, List.lookup_cons] at h
    rw [List.lookup_cons]
    cases e : y == x with
    | true => rw [e] at h; exact Option.some.inj h
    | false => rw [e] at h; exact look_map h
theorem zip_fst {xs : List Str} {vals : List Value} {y : Str} {v : Value} (h : (xs.zip vals).lookup y = some v) : y ∈ xs := (List.of_mem_zip (lookup_mem h)).1
theorem comp_stepN {scope : Scope} {xs : List Str} {vals : List Value} {h : Heap} {tk : Tok} {α : Type} (hw : Wk c sc d u true) (hs : CsOk scope sc) (hxs : ∀ x ∈ xs, scope.names.lookup x = some .local) {m : Str → Option Value} {hid : Led} (hV : c.V l m hid) (O : Off hid n) (F : Fr c.g c.L h m) {own : Led} {C : Addr} {oC : Obj} {m₂ : Str → Option Value}
    (hC : NsObj oC m₂) (hv : ∀ y v, (xs.zip vals).lookup y = some v → m₂ y = some v) (hm : (C, oC) ∈ own) (N : News c.g c.L h ((own ++ hid) ++ n)) (off : Off own n) {E' : Value → Shared → Prop} {t : Env → Sem α} {Q : α → Shared → Prop}
    (k : ∀ c2 : Cx w, Wk c2 (relS scope sc) d u false → c2.s = c.s → c2.env = compEnvC scope (cloOf scope c.env) C c.env → c2.E = E' → c2.A = c.A →
      (∀ (n' : Led) (h' : Heap), Hp c2 n' (frCp xs vals l (freeOf scope)) h' → Fr c.g c.L h' m ∧ News c.g c.L h' ((own ++ hid) ++ n') ∧ Off own n' ∧ Off hid n') → At c2 n (frCp xs vals l (freeOf scope)) (t c2.env) Q) :
    wpAny (model PR w) c.A (t (compEnvC scope (cloOf scope c.env) C c.env)) Q E' { c.s with heap := h, toks := tk } := by
  let c2 := c.comp hw.dfn hV scope C oC m₂ own E' (xs.zip vals) hs.kind hm hC (fun y v e => ⟨hv y v (look_map e), hxs y (zip_fst (look_map e))⟩) (hs.free hw.sc)
  refine k c2 ⟨rel_eq hw.sc, hw.dp, hw.un, rfl⟩ rfl rfl rfl rfl ?_ h tk ⟨m, _, Y0_3 rfl rfl rfl, F, N, fun p hp q hq => ?_⟩
  · rintro n' h' zz; obtain ⟨m', hid', ⟨_, rfl, rfl⟩, F', N', O'⟩ := zz
    exact Y0_4 F' N' (fun p hp => O' p (List.mem_append_left _ hp)) (fun p hp => O' p (List.mem_append_right _ hp))
  · rcases List.mem_append.mp hp with hp | hp
    · exact off p hp q hq
    · exact O p hp q hq
structure Stp (w : World) (A : Around) (tgt : PySem.Expr) (xs : List Str) (I : Addr) (fp wr : List Addr) (cnt : Nat) (val : Nat → List Value → Prop) (St : Nat → Heap → Prop) : Prop where
  frame : ∀ i h h', St i h → (∀ b ∈ fp, ∀ o, h.get? b = some o → h'.get? b = some o) → St i h'
  step : ∀ i (s : Shared) (C : Addr) (m₁ : Str → Option Value) (env : Env) (Q : Unit → Shared → Prop) (E : Value → Shared → Prop), i < cnt → St i s.heap → s.heap.Ns C m₁ → C ∉ fp → env.locals = C → env.scope.kind = .function → (∀ x ∈ xs, env.kindOf x = some .local) →
    (∀ vals h' tk' m₂, val i vals → St (i + 1) h' → h'.Ns C m₂ → (∀ y v, (xs.zip vals).lookup y = some v → m₂ y = some v) → (∀ b o, b ∉ wr → b ≠ C → s.heap.get? b = some o → h'.get? b = some o) → Q () { s with heap := h', toks := tk' }) →
    wpAny (model PR w) A (pyNext (.ref I)) (fun r s₁ => match r with | none => False | some v => wpAny (model PR w) A (letOwnedTupleGo tgt (.ref I) v) (fun _ s₂ => wpAny (model PR w) A (PySem.assign tgt env v) Q E s₂) E s₁) E s
  done : ∀ (s : Shared) (Q : Option Value → Shared → Prop) (E : Value → Shared → Prop), St cnt s.heap → (∀ h' tk', (∀ b o, b ∉ wr → s.heap.get? b = some o → h'.get? b = some o) → Q none { s with heap := h', toks := tk' }) → wpAny (model PR w) A (pyNext (.ref I)) Q E s
  self : ∀ i (s : Shared) (Q : Value → Shared → Prop) (E : Value → Shared → Prop), St i s.heap → Q (.ref I) s → wpAny (model PR w) A (pyIter (.ref I)) Q E s
theorem Stp.one {A : Around} {I : Addr} {fp wr : List Addr} {cnt : Nat} {P : Nat → Value → Prop} {St : Nat → Heap → Prop} {x : Str} {px : Pos} (W : Walks PR w A I fp wr cnt P St) : Stp w A (.Name x px) [x] I fp wr cnt (fun i vals => ∃ v, P i v ∧ vals = [v]) St where
  frame := W.frame
  step := fun i s C m₁ env Q E hi st hn hC hl hk hx k => W.item i _ _ _ hi st fun v h' tk hP st' hk' => by
    subst hl
    have hw : env.locals ∉ wr := fun e => hC (W.sub _ e)
    refine wpAny_pure (wpAny_assign_Name (wpAny_storeName_local (hx x (.head _)) (hn.at' fun o e => hk' _ o hw e) (fun h₂ hn₂ hs₂ => ?_) (by rw [hk]; rfl)))
    refine k [v] h₂ _ _ (Y1_2 v hP rfl) (W.frame _ _ _ st' fun b hb o e => hs₂.extBut b o (fun q => hC (q ▸ hb)) e) hn₂ (fun y u e => ?_) fun b o hb hn e => hs₂.extBut b o hn (hk' b o hb e)
    rw [List.zip_cons_cons, List.zip_nil_left, List.lookup_cons] at e
    cases q : y == x with
    | true => rw [q] at e; rw [if_pos (by simpa using q)]; exact e
    | false => rw [q] at e; cases e
  done := W.done
  self := W.self
theorem Stp.two {A : Around} {I : Addr} {fp wr : List Addr} {cnt : Nat} {val : Nat → Value → Value → Prop} {St : Nat → Heap → Prop} {Mid : Nat → Addr → Heap → Prop} {x y : Str} {px py tp : Pos} {j : Nat} (hh : A.handled = none) (hxy : x ≠ y) (W : WalksU PR w A I fp wr cnt (fun i vals => ∃ a b, val i a b ∧ vals = #[a, b]) St Mid) :
    Stp w A (.Tuple [.Name x px, .Name y py] j tp) [x, y] I fp wr cnt (fun i vals => ∃ a b, val i a b ∧ vals = [a, b]) St where
  frame := W.frame
  step := fun i s C m₁ env Q E hi st hn hC hl hk hx k => W.item i _ _ _ hi st fun T vals h₂ tk₂ hP hT hM hk₂ => by
    subst hl
    have hw : env.locals ∉ wr := fun e => hC (W.sub _ e)
    refine X2_2 hP ?_; clear hP; rintro a b hab rfl
    refine W.go _ _ _ i T _ _ _ hM fun h₃ hst₃ hk₃ => ?_
    refine tup_assign hh (hT.at fun o e => hk₃ T o (W.apart i T _ hM) e) (hx x (.head _)) (hx y (.tail _ (.head _))) hk (hn.at' fun o e => hk₃ _ o hw (hk₂ _ o hw e)) fun h₄ hn₄ hk₄ => ?_
    refine k [a, b] h₄ _ _ (Y2_2 a b hab rfl) (W.frame _ _ _ hst₃ fun b hb o e => hk₄ b o (fun q => hC (q ▸ hb)) e) hn₄ (fun z v e => ?_) fun b o hb hn e => hk₄ b o hn (hk₃ b o hb (hk₂ b o hb e))
    rw [List.zip_cons_cons, List.zip_cons_cons, List.zip_nil_left, List.lookup_cons, List.lookup_cons] at e
    cases q : z == x with
    | true =>
      rw [q] at e
      have q' : z = x := by simpa using q
      rw [if_neg (fun h => hxy (q'.symm.trans h)), if_pos q']
      exact e
    | false =>
      rw [q] at e
      cases q2 : z == y with
      | true => rw [q2] at e; rw [if_pos (by simpa using q2)]; exact e
      | false => rw [q2] at e; cases e
  done := W.done
  self := W.self
inductive CSrc {w : World} (c : Cx w) (l : Fm) (cnt : Nat) (Sk : Heap → Prop) (R : Led → Prop) (V : Addr → List Addr → List Addr → (Nat → Heap → Prop) → Prop) (itv : Value) (s₂ : Shared) : Prop
  | mk (I : Addr) (fp wr io : List Addr) (St : Nat → Heap → Prop) (h : Heap) (tk : Tok) (n : Led) (m : Str → Option Value) (hid : Led) (W : V I fp wr St) (e1 : itv = .ref I) (e2 : s₂ = { c.s with heap := h, toks := tk }) (r : R n) (hV : c.V l m hid) (F : Fr c.g c.L h m) (N : News c.g c.L h (hid ++ n)) (O : Off hid n)
    (hcnt : cnt ≤ sizeLine) (hwr : ∀ b ∈ wr, b ∈ io) (hio : ∀ b ∈ io, b < h.objs.size ∧ b ≠ c.L ∧ c.g.get? b = none ∧ ∀ p ∈ hid ++ n, p.1 ≠ b) (hfp : ∀ b ∈ fp, b < h.objs.size) (st : St 0 h)
    (conv : ∀ i h, St i h → ∃ own : Led, (∀ p ∈ own, p.1 ∈ io ∧ h.get? p.1 = some p.2) ∧ (∀ b ∈ io, ∃ o, (b, o) ∈ own) ∧ ∀ h', (∀ p ∈ own, h'.get? p.1 = some p.2) → Sk h' → St i h') : CSrc c l cnt Sk R V itv s₂
theorem CSrc.map {cnt : Nat} {Sk : Heap → Prop} {R : Led → Prop} {V V' : Addr → List Addr → List Addr → (Nat → Heap → Prop) → Prop} {itv : Value} {s₂ : Shared} (h : CSrc c l cnt Sk R V itv s₂) (f : ∀ I fp wr St, V I fp wr St → V' I fp wr St) : CSrc c l cnt Sk R V' itv s₂ := by
  obtain ⟨I, fp, wr, io, St, h, tk, n, m, hid, W, e1, e2, r, hV, F, N, O, hcnt, hwr, hio, hfp, st, conv⟩ := h
  exact ⟨I, fp, wr, io, St, h, tk, n, m, hid, f _ _ _ _ W, e1, e2, r, hV, F, N, O, hcnt, hwr, hio, hfp, st, conv⟩
theorem comp_core {use : Option (Value → Sem Unit)} {Q : Value → Shared → Prop} {elt it tgt : PySem.Expr} {ifs : List PySem.Expr} {xs : List Str} {pos pos' : Pos} {scope : Scope} {cnt : Nat} {α : Type} {val : α → Nat → List Value → Prop} {Sk : α → Heap → Prop} (hw : Wk c sc d u true) (J : α → Nat → List Value → Led → Prop)
    (src : At c n l (eval it c.env) fun xv s₁ => wpAny (model PR w) c.A (pyIter xv) (fun itv s₂ => ∃ z, CSrc c l cnt (Sk z) (J z 0 []) (fun I fp wr St => Stp w c.A tgt xs I fp wr cnt (val z) St) itv s₂) c.E s₁)
    (hJ : ∀ z i ys n m hid h, J z i ys n → Fr c.g c.L h m → News c.g c.L h (hid ++ n) → Sk z h)
    (turn : ∀ z i vals ys n (c2 : Cx w), i < cnt → val z i vals → J z i ys n → Wk c2 (relS scope sc) d u false → ∃ p, TstL c2 n (frCp xs vals l (freeOf scope)) ifs p ∧ (p → EvG c2 n (frCp xs vals l (freeOf scope)) elt fun r n' => J z (i + 1) (ys ++ [r]) n') ∧ (¬ p → J z (i + 1) ys n))
    (fin : ∀ z D C oC m₂ ys n', J z cnt ys n' → NsObj oC m₂ → (∀ q ∈ n', @Ne Nat q.1 D) → (∀ q ∈ (D, lstN ys ys.length) :: n', @Ne Nat q.1 C) → ∀ h tk, Hp c ((C, oC) :: (D, lstN ys ys.length) :: n') l h → compPost (model PR w) c.A c.E use Q (.ref D) C (.ok .next) { c.s with heap := h, toks := tk })
    (hs : CsOk scope sc) (hxs : ∀ x ∈ xs, scope.names.lookup x = some .local) (hf : ∀ x, foldedSetIterable it c.env x = pure x) :
    At c n l (comprehension (.ListComp elt [⟨tgt, it, ifs, 0⟩] scope pos) scope c.env pos' (newList []) false (eval it c.env) use) Q := 
fun h₀ tk₀ H₀ => by
  have hcl : closureFor scope c.env = pure (cloOf scope c.env) := by
    obtain ⟨m, hid, hV, _⟩ := H₀
    exact closure_ok hw hs hV
  refine wpAny_comprehension_free (use := use) rfl hf hcl hs.kind (fun y hy e => by have := hs.look y hy; rw [e] at this; exact this) (wpAny_mono (src h₀ tk₀ H₀) (fun xv s₁ h₁ => ?_) fun _ _ e => e)
  refine wpAny_mono h₁ (fun itv s₂ h₂ => ?_) fun _ _ e => e
  refine X1_1 h₂ ?_; clear h₂; rintro zz zz; obtain ⟨I, fp, wr, io, St, h, tk, n, m, hid, W, rfl, rfl, h0, hV, F, N, O, hcnt, hio, hfr, hfp, hst, conv⟩ := zz
  refine wpAny_newObj_type (wpAny_newFunctionEnv hs.cell (by intro y hy; simp at hy) (fun h₁ hns₁ hsb₁ => ?_) hs.kind)
  dsimp only at hns₁ hsb₁ ⊢
  generalize hH2 : h.push { cls := .type "list", dict := none, data := .seq ([] : List Value).toArray } = H2 at hns₁ hsb₁ ⊢
  have hC : H2.objs.size = h.objs.size + 1 := by rw [← hH2, Heap.size_push]
  generalize hCn : H2.objs.size = C at *
  generalize hDn : h.objs.size = D at *
  have hDC : @Ne Nat D C := by rw [hC]; exact Nat.ne_of_lt (Nat.lt_succ_self _)
  have old : ∀ b o, h.get? b = some o → h₁.get? b = some o := fun b o e => hsb₁.extBut b o (by have := Heap.lt_size e; rw [hDn] at this; rw [hC]; exact Nat.ne_of_lt (Nat.lt_succ_of_lt this)) (Heap.get?_push_of_some _ (hH2 ▸ Heap.get?_push_of_some _ e))
  have hacc : h₁.get? D = some (lst []) := hsb₁.extBut _ _ hDC (by refine Heap.get?_push_of_some _ (hH2 ▸ ?_); rw [← hDn]; exact Heap.get?_push_size _ rfl)
  have hL : @LT.lt Nat _ c.L D := by rw [← hDn]; exact F.ns.lt
  have fresh : ∀ a : Nat, @LE.le Nat _ D a → c.g.get? a = none := fun a ha => Heap.get?_none_of_le (Nat.le_trans F.above (Nat.le_trans (Nat.le_of_lt hL) ha))
  have hCD : @LT.lt Nat _ D C := by rw [hC]; exact Nat.lt_succ_self _
  have hCL : @Ne Nat C c.L := Nat.ne_of_gt (Nat.lt_trans hL hCD)
  have hDL : @Ne Nat D c.L := Nat.ne_of_gt hL
  have ledD : ∀ p ∈ hid ++ n, @LT.lt Nat _ p.1 D := fun p hp => by rw [← hDn]; exact Heap.lt_size (N p hp).1
  have ioD : ∀ b ∈ io, @LT.lt Nat _ b D := fun b hb => (hfr b hb).1
  have fpD : ∀ b ∈ fp, @LT.lt Nat _ b D := hfp
  have ne_C : ∀ {b : Nat}, b < D → b ≠ C := fun h => Nat.ne_of_lt (Nat.lt_trans h hCD)
  have loop : ∀ s₃ : Shared, s₃ = ({ c.s with heap := h₁, toks := tk + ([] : List (Str × Value)).length } : Shared) →
      codeAny (model PR w) c.A (.compLoop (.ListComp elt [⟨tgt, it, ifs, 0⟩] scope pos) 0 (.ref I) (.ref D) (compEnvC scope (cloOf scope c.env) C c.env))
        (compPost (model PR w) c.A c.E use Q (.ref D) C) s₃ := by
    rintro s₃ rfl
    refine comp_loop (fun k s' => ∃ h' tk i ys m' n', s' = { c.s with heap := h', toks := tk } ∧ i ≤ cnt ∧ k = cnt + 1 - i ∧ ys.length ≤ i ∧ St i h' ∧ Fr c.g c.L h' m ∧ h'.Ns C m' ∧ News c.g c.L h' ((D, lst ys) :: (hid ++ n')) ∧ Off hid n' ∧ (∀ p ∈ hid ++ n', p.1 ∉ io ∧ @Ne Nat p.1 C ∧ @Ne Nat p.1 D) ∧ J zz i ys n') ?_ (cnt + 1)
      (Y6_11 h₁ _ 0 [] _ n rfl (Nat.zero_le _) rfl (Nat.le_refl _) (W.frame _ _ _ hst fun b _ o e => old b o e) (F.keeps old) hns₁ (fun p hp => ?_) O (fun p hp => Y0_3 (fun hb => (hfr _ hb).2.2.2 p hp rfl) (ne_C (ledD p hp)) (Nat.ne_of_lt (ledD p hp))) h0)
    · rintro k s' zz; refine X6_11 zz ?_; clear zz; rintro h' tk' i ys m' n' rfl hi rfl hyl hst' F' hn' N' O' off' hj
      have keepN : ∀ {h2 : Heap}, (∀ b o, b ∉ wr → h'.get? b = some o → h2.get? b = some o) → Fr c.g c.L h2 m ∧ News c.g c.L h2 ((D, lst ys) :: (hid ++ n')) ∧ h2.Ns C m' := fun {h2} hk => by
        refine Y0_3 ⟨F'.ns.at' fun o e => hk _ o (fun hb => (hfr _ (hio _ hb)).2.1 rfl) e, fun b o e => hk b o (fun hb => by rw [(hfr _ (hio _ hb)).2.2.1] at e; cases e) (F'.keep b o e), F'.above⟩ (fun p hp => ⟨hk _ _ (fun hb => ?_) (N' p hp).1, (N' p hp).2⟩) (hn'.at' fun o e => hk _ o (fun hb => ne_C (ioD _ (hio _ hb)) rfl) e)
        rcases List.mem_cons.mp hp with rfl | hp
        · exact Nat.lt_irrefl _ (ioD _ (hio _ hb))
        · exact (off' p hp).1 (hio _ hb)
      by_cases hlt : i < cnt
      · have hCfp : C ∉ fp := fun hb => ne_C (fpD _ hb) rfl
        refine wpAny_mono (W.step i _ C m' (compEnvC scope (cloOf scope c.env) C c.env) _ _ hlt hst' hn' hCfp rfl (by simp [compEnvC, relabel, hs.kind]) (fun x hx => lookup_relabel_local (hxs x hx)) fun vals h₄ tk₄ m₂ hval hst₄ hn₄ hag hk₄ => ?_) (fun r s₁ q => by
          cases r with
          | none => exact q.elim
          | some v => exact q) fun _ _ q => q
        refine X1_3 (conv _ _ hst₄) fun own ow1 ow3 ow2 => ?_
        refine X1_2 (ns_obj hn₄) fun oC heC hoC => ?_
        have kp : ∀ b o, b ∉ io → b ≠ C → h'.get? b = some o → h₄.get? b = some o := fun b o h1 h2 => hk₄ b o (fun h => h1 (hio b h)) h2
        have F₄ : Fr c.g c.L h₄ m := ⟨F'.ns.at' fun o e => kp _ o (fun hb => (hfr _ hb).2.1 rfl) (Ne.symm hCL) e, fun b o e => kp b o (fun hb => by rw [(hfr _ hb).2.2.1] at e; cases e) (fun q => by have q' : b = C := q; rw [q', fresh _ (Nat.le_of_lt hCD)] at e; cases e) (F'.keep b o e), F'.above⟩
        have N₄ : News c.g c.L h₄ ((D, lst ys) :: (hid ++ n')) := fun p hp => ⟨kp _ _ (by
          rcases List.mem_cons.mp hp with rfl | hp
          · exact fun hb => Nat.lt_irrefl _ (ioD _ hb)
          · exact (off' p hp).1) (by
          rcases List.mem_cons.mp hp with rfl | hp
          · exact hDC
          · exact (off' p hp).2.1) (N' p hp).1, (N' p hp).2⟩
        have NN : News c.g c.L h₄ ((((C, oC) :: (D, lst ys) :: own) ++ hid) ++ n') := fun p hp => by
          rw [List.append_assoc] at hp
          rcases List.mem_append.mp hp with hp | hp
          · rcases List.mem_cons.mp hp with rfl | hp
            · exact Y0_3 heC hCL (fresh _ (Nat.le_of_lt hCD))
            · rcases List.mem_cons.mp hp with rfl | hp
              · exact N₄ _ (.head _)
              · exact Y0_3 ((ow1 p hp).2) ((hfr _ (ow1 p hp).1).2.1) ((hfr _ (ow1 p hp).1).2.2.1)
          · exact N₄ p (.tail _ hp)
        have offO : Off ((C, oC) :: (D, lst ys) :: own) n' := fun p hp q hq => by
          have z := off' q (List.mem_append_right _ hq)
          rcases List.mem_cons.mp hp with rfl | hp
          · exact Ne.symm z.2.1
          · rcases List.mem_cons.mp hp with rfl | hp
            · exact Ne.symm z.2.2
            · exact fun e => z.1 (by have e' : p.1 = q.1 := e; rw [← e']; exact (ow1 p hp).1)
        refine comp_stepN (xs := xs) (vals := vals) (t := fun env => forIn ifs true fun c r => if r = true then do let ok ← isTrue c env (eval c env); pure (ForInStep.yield ok) else pure (ForInStep.yield r)) hw hs hxs hV O' F₄ hoC hag (.head _) NN offO fun c2 hw2 es1 es2 es3 es4 cv => ?_
        refine X1_3 (turn zz i vals ys n' c2 hlt hval hj hw2) fun p t1 t2 t3 => ?_
        have back : ∀ (n2 : Led) (ys' : List Value) h5, J zz (i + 1) ys' n2 → Hp c2 n2 (frCp xs vals l (freeOf scope)) h5 → St (i + 1) h5 ∧ Fr c.g c.L h5 m ∧ News c.g c.L h5 ((D, lst ys) :: (hid ++ n2)) ∧ Off hid n2 ∧ (∀ p ∈ hid ++ n2, p.1 ∉ io ∧ @Ne Nat p.1 C ∧ @Ne Nat p.1 D) ∧ ∃ m2, h5.Ns C m2 := fun n2 ys' h5 hj2 H5 => by
          refine X0_4 (cv n2 h5 H5) fun F5 N5 O5 O5' => ?_
          have N5' : News c.g c.L h5 (hid ++ n2) := News.sub N5 fun q hq => by rw [List.append_assoc]; exact List.mem_append_right _ hq
          refine Y0_6 (ow2 _ (fun p hp => (N5 p (List.mem_append_left _ (List.mem_append_left _ (.tail _ (.tail _ hp))))).1) (hJ _ _ _ _ m hid _ hj2 F5 N5')) F5 (fun p hp => ?_) O5' (fun p hp => ?_) ⟨_, hoC.ns (N5 (C, oC) (List.mem_append_left _ (List.mem_append_left _ (.head _)))).1⟩
          · rcases List.mem_cons.mp hp with rfl | hp
            · exact N5 _ (List.mem_append_left _ (List.mem_append_left _ (.tail _ (.head _))))
            · exact N5' p hp
          · rcases List.mem_append.mp hp with hp | hp
            · exact off' p (List.mem_append_left _ hp)
            · exact Y0_3 (fun hb => (ow3 _ hb).elim fun o ho => O5 (p.1, o) (.tail _ (.tail _ ho)) p hp rfl) (Ne.symm (O5 (C, oC) (.head _) p hp)) (Ne.symm (O5 (D, lst ys) (.tail _ (.head _)) p hp))
        refine t1 _ (fun hp h5 tk5 H5 => ?_) fun hp h5 tk5 H5 => ?_
        · refine ite_tt ?_
          have e := t2 hp (fun r s₄ => wpAny (model PR w) c.A (call (.builtin "list.append") [.ref D, r]) (fun _ s₅ => ∃ k, k < cnt + 1 - i ∧ ∃ h' tk i ys m' n', s₅ = { c.s with heap := h', toks := tk } ∧ i ≤ cnt ∧ k = cnt + 1 - i ∧ ys.length ≤ i ∧ St i h' ∧ Fr c.g c.L h' m ∧ h'.Ns C m' ∧ News c.g c.L h' ((D, lst ys) :: (hid ++ n')) ∧ Off hid n' ∧ (∀ p ∈ hid ++ n', p.1 ∉ io ∧ @Ne Nat p.1 C ∧ @Ne Nat p.1 D) ∧ J zz i ys n') c2.E s₄) (fun r n2 hj2 h6 tk6 H6 => by
            refine X0_6 (back n2 _ h6 hj2 H6) ?_; rintro hst6 F6 N6 O6 off6 ⟨m2, hn6⟩
            refine append_at (hsz := by show ys.toArray.size ≤ sizeLine; rw [List.size_toArray]; exact Nat.le_trans (Nat.le_trans hyl hi) hcnt) (N6 _ (.head _)).1 fun h7 hs7 hD7 => ?_
            refine Y1_2 (cnt + 1 - (i + 1)) (by lia) (Y6_11 h7 tk6 (i + 1) (ys ++ [r]) m2 n2 (by rw [es1]) hlt rfl (by rw [List.length_append, List.length_singleton]; exact Nat.succ_le_succ hyl) (W.frame _ _ _ hst6 fun b hb o e => hs7.extBut b o (Nat.ne_of_lt (fpD b hb)) e) (F6.change hs7 hDL (fresh _ (Nat.le_refl _))) (hn6.sameBut hs7 (Ne.symm hDC)) (fun p hp => ?_) O6 off6 hj2)
            rcases List.mem_cons.mp hp with rfl | hp
            · exact Y0_3 (hD7.trans (congrArg some (lst_snoc ys r))) hDL (fresh _ (Nat.le_refl _))
            · exact ⟨hs7.extBut _ _ (off6 p hp).2.2 (N6 p (.tail _ hp)).1, (N6 p (.tail _ hp)).2⟩) h5 tk5 H5
          rw [es2, es3, es4] at e
          exact e
        · refine ite_ff ?_
          refine X0_6 (back n' _ h5 (t3 hp) H5) ?_; rintro hst6 F6 N6 O6 off6 ⟨m2, hn6⟩
          exact Y1_2 (cnt + 1 - (i + 1)) (by omega) (Y6_11 h5 tk5 (i + 1) ys m2 n' (by rw [es1]) hlt rfl (Nat.le_succ_of_le hyl) hst6 F6 hn6 N6 O6 off6 (t3 hp))
      · obtain rfl : i = cnt := Nat.le_antisymm hi (Nat.not_lt.mp hlt)
        refine W.done _ _ _ hst' fun h₂ tk₂ hk₂ => ?_
        refine X0_3 (keepN (h2 := h₂) hk₂) fun F₂ N₂ hn₂ => ?_
        refine X1_2 (ns_obj hn₂) fun oC heC hoC => ?_
        refine fin zz D C oC _ ys n' hj hoC (fun q hq => (off' q (List.mem_append_right _ hq)).2.2) (fun q hq => ?_) h₂ tk₂ ⟨m, hid, hV, F₂, fun p hp => ?_, fun p hp q hq => ?_⟩
        · rcases List.mem_cons.mp hq with rfl | hq
          · exact hDC
          · exact (off' q (List.mem_append_right _ hq)).2.1
        · rcases List.mem_append.mp hp with hp | hp
          · exact N₂ p (.tail _ (List.mem_append_left _ hp))
          · rcases List.mem_cons.mp hp with rfl | hp
            · exact Y0_3 heC hCL (fresh _ (Nat.le_of_lt hCD))
            · rcases List.mem_cons.mp hp with rfl | hp
              · exact N₂ _ (.head _)
              · exact N₂ p (.tail _ (List.mem_append_right _ hp))
        · have z := off' p (List.mem_append_left _ hp)
          rcases List.mem_cons.mp hq with rfl | hq
          · exact z.2.1
          · rcases List.mem_cons.mp hq with rfl | hq
            · exact z.2.2
            · exact O' p hp q hq
    · rcases List.mem_cons.mp hp with rfl | hp
      · exact Y0_3 hacc hDL (fresh _ (Nat.le_refl _))
      · exact ⟨old _ _ (N p hp).1, (N p hp).2⟩
  exact codeAny_compStart_list (loop _ rfl) (W.self 0 _ _ _ (W.frame _ _ _ hst fun b _ o e => old b o e) (loop _ rfl))
theorem At.comp {Q : Value → Shared → Prop} {elt it tgt : PySem.Expr} {ifs : List PySem.Expr} {xs : List Str} {pos : Pos} {scope : Scope} {cnt : Nat} {α : Type} {val : α → Nat → List Value → Prop} {Sk : α → Heap → Prop} (hw : Wk c sc d u true) (J : α → Nat → List Value → Led → Prop)
    (src : At c n l (eval it c.env) fun xv s₁ => wpAny (model PR w) c.A (pyIter xv) (fun itv s₂ => ∃ z, CSrc c l cnt (Sk z) (J z 0 []) (fun I fp wr St => Stp w c.A tgt xs I fp wr cnt (val z) St) itv s₂) c.E s₁)
    (hJ : ∀ z i ys n m hid h, J z i ys n → Fr c.g c.L h m → News c.g c.L h (hid ++ n) → Sk z h)
    (turn : ∀ z i vals ys n (c2 : Cx w), i < cnt → val z i vals → J z i ys n → Wk c2 (relS scope sc) d u false → ∃ p, TstL c2 n (frCp xs vals l (freeOf scope)) ifs p ∧ (p → EvG c2 n (frCp xs vals l (freeOf scope)) elt fun r n' => J z (i + 1) (ys ++ [r]) n') ∧ (¬ p → J z (i + 1) ys n))
    (kk : ∀ z D ys n₀ n', J z cnt ys n₀ → New n₀ n' D (lstN ys ys.length) → Go c n' l Q (.ref D))
    (hs : CsOk scope sc) (hxs : ∀ x ∈ xs, scope.names.lookup x = some .local) (hf : ∀ (env : Env) x, foldedSetIterable it env x = pure x) :
    At c n l (eval (.ListComp elt [⟨tgt, it, ifs, 0⟩] scope pos) c.env) Q := fun h₀ tk₀ H₀ => by
  rw [eval_ListComp]
  refine comp_core hw J src hJ turn (fun z D C oC m₂ ys n' hj hC h1 h2 h tk H => ?_) hs hxs (hf _) h₀ tk₀ H₀
  refine X1_2 (Hp.drop hC h2 H) fun m' a b => ?_
  exact Y1_2 m' a (fun h' hs' => kk z D ys n' _ hj ⟨.head _, fun _ h => .tail _ h, h1⟩ h' tk (b h' hs'))
theorem At.cmpA {Q : Flow → Shared → Prop} {elt it tgt : PySem.Expr} {ifs : List PySem.Expr} {xs : List Str} {z : Str} {pz pos spos : Pos} {scope : Scope} {rest : List Stmt} {cnt : Nat} {α : Type} {val : α → Nat → List Value → Prop} {Sk : α → Heap → Prop} (hw : Wk c sc d u true) (J : α → Nat → List Value → Led → Prop)
    (src : At c n l (eval it c.env) fun xv s₁ => wpAny (model PR w) c.A (pyIter xv) (fun itv s₂ => ∃ z, CSrc c l cnt (Sk z) (J z 0 []) (fun I fp wr St => Stp w c.A tgt xs I fp wr cnt (val z) St) itv s₂) c.E s₁)
    (hJ : ∀ z i ys n m hid h, J z i ys n → Fr c.g c.L h m → News c.g c.L h (hid ++ n) → Sk z h)
    (turn : ∀ z i vals ys n (c2 : Cx w), i < cnt → val z i vals → J z i ys n → Wk c2 (relS scope sc) d u false → ∃ p, TstL c2 n (frCp xs vals l (freeOf scope)) ifs p ∧ (p → EvG c2 n (frCp xs vals l (freeOf scope)) elt fun r n' => J z (i + 1) (ys ++ [r]) n') ∧ (¬ p → J z (i + 1) ys n))
    (kk : ∀ w' D ys n₀ n', J w' cnt ys n₀ → New n₀ n' D (lstN ys ys.length) → At c n' (put l z (.ref D)) (execs rest c.env) Q)
    (hs : CsOk scope sc) (hxs : ∀ x ∈ xs, scope.names.lookup x = some .local) (hf : ∀ (env : Env) x, foldedSetIterable it env x = pure x) (hyl : (l.map (·.1)).contains z = true) (hyk : sc.names.lookup z = some .local)
    (hln : (pz.line == pos.line) = true) (hn : (scope.names.any fun (n, k) => n == z && (k == .local || k == .cell)) = false) :
    At c n l (execs (.Assign [.Name z pz] (.ListComp elt [⟨tgt, it, ifs, 0⟩] scope pos) spos :: rest) c.env) Q := .cons fun h₀ tk₀ H₀ => by
  have hky : c.env.kindOf z = some .local := by unfold Env.kindOf; rw [hw.sc]; exact hyk
  rw [exec_Assign_Name_used _ _ _ _ (swaps_yes (blk_fn c.ek) hky hln hn)]
  refine wpAny_bind (wpAny_standAt (wpAny_bind ?_))
  show wpAny _ c.A (do let _ ← comprehension (.ListComp elt [⟨tgt, it, ifs, 0⟩] scope pos) scope c.env _ (newList []) false (eval it c.env) (some (PySem.assign (.Name z pz) c.env))) _ _ _
  refine wpAny_bind (wpAny_mono (comp_core (Q := fun _ s' => Th c rest Q .next s') hw J src hJ turn (fun z' D C oC m₂ ys n' hj hC h1 h2 h tk H => ?_) hs hxs (hf _) h₀ tk₀ H₀) (fun _ s' hq => wpAny_pure (wpAny_pure hq)) fun _ _ e => e)
  refine wpAny_assign_Name ?_
  obtain ⟨m, hid, hV, F, N, O⟩ := H
  refine c.st hw.dfn hV F N O (by simpa using hyl) _ _ _ _ rfl fun h' tk' m' hid' a b e f => ?_
  refine X1_2 (Hp.drop (c := c) (l := put l z (.ref D)) hC h2 ⟨m', hid', a, b, e, f⟩) fun m'' a' b' => ?_
  exact Y1_2 m'' a' (fun h'' hs' => kk z' D ys n' _ hj ⟨.head _, fun _ h => .tail _ h, h1⟩ h'' tk' (b' h'' hs'))
end
end
section
section
open LCg
variable {w : World} {c : Cx w} {n : Led} {l : Fm} {rest : List Stmt} {sc : Scope} {d u : Nat}
noncomputable def ioLed (h : Heap) (io : List Addr) : Led := io.filterMap fun b => (h.get? b).map fun o => (b, o)
theorem ioLed_mem {h : Heap} {io : List Addr} {p : Addr × Obj} : p ∈ ioLed h io ↔ p.1 ∈ io ∧ h.get? p.1 = some p.2 := by
  unfold ioLed
  rw [List.mem_filterMap]
  constructor
  · rintro zz; refine X1_2 zz ?_; clear zz; rintro b hb e
    refine X1_2 (Option.map_eq_some_iff.mp e) ?_; rintro o ho rfl
    exact ⟨hb, ho⟩
  · rintro ⟨hb, ho⟩
    exact Y1_2 p.1 hb (by rw [ho]; rfl)
theorem io_conv {io : List Addr} {St : Nat → Heap → Prop} {Sk : Heap → Prop} (h1 : ∀ i h, St i h → ∀ b ∈ io, ∃ o, h.get? b = some o) (h2 : ∀ i h h', St i h → (∀ b ∈ io, ∀ o, h.get? b = some o → h'.get? b = some o) → Sk h' → St i h') :
    ∀ i h, St i h → ∃ own : Led, (∀ p ∈ own, p.1 ∈ io ∧ h.get? p.1 = some p.2) ∧ (∀ b ∈ io, ∃ o, (b, o) ∈ own) ∧ ∀ h', (∀ p ∈ own, h'.get? p.1 = some p.2) → Sk h' → St i h' := fun i h hst =>
  (Y1_3 (ioLed h io) (fun p hp => ioLed_mem.mp hp) (fun b hb => (h1 i h hst b hb).elim fun o ho => ⟨o, ioLed_mem.mpr ⟨hb, ho⟩⟩) (fun h' hk hs => h2 i h h' hst (fun b hb o e => hk (b, o) (ioLed_mem.mpr ⟨hb, e⟩)) hs))
theorem CSrc.of {V : Addr → List Addr → List Addr → (Nat → Heap → Prop) → Prop} {I : Addr} {fp wr io : List Addr} {cnt : Nat} {St : Nat → Heap → Prop} {h h' : Heap} {tk : Tok} {m : Str → Option Value} {hid : Led} {Sk : Heap → Prop} {R : Led → Prop} (W : V I fp wr St)
    (hV : c.V l m hid) (F : Fr c.g c.L h m) (N : News c.g c.L h (hid ++ n)) (O : Off hid n) (h0 : R n) (hk : ∀ b o, h.get? b = some o → h'.get? b = some o) (hcnt : cnt ≤ sizeLine) (hwr : ∀ b ∈ wr, b ∈ io) (hio : ∀ b ∈ io, @LE.le Nat _ h.objs.size b ∧ @LT.lt Nat _ b h'.objs.size) (hfp : ∀ b ∈ fp, @LT.lt Nat _ b h'.objs.size) (hst : St 0 h')
    (h1 : ∀ i h, St i h → ∀ b ∈ io, ∃ o, h.get? b = some o) (h2 : ∀ i h h', St i h → (∀ b ∈ io, ∀ o, h.get? b = some o → h'.get? b = some o) → Sk h' → St i h') : CSrc c l cnt Sk R V (.ref I) { c.s with heap := h', toks := tk } :=
  ⟨I, fp, wr, io, St, h', tk, n, m, hid, W, rfl, rfl, h0, hV, F.keeps hk, N.grown hk, O, hcnt, hwr, fun b hb => Y0_4 ((hio b hb).2) (Nat.ne_of_gt (Nat.lt_of_lt_of_le F.ns.lt (hio b hb).1)) (Heap.get?_none_of_le (Nat.le_trans F.above (Nat.le_trans (Nat.le_of_lt F.ns.lt) (hio b hb).1))) (fun p hp => Nat.ne_of_lt (Nat.lt_of_lt_of_le (Heap.lt_size (N p hp).1) (hio b hb).1)), hfp, hst, io_conv h1 h2⟩
noncomputable abbrev SSrc {w : World} (c : Cx w) (l : Fm) (cnt : Nat) (P : Nat → Value → Prop) (Sk : Heap → Prop) (R : Led → Prop) : Value → Shared → Prop := CSrc c l cnt Sk R fun I fp wr St => Walks PR w c.A I fp wr cnt P St
noncomputable abbrev PSrc {w : World} (c : Cx w) (l : Fm) (cnt : Nat) (val : Nat → Value → Value → Prop) (Sk : Heap → Prop) (R : Led → Prop) : Value → Shared → Prop := CSrc c l cnt Sk R fun I fp wr St => ∃ Mid, WalksU PR w c.A I fp wr cnt (fun i vals => ∃ a b, val i a b ∧ vals = #[a, b]) St Mid
theorem one_src {V : Addr → List Addr → List Addr → (Nat → Heap → Prop) → Prop} {fp : List Addr} {cnt : Nat} {St : Nat → Heap → Prop} {h : Heap} {tk : Tok} {o : Obj} {Sk : Heap → Prop} {R : Led → Prop} (H : Hp c n l h) (W : V h.objs.size fp [h.objs.size] St) (h0 : R n) (hcnt : cnt ≤ sizeLine) (hfp : ∀ b ∈ fp, b = h.objs.size ∨ @LT.lt Nat _ b h.objs.size) (hst : St 0 (h.push o))
    (h1 : ∀ i g, St i g → ∃ o, g.get? h.objs.size = some o) (h2 : ∀ i g g', St i g → (∀ o, g.get? h.objs.size = some o → g'.get? h.objs.size = some o) → Sk g' → St i g') : CSrc c l cnt Sk R V (.ref h.objs.size) { c.s with heap := h.push o, toks := tk } := by
  obtain ⟨m, hid, hV, F, N, O⟩ := H
  refine CSrc.of (io := [h.objs.size]) W hV F N O h0 (fun _ _ e => Heap.get?_push_of_some _ e) hcnt (fun _ h => h) (fun b hb => ?_) (fun b hb => ?_) hst (fun i g st b hb => ?_) fun i g g' st hk s => h2 i g g' st (fun o e => hk _ (.head _) o e) s
  · rw [List.mem_singleton.mp hb, Heap.size_push]
    exact ⟨Nat.le_refl _, Nat.lt_succ_self _⟩
  · rw [Heap.size_push]
    rcases hfp b hb with e | e
    · exact Nat.lt_succ_of_le (Nat.le_of_eq e)
    · exact Nat.lt_succ_of_lt e
  · rw [List.mem_singleton.mp hb]
    exact h1 i g st
theorem walk_mono {prog : Program} {A : Around} {I : Addr} {fp wr : List Addr} {cnt : Nat} {P P' : Nat → Value → Prop} {St : Nat → Heap → Prop} (W : Walks prog w A I fp wr cnt P St) (h : ∀ i v, P i v → P' i v) : Walks prog w A I fp wr cnt P' St :=
  { sub := W.sub, frame := W.frame, item := fun i s Q E hi st hQ => W.item i s Q E hi st fun v h' tk hP => hQ v h' tk (h _ _ hP), done := W.done, self := W.self }
theorem At.srcL {a : Addr} {vs : List Value} {k : Nat} {R : Led → Prop} {it : PySem.Expr} (hit : EvP c n l it (.ref a)) (ha : (a, lstN vs k) ∈ n) (h0 : R n) (hz : vs.length ≤ 1000) : At c n l (eval it c.env) fun xv s₁ => wpAny (model PR w) c.A (pyIter xv) (SSrc c l vs.length (fun i v => vs[i]? = some v) (fun h => h.IsList a vs.toArray) R) c.E s₁ :=
  hit _ fun h tk H => by
    have H' := H
    obtain ⟨m, hid, hV, F, N, O⟩ := H
    have hls := News.isList N (List.mem_append_right _ ha)
    have hlt : @LT.lt Nat _ a h.objs.size := Heap.lt_size (N _ (List.mem_append_right _ ha)).1
    refine wpAny_pyIter_list hls (one_src H' (walk_mono (Walks.list (prog := PR) (w := w) (A := c.A) rfl h.objs.size a (Nat.ne_of_lt hlt) vs.toArray) fun i v e => by simpa using e) h0 (size1000 hz) (fun b hb => ?_) ⟨Y1_3 _ (Heap.get?_push_size _ rfl) rfl rfl, hls.push _⟩ (fun i g st => let ⟨o, ho, _⟩ := st.1; ⟨o, ho⟩) fun i g g' st hk s => ⟨st.1.at hk, s⟩)
    rcases List.mem_cons.mp hb with rfl | hb
    · exact .inl rfl
    · rw [List.mem_singleton.mp hb]; exact .inr hlt
theorem At.srcB {b : Bs} {R : Led → Prop} {it : PySem.Expr} (hit : EvR c n l it (BW b)) (h0 : R n) (hz : b.length ≤ 1000) : At c n l (eval it c.env) fun xv s₁ => wpAny (model PR w) c.A (pyIter xv) (SSrc c l b.length (fun i v => ∃ x, b[i]? = some x ∧ IV (x.toNat : Int) v) (fun _ => True) R) c.E s₁ :=
  hit _ fun v hv h tk H => by
    obtain ⟨t, rfl⟩ := hv
    exact KBw.pyIter_bytes (one_src H (walk_mono (KBw.walks (prog := PR) (w := w) (A := c.A) rfl h.objs.size b.toArray t) fun i v e => let ⟨x, u, e1, e2⟩ := e; (Y1_2 x (by simpa using e1) ⟨u, e2⟩)) h0 (by rw [sizeLine_eq]; lia) (fun b hb => .inl (List.mem_singleton.mp hb)) (Y1_3 _ (Heap.get?_push_size _ rfl) rfl rfl) (fun i g st => let ⟨o, ho, _⟩ := st; ⟨o, ho⟩) fun i g g' st hk _ => let ⟨o, ho, r⟩ := st; (Y1_2 o (hk _ ho) r))
theorem At.srcS {y : Str} {R : Led → Prop} {it : PySem.Expr} (hit : EvR c n l it fun v => ∃ t, v = .str y t) (h0 : R n) (hz : y.cps.size ≤ 1000) : At c n l (eval it c.env) fun xv s₁ => wpAny (model PR w) c.A (pyIter xv) (SSrc c l y.cps.size (SignAt y) (fun _ => True) R) c.E s₁ :=
  hit _ fun v hv h tk H => by
    obtain ⟨t, rfl⟩ := hv
    have mk : ∀ T : String, Walks PR w c.A h.objs.size [h.objs.size] [h.objs.size] y.cps.size (SignAt y) (fun i g => g.IsStrIter h.objs.size T y t i) → SSrc c l y.cps.size (SignAt y) (fun _ => True) R (.ref h.objs.size) { c.s with heap := h.push { cls := .type T, data := .fields #[.str y t, .int 0 0] }, toks := tk } := fun T W =>
      one_src H W h0 (by rw [sizeLine_eq]; lia) (fun b hb => .inl (List.mem_singleton.mp hb)) (Y1_3 _ (Heap.get?_push_size _ rfl) rfl rfl) (fun i g st => let ⟨o, ho, _⟩ := st; ⟨o, ho⟩) fun i g g' st hk _ => let ⟨o, ho, r⟩ := st; (Y1_2 o (hk _ ho) r)
    refine wpAny_pyIter_strU ?_
    unfold strIterType
    split
    · exact mk _ (Walks.strAscii rfl _ y t)
    · exact mk _ (Walks.strWide rfl _ y t)
theorem At.srcD {K : Type} [DecidableEq K] {knd : KeyKind PR w K} {a : Addr} {od : Obj} {kvs : List (K × Value)} {R : Led → Prop} {it : PySem.Expr} (hit : EvP c n l it (.ref a)) (ha : (a, od) ∈ n) (hd : od.IsDictOf knd kvs) (lo : (a == sysModules) = false) (h0 : R n) (hz : kvs.length ≤ 1000) :
    At c n l (eval it c.env) fun xv s₁ => wpAny (model PR w) c.A (pyIter xv) (SSrc c l kvs.length (fun i v => ∃ k x, kvs[i]? = some (k, x) ∧ knd.is k v = true) (fun h => h.get? a = some od) R) c.E s₁ :=
  hit _ fun h tk H => by
    have hg := H.get ha
    refine X2_1 hd ?_; clear hd; rintro es ep r
    have hat : h.DictAt knd a kvs ep := Y2_2 od es hg r
    have hlt : @LT.lt Nat _ a h.objs.size := hat.lt_size
    refine wpAny_pyIter_dict lo hat (one_src H (Walks.dictKeys (prog := PR) (w := w) (knd := knd) (A := c.A) rfl h.objs.size a (Nat.ne_of_lt hlt) kvs ep) h0 (by rw [sizeLine_eq]; lia) (fun b hb => ?_) ⟨Y1_3 _ (Heap.get?_push_size _ rfl) rfl rfl, hat.push _⟩ (fun i g st => let ⟨o, ho, _⟩ := st.1; ⟨o, ho⟩) fun i g g' st hk s => ⟨st.1.at hk, (Y2_2 od es s r)⟩)
    rcases List.mem_cons.mp hb with rfl | hb
    · exact .inl rfl
    · rw [List.mem_singleton.mp hb]; exact .inr hlt
theorem At.src1 {x : Str} {px : Pos} {cnt : Nat} {P : Nat → Value → Prop} {Sk : Heap → Prop} {R : Led → Prop} {t : Sem Value} (h : At c n l t fun xv s₁ => wpAny (model PR w) c.A (pyIter xv) (SSrc c l cnt P Sk R) c.E s₁) :
    At c n l t fun xv s₁ => wpAny (model PR w) c.A (pyIter xv) (fun itv s₂ => ∃ _ : Unit, CSrc c l cnt Sk R (fun I fp wr St => Stp w c.A (.Name x px) [x] I fp wr cnt (fun i vals => ∃ v, P i v ∧ vals = [v]) St) itv s₂) c.E s₁ :=
  h.mono fun _ _ h => wpAny_mono h (fun _ _ h => ⟨(), h.map fun _ _ _ _ W => Stp.one W⟩) fun _ _ x => x
theorem hx1 {scope : Scope} {x : Str} (hx : scope.names.lookup x = some .local) : ∀ y ∈ [x], scope.names.lookup y = some .local := fun y hy => by rw [List.mem_singleton.mp hy]; exact hx
theorem At.comp1 {Q : Value → Shared → Prop} {elt it : PySem.Expr} {ifs : List PySem.Expr} {x : Str} {px pos : Pos} {scope : Scope} {cnt : Nat} {P : Nat → Value → Prop} {Sk : Heap → Prop} (hw : Wk c sc d u true) (J : Nat → List Value → Led → Prop) (src : At c n l (eval it c.env) fun xv s₁ => wpAny (model PR w) c.A (pyIter xv) (SSrc c l cnt P Sk (J 0 [])) c.E s₁)
    (hJ : ∀ i ys n m hid h, J i ys n → Fr c.g c.L h m → News c.g c.L h (hid ++ n) → Sk h)
    (turn : ∀ i v ys n (c2 : Cx w), i < cnt → P i v → J i ys n → Wk c2 (relS scope sc) d u false → ∃ p, TstL c2 n ((x, some v) :: rst l (freeOf scope)) ifs p ∧ (p → EvG c2 n ((x, some v) :: rst l (freeOf scope)) elt fun r n' => J (i + 1) (ys ++ [r]) n') ∧ (¬ p → J (i + 1) ys n))
    (kk : ∀ D ys n₀ n', J cnt ys n₀ → New n₀ n' D (lstN ys ys.length) → Go c n' l Q (.ref D))
    (hs : CsOk scope sc := by (show CsOkB _ _ = true); decide +kernel) (hx : scope.names.lookup x = some .local := by rfl) (hf : ∀ (env : Env) x, foldedSetIterable it env x = pure x := by intro _ _; rfl) :
    At c n l (eval (.ListComp elt [⟨.Name x px, it, ifs, 0⟩] scope pos) c.env) Q :=
  .comp hw (fun _ => J) (.src1 src) (fun _ => hJ) (fun _ i vals ys n c2 hi hv hj hw2 => by refine X1_2 hv ?_; clear hv; rintro v hv rfl; exact turn i v ys n c2 hi hv hj hw2) (fun _ => kk) hs (hx1 hx) hf
theorem At.asg1 {Q : Flow → Shared → Prop} {elt it : PySem.Expr} {ifs : List PySem.Expr} {x z : Str} {px pz pos spos : Pos} {scope : Scope} {cnt : Nat} {P : Nat → Value → Prop} {Sk : Heap → Prop} (hw : Wk c sc d u true) (J : Nat → List Value → Led → Prop) (src : At c n l (eval it c.env) fun xv s₁ => wpAny (model PR w) c.A (pyIter xv) (SSrc c l cnt P Sk (J 0 [])) c.E s₁)
    (hJ : ∀ i ys n m hid h, J i ys n → Fr c.g c.L h m → News c.g c.L h (hid ++ n) → Sk h)
    (turn : ∀ i v ys n (c2 : Cx w), i < cnt → P i v → J i ys n → Wk c2 (relS scope sc) d u false → ∃ p, TstL c2 n ((x, some v) :: rst l (freeOf scope)) ifs p ∧ (p → EvG c2 n ((x, some v) :: rst l (freeOf scope)) elt fun r n' => J (i + 1) (ys ++ [r]) n') ∧ (¬ p → J (i + 1) ys n))
    (kk : ∀ D ys n₀ n', J cnt ys n₀ → New n₀ n' D (lstN ys ys.length) → At c n' (put l z (.ref D)) (execs rest c.env) Q)
    (hs : CsOk scope sc := by (show CsOkB _ _ = true); decide +kernel) (hx : scope.names.lookup x = some .local := by rfl) (hyl : (l.map (·.1)).contains z = true := by rfl) (hyk : sc.names.lookup z = some .local := by rfl)
    (hln : (pz.line == pos.line) = true := by rfl) (hn : (scope.names.any fun (n, k) => n == z && (k == .local || k == .cell)) = false := by rfl) (hf : ∀ (env : Env) x, foldedSetIterable it env x = pure x := by intro _ _; rfl) :
    At c n l (execs (.Assign [.Name z pz] (.ListComp elt [⟨.Name x px, it, ifs, 0⟩] scope pos) spos :: rest) c.env) Q :=
  .cmpA hw (fun _ => J) (.src1 src) (fun _ => hJ) (fun _ i vals ys n c2 hi hv hj hw2 => by refine X1_2 hv ?_; clear hv; rintro v hv rfl; exact turn i v ys n c2 hi hv hj hw2) (fun _ => kk) hs (hx1 hx) hf hyl hyk hln hn
theorem turn0 {c2 : Cx w} {n : Led} {l : Fm} {elt : PySem.Expr} {R : Value → Led → Prop} {N : Prop} (h : EvG c2 n l elt R) : ∃ p, TstL c2 n l [] p ∧ (p → EvG c2 n l elt R) ∧ (¬ p → N) := Y1_3 True .nil (fun _ => h) (fun h => absurd trivial h)
theorem turnT {c2 : Cx w} {n : Led} {l : Fm} {ct : PySem.Expr} {A N : Prop} (h : ∃ p, Tst c2 n l ct p ∧ (p → A) ∧ (¬ p → N)) : ∃ p, TstL c2 n l [ct] p ∧ (p → A) ∧ (¬ p → N) := h.elim fun p h => Y1_2 p (.one h.1) h.2
theorem skL {a : Addr} {vs : List Value} {k : Nat} {J : Nat → List Value → Led → Prop} (hJ : ∀ i ys n, J i ys n → (a, lstN vs k) ∈ n) : ∀ i ys n m hid h, J i ys n → Fr c.g c.L h m → News c.g c.L h (hid ++ n) → h.IsList a vs.toArray := fun i ys n m hid h hj F N => News.isList N (List.mem_append_right _ (hJ i ys n hj))
theorem At.eComp {Q : Value → Shared → Prop} {elt it : PySem.Expr} {x : Str} {px pos : Pos} {scope : Scope} {a : Addr} {vs : List Value} {k : Nat} (hw : Wk c sc d u true) (hit : EvP c n l it (.ref a)) (ha : (a, lstN vs k) ∈ n) (hz : vs.length ≤ 1000) (J : Nat → List Value → Led → Prop) (h0 : J 0 [] n)
    (hJ : ∀ i ys n, J i ys n → (a, lstN vs k) ∈ n)
    (turn : ∀ i v ys n (c2 : Cx w), vs[i]? = some v → J i ys n → Wk c2 (relS scope sc) d u false → EvG c2 n ((x, some v) :: rst l (freeOf scope)) elt fun y n' => J (i + 1) (ys ++ [y]) n')
    (kk : ∀ D ys n₀ n', J vs.length ys n₀ → New n₀ n' D (lstN ys ys.length) → Go c n' l Q (.ref D))
    (hs : CsOk scope sc := by (show CsOkB _ _ = true); decide +kernel) (hx : scope.names.lookup x = some .local := by rfl) (hf : ∀ (env : Env) x, foldedSetIterable it env x = pure x := by intro _ _; rfl) :
    At c n l (eval (.ListComp elt [⟨.Name x px, it, [], 0⟩] scope pos) c.env) Q := .comp1 hw J (.srcL hit ha h0 hz) (skL hJ) (fun i v ys n c2 _ hv hj hw2 => turn0 (turn i v ys n c2 hv hj hw2)) kk hs hx hf
theorem At.eCompT {Q : Value → Shared → Prop} {ct elt it : PySem.Expr} {x : Str} {px pos : Pos} {scope : Scope} {a : Addr} {vs : List Value} {k : Nat} (hw : Wk c sc d u true) (hit : EvP c n l it (.ref a)) (ha : (a, lstN vs k) ∈ n) (hz : vs.length ≤ 1000) (J : Nat → List Value → Led → Prop) (h0 : J 0 [] n)
    (hJ : ∀ i ys n, J i ys n → (a, lstN vs k) ∈ n)
    (turn : ∀ i v ys n (c2 : Cx w), vs[i]? = some v → J i ys n → Wk c2 (relS scope sc) d u false → ∃ p, Tst c2 n ((x, some v) :: rst l (freeOf scope)) ct p ∧ (p → EvG c2 n ((x, some v) :: rst l (freeOf scope)) elt fun y n' => J (i + 1) (ys ++ [y]) n') ∧ (¬ p → J (i + 1) ys n))
    (kk : ∀ D ys n₀ n', J vs.length ys n₀ → New n₀ n' D (lstN ys ys.length) → Go c n' l Q (.ref D))
    (hs : CsOk scope sc := by (show CsOkB _ _ = true); decide +kernel) (hx : scope.names.lookup x = some .local := by rfl) (hf : ∀ (env : Env) x, foldedSetIterable it env x = pure x := by intro _ _; rfl) :
    At c n l (eval (.ListComp elt [⟨.Name x px, it, [ct], 0⟩] scope pos) c.env) Q := .comp1 hw J (.srcL hit ha h0 hz) (skL hJ) (fun i v ys n c2 _ hv hj hw2 => turnT (turn i v ys n c2 hv hj hw2)) kk hs hx hf
theorem At.asgComp {Q : Flow → Shared → Prop} {elt it : PySem.Expr} {x y : Str} {px py pos spos : Pos} {scope : Scope} {a : Addr} {vs : List Value} {k : Nat} (hw : Wk c sc d u true) (hit : EvP c n l it (.ref a)) (ha : (a, lstN vs k) ∈ n) (hz : vs.length ≤ 1000) (J : Nat → List Value → Led → Prop) (h0 : J 0 [] n)
    (hJ : ∀ i ys n, J i ys n → (a, lstN vs k) ∈ n)
    (turn : ∀ i v ys n (c2 : Cx w), vs[i]? = some v → J i ys n → Wk c2 (relS scope sc) d u false → EvG c2 n ((x, some v) :: rst l (freeOf scope)) elt fun y n' => J (i + 1) (ys ++ [y]) n')
    (kk : ∀ D ys n₀ n', J vs.length ys n₀ → New n₀ n' D (lstN ys ys.length) → At c n' (put l y (.ref D)) (execs rest c.env) Q)
    (hs : CsOk scope sc := by (show CsOkB _ _ = true); decide +kernel) (hx : scope.names.lookup x = some .local := by rfl) (hyl : (l.map (·.1)).contains y = true := by rfl) (hyk : sc.names.lookup y = some .local := by rfl)
    (hln : (py.line == pos.line) = true := by rfl) (hn : (scope.names.any fun (n, k) => n == y && (k == .local || k == .cell)) = false := by rfl) (hf : ∀ (env : Env) x, foldedSetIterable it env x = pure x := by intro _ _; rfl) :
    At c n l (execs (.Assign [.Name y py] (.ListComp elt [⟨.Name x px, it, [], 0⟩] scope pos) spos :: rest) c.env) Q := .asg1 hw J (.srcL hit ha h0 hz) (skL hJ) (fun i v ys n c2 _ hv hj hw2 => turn0 (turn i v ys n c2 hv hj hw2)) kk hs hx hyl hyk hln hn hf
theorem At.asgCompT {Q : Flow → Shared → Prop} {ct elt it : PySem.Expr} {x y : Str} {px py pos spos : Pos} {scope : Scope} {a : Addr} {vs : List Value} {k : Nat} (hw : Wk c sc d u true) (hit : EvP c n l it (.ref a)) (ha : (a, lstN vs k) ∈ n) (hz : vs.length ≤ 1000) (J : Nat → List Value → Led → Prop) (h0 : J 0 [] n)
    (hJ : ∀ i ys n, J i ys n → (a, lstN vs k) ∈ n)
    (turn : ∀ i v ys n (c2 : Cx w), vs[i]? = some v → J i ys n → Wk c2 (relS scope sc) d u false → ∃ p, Tst c2 n ((x, some v) :: rst l (freeOf scope)) ct p ∧ (p → EvG c2 n ((x, some v) :: rst l (freeOf scope)) elt fun y n' => J (i + 1) (ys ++ [y]) n') ∧ (¬ p → J (i + 1) ys n))
    (kk : ∀ D ys n₀ n', J vs.length ys n₀ → New n₀ n' D (lstN ys ys.length) → At c n' (put l y (.ref D)) (execs rest c.env) Q)
    (hs : CsOk scope sc := by (show CsOkB _ _ = true); decide +kernel) (hx : scope.names.lookup x = some .local := by rfl) (hyl : (l.map (·.1)).contains y = true := by rfl) (hyk : sc.names.lookup y = some .local := by rfl)
    (hln : (py.line == pos.line) = true := by rfl) (hn : (scope.names.any fun (n, k) => n == y && (k == .local || k == .cell)) = false := by rfl) (hf : ∀ (env : Env) x, foldedSetIterable it env x = pure x := by intro _ _; rfl) :
    At c n l (execs (.Assign [.Name y py] (.ListComp elt [⟨.Name x px, it, [ct], 0⟩] scope pos) spos :: rest) c.env) Q := .asg1 hw J (.srcL hit ha h0 hz) (skL hJ) (fun i v ys n c2 _ hv hj hw2 => turnT (turn i v ys n c2 hv hj hw2)) kk hs hx hyl hyk hln hn hf
theorem At.src2 {x y : Str} {px py tp : Pos} {j : Nat} {α : Type} {cnt : Nat} {val : α → Nat → Value → Value → Prop} {Sk : α → Heap → Prop} {R : α → Led → Prop} {t : Sem Value} (hxy : x ≠ y) (h : At c n l t fun xv s₁ => wpAny (model PR w) c.A (pyIter xv) (fun itv s₂ => ∃ z, PSrc c l cnt (val z) (Sk z) (R z) itv s₂) c.E s₁) :
    At c n l t fun xv s₁ => wpAny (model PR w) c.A (pyIter xv) (fun itv s₂ => ∃ z, CSrc c l cnt (Sk z) (R z) (fun I fp wr St => Stp w c.A (.Tuple [.Name x px, .Name y py] j tp) [x, y] I fp wr cnt (fun i vals => ∃ a b, val z i a b ∧ vals = [a, b]) St) itv s₂) c.E s₁ :=
  h.mono fun _ _ h => wpAny_mono h (fun _ _ h => h.imp fun z h => h.map fun _ _ _ _ W => W.elim fun _ W => Stp.two rfl hxy W) fun _ _ x => x
theorem hx2 {scope : Scope} {x y : Str} (hx : scope.names.lookup x = some .local) (hy : scope.names.lookup y = some .local) : ∀ z ∈ [x, y], scope.names.lookup z = some .local := fun z hz => by
  rcases List.mem_cons.mp hz with rfl | hz
  · exact hx
  · rw [List.mem_singleton.mp hz]; exact hy
theorem At.pairComp {Q : Value → Shared → Prop} {elt it : PySem.Expr} {ifs : List PySem.Expr} {x y : Str} {px py tp pos : Pos} {j : Nat} {scope : Scope} {cnt : Nat} {α : Type} {val : α → Nat → Value → Value → Prop} {Sk : α → Heap → Prop} (hw : Wk c sc d u true) (J : α → Nat → List Value → Led → Prop)
    (src : At c n l (eval it c.env) fun xv s₁ => wpAny (model PR w) c.A (pyIter xv) (fun itv s₂ => ∃ z, PSrc c l cnt (val z) (Sk z) (J z 0 []) itv s₂) c.E s₁)
    (hJ : ∀ z i ys n m hid h, J z i ys n → Fr c.g c.L h m → News c.g c.L h (hid ++ n) → Sk z h)
    (turn : ∀ z i a b ys n (c2 : Cx w), i < cnt → val z i a b → J z i ys n → Wk c2 (relS scope sc) d u false → ∃ p, TstL c2 n ((x, some a) :: (y, some b) :: rst l (freeOf scope)) ifs p ∧ (p → EvG c2 n ((x, some a) :: (y, some b) :: rst l (freeOf scope)) elt fun r n' => J z (i + 1) (ys ++ [r]) n') ∧ (¬ p → J z (i + 1) ys n))
    (kk : ∀ z D ys n₀ n', J z cnt ys n₀ → New n₀ n' D (lstN ys ys.length) → Go c n' l Q (.ref D)) (hxy : x ≠ y := by decide)
    (hs : CsOk scope sc := by (show CsOkB _ _ = true); decide +kernel) (hx : scope.names.lookup x = some .local := by rfl) (hy : scope.names.lookup y = some .local := by rfl) (hf : ∀ (env : Env) x, foldedSetIterable it env x = pure x := by intro _ _; rfl) :
    At c n l (eval (.ListComp elt [⟨.Tuple [.Name x px, .Name y py] j tp, it, ifs, 0⟩] scope pos) c.env) Q :=
  .comp hw J (.src2 hxy src) hJ (fun z i vals ys n c2 hi hv hj hw2 => by refine X2_2 hv ?_; clear hv; rintro a b hv rfl; exact turn z i a b ys n c2 hi hv hj hw2) kk hs (hx2 hx hy) hf
theorem At.asgPair {Q : Flow → Shared → Prop} {elt it : PySem.Expr} {ifs : List PySem.Expr} {x y z : Str} {px py pz tp pos spos : Pos} {j : Nat} {scope : Scope} {cnt : Nat} {α : Type} {val : α → Nat → Value → Value → Prop} {Sk : α → Heap → Prop} (hw : Wk c sc d u true) (J : α → Nat → List Value → Led → Prop)
    (src : At c n l (eval it c.env) fun xv s₁ => wpAny (model PR w) c.A (pyIter xv) (fun itv s₂ => ∃ z, PSrc c l cnt (val z) (Sk z) (J z 0 []) itv s₂) c.E s₁)
    (hJ : ∀ z i ys n m hid h, J z i ys n → Fr c.g c.L h m → News c.g c.L h (hid ++ n) → Sk z h)
    (turn : ∀ z i a b ys n (c2 : Cx w), i < cnt → val z i a b → J z i ys n → Wk c2 (relS scope sc) d u false → ∃ p, TstL c2 n ((x, some a) :: (y, some b) :: rst l (freeOf scope)) ifs p ∧ (p → EvG c2 n ((x, some a) :: (y, some b) :: rst l (freeOf scope)) elt fun r n' => J z (i + 1) (ys ++ [r]) n') ∧ (¬ p → J z (i + 1) ys n))
    (kk : ∀ w' D ys n₀ n', J w' cnt ys n₀ → New n₀ n' D (lstN ys ys.length) → At c n' (put l z (.ref D)) (execs rest c.env) Q) (hxy : x ≠ y := by decide)
    (hs : CsOk scope sc := by (show CsOkB _ _ = true); decide +kernel) (hx : scope.names.lookup x = some .local := by rfl) (hy : scope.names.lookup y = some .local := by rfl) (hyl : (l.map (·.1)).contains z = true := by rfl) (hyk : sc.names.lookup z = some .local := by rfl)
    (hln : (pz.line == pos.line) = true := by rfl) (hn : (scope.names.any fun (n, k) => n == z && (k == .local || k == .cell)) = false := by rfl) (hf : ∀ (env : Env) x, foldedSetIterable it env x = pure x := by intro _ _; rfl) :
    At c n l (execs (.Assign [.Name z pz] (.ListComp elt [⟨.Tuple [.Name x px, .Name y py] j tp, it, ifs, 0⟩] scope pos) spos :: rest) c.env) Q :=
  .cmpA hw J (.src2 hxy src) hJ (fun z i vals ys n c2 hi hv hj hw2 => by refine X2_2 hv ?_; clear hv; rintro a b hv rfl; exact turn z i a b ys n c2 hi hv hj hw2) kk hs (hx2 hx hy) hf hyl hyk hln hn
end
end
section
section
variable {prog : Program} {w : World} {A : Around} {E : Value → Shared → Prop} {s : Shared} {h₀ : Heap} {L l : Addr} {m : Str → Option Value} {news : Led} {vs us : List Value} {n k : Nat} {v : Value} {Q : Value → Shared → Prop}
theorem popL (F : Fr h₀ L s.heap m) (N : News h₀ L s.heap ((l, lstN (vs ++ [v]) n) :: news)) (hn : ∀ p ∈ news, @Ne Nat p.1 l) (hz : vs.length ≤ 100000)
    (h : ∀ h', Fr h₀ L h' m → News h₀ L h' ((l, lstN vs (n + 1)) :: news) → Q v { s with heap := h' }) : wpAny (model prog w) A (call (.builtin "list.pop") [.ref l]) Q E s :=
  kl_pop F N (by simpa using kpa_last v vs) (.head hn) (by simp [sizeLine_eq]; lia) h
theorem appL (F : Fr h₀ L s.heap m) (N : News h₀ L s.heap ((l, lstN vs n) :: news)) (hn : ∀ p ∈ news, @Ne Nat p.1 l) (hz : vs.length ≤ 100000)
    (h : ∀ h', Fr h₀ L h' m → News h₀ L h' ((l, lstN (vs ++ [v]) (n + 1)) :: news) → Q .none { s with heap := h' }) : wpAny (model prog w) A (call (.builtin "list.append") [.ref l, v]) Q E s :=
  append_K F N (.head hn) (fun h' F' N' => h h' F' (by simpa using N')) (by rw [List.size_toArray, sizeLine_eq]; lia)
theorem extL {b : Addr} (F : Fr h₀ L s.heap m) (N : News h₀ L s.heap ((l, lstN vs n) :: news)) (hn : ∀ p ∈ news, @Ne Nat p.1 l) (hb : (b, lstN us k) ∈ news) (hz : vs.length ≤ 100000) (hz2 : us.length ≤ 1000)
    (h : ∀ h' n', Fr h₀ L h' m → News h₀ L h' ((l, lstN (vs ++ us) n') :: news) → Q .none { s with heap := h' }) : wpAny (model prog w) A (call (.builtin "list.extend") [.ref l, .ref b]) Q E s := by
  have hl : ¬(!(vs.toArray).isEmpty && Builtin.List.listTooLong (vs.toArray.size + us.toArray.size)) = true := by
    unfold Builtin.List.listTooLong
    simp [sizeLine_eq]
    lia
  cases us with
  | nil => exact kxn_extend F N (.tail _ hb) rfl (.head hn) hl (by simp [sizeLine_eq]; omega) (by simp [sizeLine_eq]; lia) fun h' F' N' => h h' n F' (by simpa using N')
  | cons u r => exact kl_extend (l := vs ++ u :: r) F N (.tail _ hb) (by simp) (by simp) (.head hn) hl (by simp [sizeLine_eq]; lia) (by simp [sizeLine_eq] at *; lia) fun h' F' N' => h h' _ F' N'
theorem sliceL {value slice : PySem.Expr} {ops : List Value} {vl vu vk : Value} {lo hi st : Option Int} {items : Array Value} (F : Fr h₀ L s.heap m) (N : News h₀ L s.heap news) (hl : s.heap.IsList l items) (pl : IsPart vl lo) (pu : IsPart vu hi) (pk : IsPart vk st) (h0 : st ≠ some 0) (hsz : items.size ≤ sizeLine)
    (h : ∀ D h', Fr h₀ L h' m → News h₀ L h' ((D, { cls := .type "list", data := .seq (slicePick items lo hi st) }) :: news) → (∀ p ∈ news, p.1 < D) → Q (.ref D) { s with heap := h' })
    (hs : subscripted slice false (.ref l) (.ref s.heap.objs.size) = operate ops (getItem (.ref l) (.ref s.heap.objs.size)) := by with_unfolding_all rfl) :
    wpAny (model prog w) A (subscriptTail value slice (.ref l) (.ref s.heap.objs.size)) Q E { s with heap := s.heap.push { cls := .type "slice", data := .fields #[vl, vu, vk] } } := by
  have hT : Shared.TypeIs { s with heap := s.heap.push { cls := .type "slice", data := .fields #[vl, vu, vk] } } (.ref l) "list" := Heap.IsList.typeIs (s := { s with heap := s.heap.push { cls := .type "slice", data := .fields #[vl, vu, vk] } }) (hl.push _)
  unfold subscriptTail
  refine wpAny_bind ?_
  rw [getitemInPython_of_ne hT.not_modules]
  refine wpAny_bind (wpAny_specialOf hT list_getitem_lookup ?_)
  have fin : wpAny (model prog w) A (subscripted slice false (.ref l) (.ref s.heap.objs.size)) (fun r s₃ => wpAny (model prog w) A (letTemporaryGo value (.ref l) r >>= fun _ => pure r) Q E s₃) E { s with heap := s.heap.push { cls := .type "slice", data := .fields #[vl, vu, vk] } } := by
    rw [hs]
    refine wpAny_operating (wpAny_getItem_list_slice (hl.push _) (Heap.IsSliceOf.new ..) pl pu pk h0 ?_ hsz)
    refine wpAny_bind (wpAny_letTemporaryGo (wpAny_pure ?_))
    have N1 := News.push (F.push { cls := .type "slice", data := .fields #[vl, vu, vk] }) (N.grown fun _ _ e => Heap.get?_push_of_some _ e) { cls := .type "list", data := .seq (slicePick items lo hi st) }
    rw [Heap.size_push] at N1
    show Q (.ref (s.heap.push _).objs.size) _
    rw [Heap.size_push]
    exact h _ _ ((F.push _).push _) N1 fun p hp => Nat.lt_succ_of_lt (Heap.lt_size (N p hp).1)
  first
    | exact wpAny_pure (wpAny_bind fin)
    | exact wpAny_bind (wpAny_pure (wpAny_bind fin))
    | exact wpAny_bind fin
end
end
section
section
variable {w : World} {c : Cx w} {n : Led} {l : Fm} {sc : Scope} {d u : Nat}
noncomputable def Cal (w : World) (f : Value) : Prop := ∀ h : Heap, (KK w).In h → ∃ k, (k = Keeper.frame ∨ k = Keeper.machine ∨ k = Keeper.boundFrame) ∧ Looks (model PR w) h (keeperOf f) k
theorem Cal.ref {a : Addr} (h : keepIn (KK w) (.ref a) = true) : Cal w (.ref a) := fun _ X => keeps_K h _ X
theorem Cal.blt {id : String} : Cal w (.builtin id) := fun _ _ => Y1_2 _ (.inr (.inl rfl)) (Looks.of_pure rfl)
theorem Cal.typ {T : String} : Cal w (.type T) := fun _ _ => Y1_2 _ (.inr (.inl rfl)) (Looks.of_pure rfl)
theorem Hp.X {h : Heap} (H : Hp c n l h) : (KK w).In h := by
  obtain ⟨m, hid, hV, F, N, O⟩ := H
  exact c.X.keeps F.keep
theorem At.arg0 {pos : Pos} {Q : List Value → Shared → Prop} (k : Go c n l Q []) : At c n l (spliced (backTo pos (starEach [] c.env))) Q := fun h' tk H => spliced_nil (k h' tk H)
theorem At.argP {e : PySem.Expr} {es : List PySem.Expr} {v : Value} {pos : Pos} {Q : List Value → Shared → Prop} (h1 : EvP c n l e v) (h2 : At c n l (spliced (backTo pos (starEach es c.env))) fun vs => Q (v :: vs)) (he : ∀ env, starEach (e :: es) env = (false, eval e env) :: starEach es env := by intro _; rfl) :
    At c n l (spliced (backTo pos (starEach (e :: es) c.env))) Q := fun h tk H => args_cons (h1 (fun v s' => wpAny (model PR w) c.A (spliced (backTo pos (starEach es c.env))) (fun vs => Q (v :: vs)) c.E s') h2 h tk H) (he _)
theorem At.argR {e : PySem.Expr} {es : List PySem.Expr} {P : Value → Prop} {pos : Pos} {Q : List Value → Shared → Prop} (h1 : EvR c n l e P) (h2 : ∀ v, P v → At c n l (spliced (backTo pos (starEach es c.env))) fun vs => Q (v :: vs)) (he : ∀ env, starEach (e :: es) env = (false, eval e env) :: starEach es env := by intro _; rfl) :
    At c n l (spliced (backTo pos (starEach (e :: es) c.env))) Q := fun h tk H => args_cons (h1 _ (fun v p => h2 v p) h tk H) (he _)
theorem At.argQ {e : PySem.Expr} {es : List PySem.Expr} {pos : Pos} {Q : List Value → Shared → Prop} (h1 : At c n l (eval e c.env) fun v s' => wpAny (model PR w) c.A (spliced (backTo pos (starEach es c.env))) (fun vs => Q (v :: vs)) c.E s') (he : ∀ env, starEach (e :: es) env = (false, eval e env) :: starEach es env := by intro _; rfl) :
    At c n l (spliced (backTo pos (starEach (e :: es) c.env))) Q := fun h tk H => args_cons (h1 h tk H) (he _)
theorem At.eTup {es : List PySem.Expr} {j : Nat} {pos : Pos} {Q : Value → Shared → Prop} (k : At c n l (spliced (backTo pos (starEach es c.env))) fun vs s' => wpAny (model PR w) c.A (newTuple vs) Q c.E s') : At c n l (eval (.Tuple es j pos) c.env) Q := fun h tk H => Tuple_ (k h tk H)
theorem At.eList {es : List PySem.Expr} {pos : Pos} {Q : Value → Shared → Prop} (k : At c n l (spliced (backTo pos (starEach es c.env))) fun vs s' => wpAny (model PR w) c.A (newList vs) Q c.E s') : At c n l (eval (.List es pos) c.env) Q := fun h tk H => List_ (k h tk H)
theorem At.newTup {vs : List Value} {Q : Value → Shared → Prop} (k : ∀ a n', New n n' a (tup vs) → Go c n' l Q (.ref a)) (hz : vs.length ≤ 1000 := by exact Nat.le_of_ble_eq_true rfl) : At c n l (newTuple vs) Q := fun h tk H => by
  obtain ⟨m, hid, hV, F, N, O⟩ := H
  exact kup_newTuple F N (fun a h' F' N' lt => k a _ (New.of fun p hp => lt p (List.mem_append_right _ hp)) h' tk (Hp.new hV O F' N' lt)) (by rw [sizeLine_eq]; lia)
theorem At.newLst {vs : List Value} {Q : Value → Shared → Prop} (k : ∀ a n', New n n' a (lstN vs 0) → Go c n' l Q (.ref a)) (hz : vs.length ≤ 1000 := by exact Nat.le_of_ble_eq_true rfl) : At c n l (newList vs) Q := Hp.list hz k
noncomputable def CaG {w : World} (c : Cx w) (n : Led) (l : Fm) (f : Value) (vs : List Value) (R : Value → Led → Prop) : Prop := ∀ Q, (∀ v n', R v n' → Go c n' l Q v) → At c n l (call f vs) Q
theorem At.callW {f : Value} {first : List Value} {e : PySem.Expr} {es : List PySem.Expr} {pos : Pos} {Q : Value → Shared → Prop} (hc : Cal w f) (h : At c n l (spliced (backTo pos (starEach (e :: es) c.env))) fun vs s' => (KK w).In s'.heap ∧ wpAny (model PR w) c.A (call f (first ++ vs)) Q c.E s')
    (he : ∀ env, starEach (e :: es) env = (false, eval e env) :: starEach es env := by intro _; rfl) (hp : ∀ env pos, (backTo pos (starEach es env)).any (·.1) = false := by intro _ _; rfl) :
    At c n l (callWith pos f first (backTo pos (starEach (e :: es) c.env)) []) Q := fun h' tk H => by
  have h2 := h h' tk H
  rw [he] at h2 ⊢
  exact callWith_of (by show ((false || (backTo pos (starEach es c.env)).any (·.1)) || false) = false; rw [hp]; rfl) hc (evalArgs_plain h2)
theorem At.callW0 {f : Value} {first : List Value} {pos : Pos} {Q : Value → Shared → Prop} (hc : Cal w f) (k : At c n l (call f (first ++ [])) Q) : At c n l (callWith pos f first (backTo pos (starEach [] c.env)) []) Q := fun h' tk H =>
  callWith_of rfl hc (evalArgs_nil3 ⟨H.X, k h' tk H⟩)
noncomputable def Cq {w : World} (c : Cx w) (f : Value) (first : List Value) (Q : Value → Shared → Prop) (vs : List Value) (s' : Shared) : Prop := (KK w).In s'.heap ∧ wpAny (model PR w) c.A (call f (first ++ vs)) Q c.E s'
theorem Go.cq {f : Value} {first vs : List Value} {Q : Value → Shared → Prop} (k : At c n l (call f (first ++ vs)) Q) : Go c n l (Cq c f first Q) vs := fun h tk H => ⟨H.X, k h tk H⟩
theorem At.eCall {fx e : PySem.Expr} {es : List PySem.Expr} {pos : Pos} {f : Value} {Q : Value → Shared → Prop} (hf : EvP c n l fx f) (hc : Cal w f) (k : At c n l (spliced (backTo pos (starEach (e :: es) c.env))) (Cq c f [] Q))
    (hx : ∀ env : Env, eval (.Call fx (e :: es) [] pos) env = (do callWith pos (← eval fx env) [] (backTo pos (starEach (e :: es) env)) []) := by intro _; rfl)
    (he : ∀ env, starEach (e :: es) env = (false, eval e env) :: starEach es env := by intro _; rfl) (hp : ∀ env pos, (backTo pos (starEach es env)).any (·.1) = false := by intro _ _; rfl) : At c n l (eval (.Call fx (e :: es) [] pos) c.env) Q := fun h' tk H => by
  rw [hx]
  exact wpAny_bind (hf (fun v s₁ => wpAny (model PR w) c.A (callWith pos v [] (backTo pos (starEach (e :: es) c.env)) []) Q c.E s₁) (At.callW hc k he hp) h' tk H)
noncomputable def Mt {w : World} (c : Cx w) (n : Led) (l : Fm) (o : Value) (name : Str) (f : Value) (first : List Value) : Prop := ∀ pl Q, Go c n l Q (f, first) → At c n l (getMethod o name pl) Q
theorem At.eMeth {o e : PySem.Expr} {es : List PySem.Expr} {apos pos : Pos} {ov f : Value} {name : Str} {first : List Value} {Q : Value → Shared → Prop} (ho : EvP c n l o ov) (hm : Mt c n l ov name f first) (hc : Cal w f) (k : At c n l (spliced (backTo pos (starEach (e :: es) c.env))) (Cq c f first Q))
    (hx : ∀ env : Env, ∃ pl, eval (.Call (.Attribute o name apos) (e :: es) [] pos) env = (do
      let ov ← eval o env
      standAt apos.atName
      let (f, first) ← holding [ov] (getMethod ov name pl)
      callWith pos f first (backTo pos (starEach (e :: es) env)) []) := by intro _; exact ⟨_, rfl⟩)
    (he : ∀ env, starEach (e :: es) env = (false, eval e env) :: starEach es env := by intro _; rfl) (hp : ∀ env pos, (backTo pos (starEach es env)).any (·.1) = false := by intro _ _; rfl) : At c n l (eval (.Call (.Attribute o name apos) (e :: es) [] pos) c.env) Q := fun h' tk H => by
  obtain ⟨pl, hx⟩ := hx c.env
  rw [hx]
  exact wpAny_bind (ho (fun v s₁ => wpAny (model PR w) c.A (do
      standAt apos.atName
      let (f, first) ← holding [v] (getMethod v name pl)
      callWith pos f first (backTo pos (starEach (e :: es) c.env)) []) Q c.E s₁) (At.stand (Q := Q) fun h2 tk H => wpAny_bind (wpAny_holding (hm pl (fun x s₁ => wpAny (model PR w) c.A (callWith pos x.1 x.2 (backTo pos (starEach (e :: es) c.env)) []) Q c.E s₁) (At.callW hc k he hp) h2 tk H))) h' tk H)
theorem At.eMeth0 {o : PySem.Expr} {apos pos : Pos} {ov f : Value} {name : Str} {first : List Value} {Q : Value → Shared → Prop} (ho : EvP c n l o ov) (hm : Mt c n l ov name f first) (hc : Cal w f) (k : At c n l (call f (first ++ [])) Q)
    (hx : ∀ env : Env, ∃ pl, eval (.Call (.Attribute o name apos) [] [] pos) env = (do
      let ov ← eval o env
      standAt apos.atName
      let (f, first) ← holding [ov] (getMethod ov name pl)
      callWith pos f first (backTo pos (starEach [] env)) []) := by intro _; exact ⟨_, rfl⟩) : At c n l (eval (.Call (.Attribute o name apos) [] [] pos) c.env) Q := fun h' tk H => by
  obtain ⟨pl, hx⟩ := hx c.env
  rw [hx]
  exact wpAny_bind (ho (fun v s₁ => wpAny (model PR w) c.A (do
      standAt apos.atName
      let (f, first) ← holding [v] (getMethod v name pl)
      callWith pos f first (backTo pos (starEach [] c.env)) []) Q c.E s₁) (At.stand (Q := Q) fun h2 tk H => wpAny_bind (wpAny_holding (hm pl (fun x s₁ => wpAny (model PR w) c.A (callWith pos x.1 x.2 (backTo pos (starEach [] c.env)) []) Q c.E s₁) (At.callW0 hc k) h2 tk H))) h' tk H)
theorem Mt.list {a : Addr} {vs : List Value} {k : Nat} {name : Str} {id : String} (ha : (a, lstN vs k) ∈ n) (slot : Slot "list" name id) (hty : typeOf (.builtin id) = pure (.type "method_descriptor")) : Mt c n l (.ref a) name (.builtin id) [.ref a] := fun pl Q k h tk H => by
  have H' := H
  obtain ⟨m, hid, hV, F, N, O⟩ := H
  exact kl_method N (List.mem_append_right _ ha) slot hty (k h tk H')
theorem Mt.inst {a d C : Addr} {es : List DictEntry} {k : Nat} {name : Str} {f : Addr} (h1 : (a, instObj C d) ∈ n) (h2 : (d, dictOf es k) ∈ n) (hg : plainGet (KK w) C name = true) (hf : findIn (KK w) (.ref C) name = some (some (.ref f))) (ht : isFn (KK w) (.ref f) = true) (hl : getL name es = some none) : Mt c n l (.ref a) name (.ref f) [.ref a] := fun pl Q k h tk H => by
  have H' := H
  obtain ⟨m, hid, hV, F, N, O⟩ := H
  exact method_inst F c.X (InstAt.of_news N (List.mem_append_right _ h1) (List.mem_append_right _ h2)) hg hf ht hl (k h tk H')
theorem Hp.app {a : Addr} {vs : List Value} {k : Nat} {v : Value} (ha : (a, lstN vs k) ∈ n) (hz : vs.length ≤ 100000) : CaG c n l (.builtin "list.append") [.ref a, v] fun r n' => r = .none ∧ ∃ k', Mut n n' a (lstN (vs ++ [v]) k') := fun Q kk h tk H => by
  obtain ⟨m, hid, hV, F, N, O⟩ := H
  exact appL F (Hp.front N ha) front_ne hz fun h' F' N' => kk _ _ ⟨rfl, _, Mut.of⟩ h' tk (Hp.mut hV O F' ha N')
theorem Hp.pop {a : Addr} {vs : List Value} {k : Nat} {v : Value} (ha : (a, lstN (vs ++ [v]) k) ∈ n) (hz : vs.length ≤ 100000) : CaG c n l (.builtin "list.pop") [.ref a] fun r n' => r = v ∧ ∃ k', Mut n n' a (lstN vs k') := fun Q kk h tk H => by
  obtain ⟨m, hid, hV, F, N, O⟩ := H
  exact popL F (Hp.front N ha) front_ne hz fun h' F' N' => kk _ _ ⟨rfl, _, Mut.of⟩ h' tk (Hp.mut hV O F' ha N')
theorem Hp.ext {a b : Addr} {vs us : List Value} {k j : Nat} (ha : (a, lstN vs k) ∈ n) (hb : (b, lstN us j) ∈ n) (hn : @Ne Nat b a) (hz : vs.length ≤ 100000) (hz2 : us.length ≤ 1000) : CaG c n l (.builtin "list.extend") [.ref a, .ref b] fun r n' => r = .none ∧ ∃ k', Mut n n' a (lstN (vs ++ us) k') := fun Q kk h tk H => by
  obtain ⟨m, hid, hV, F, N, O⟩ := H
  exact extL F (Hp.front N ha) front_ne (List.mem_filter.mpr ⟨List.mem_append_right _ hb, by simpa using hn⟩) hz hz2 fun h' k' F' N' => kk _ _ ⟨rfl, _, Mut.of⟩ h' tk (Hp.mut hV O F' ha N')
theorem EvP.nm {e : PySem.Expr} {pos : Pos} {a d pl : Addr} {t1 t2 t3 t4 t5 : Tok} {vn vo : Value} {cn : Int} (he : EvP c n l e (.ref a)) (h1 : (a, instObj 207 d) ∈ n) (h2 : (d, dictOf (treeEs w t1 t2 t3 t4 t5 vn vo cn pl) 4) ∈ n) (hv : handedIn vn = true)
    (hx : ∀ env : Env, eval (.Attribute e (Str.ofString "name") pos) env = (do
      let o ← eval e env
      standAt pos.atName
      let r ← holding [o] (getAttr o (Str.ofString "name") true)
      letTemporaryGo e o r
      pure r) := by intro _; with_unfolding_all rfl) : EvP c n l (.Attribute e (Str.ofString "name") pos) vn := .attr he h1 h2 pl_name rfl hv hx
theorem EvP.cn {e : PySem.Expr} {pos : Pos} {a d pl : Addr} {t1 t2 t3 t4 t5 : Tok} {vn vo : Value} {cn : Int} (he : EvP c n l e (.ref a)) (h1 : (a, instObj 207 d) ∈ n) (h2 : (d, dictOf (treeEs w t1 t2 t3 t4 t5 vn vo cn pl) 4) ∈ n)
    (hx : ∀ env : Env, eval (.Attribute e (Str.ofString "count") pos) env = (do
      let o ← eval e env
      standAt pos.atName
      let r ← holding [o] (getAttr o (Str.ofString "count") true)
      letTemporaryGo e o r
      pure r) := by intro _; with_unfolding_all rfl) : EvP c n l (.Attribute e (Str.ofString "count") pos) (.int cn t5) := .attr he h1 h2 pl_count rfl rfl hx
theorem EvP.od {e : PySem.Expr} {pos : Pos} {a d pl : Addr} {t1 t2 t3 t4 t5 : Tok} {vn vo : Value} {cn : Int} (he : EvP c n l e (.ref a)) (h1 : (a, instObj 207 d) ∈ n) (h2 : (d, dictOf (treeEs w t1 t2 t3 t4 t5 vn vo cn pl) 4) ∈ n) (hv : handedIn vo = true)
    (hx : ∀ env : Env, eval (.Attribute e (Str.ofString "oid") pos) env = (do
      let o ← eval e env
      standAt pos.atName
      let r ← holding [o] (getAttr o (Str.ofString "oid") true)
      letTemporaryGo e o r
      pure r) := by intro _; with_unfolding_all rfl) : EvP c n l (.Attribute e (Str.ofString "oid") pos) vo := .attr he h1 h2 pl_oid rfl hv hx
theorem EvP.pt {e : PySem.Expr} {pos : Pos} {a d pl : Addr} {t1 t2 t3 t4 t5 : Tok} {vn vo : Value} {cn : Int} (he : EvP c n l e (.ref a)) (h1 : (a, instObj 207 d) ∈ n) (h2 : (d, dictOf (treeEs w t1 t2 t3 t4 t5 vn vo cn pl) 4) ∈ n)
    (hx : ∀ env : Env, eval (.Attribute e (Str.ofString "parts") pos) env = (do
      let o ← eval e env
      standAt pos.atName
      let r ← holding [o] (getAttr o (Str.ofString "parts") true)
      letTemporaryGo e o r
      pure r) := by intro _; with_unfolding_all rfl) : EvP c n l (.Attribute e (Str.ofString "parts") pos) (.ref pl) := .attr he h1 h2 pl_parts rfl rfl hx
end
theorem Ext.rfl' {n : Led} : Ext n n [] := ⟨fun _ h => h, fun _ h => (nomatch h), Apart.nil⟩
theorem Ext.trans {n n1 n2 t1 t2 : Led} (h1 : Ext n n1 t1) (h2 : Ext n1 n2 t2) : Ext n n2 (t1 ++ t2) :=
  ⟨fun q h => h2.sub q (h1.sub q h), fun q h => (List.mem_append.mp h).elim (fun h => h2.sub q (h1.new q h)) fun h => h2.new q h, h1.apart.app (h2.apart.sub h1.sub fun _ h => h)⟩
theorem Ext.mk1 {n n1 n2 tl : Led} {a : Addr} {o : Obj} (h1 : Ext n n1 tl) (h2 : New n1 n2 a o) : Ext n n2 ((a, o) :: tl) :=
  ⟨fun q h => h2.sub q (h1.sub q h), fun q h => by
    rcases List.mem_cons.mp h with rfl | h
    · exact h2.mem
    · exact h2.sub q (h1.new q h), h1.apart.cons fun q hq => h2.ne q (h1.sub q hq)⟩
end
section
section
open PySem.SeqAt
variable {A : Around} {s : Shared}
theorem ne_nil {prog : Program} {w : World} {E : Value → Shared → Prop} {Q : Value → Shared → Prop} {h₀ : Heap} {L D l : Addr} {ys : List Value} {k : Nat} {news : Led} (N : News h₀ L s.heap news) (h1 : (D, lstN ys k) ∈ news) (h2 : (l, W.listOf #[] 0) ∈ news) (hu : A.units < cLine)
    (h : Q (.bool (!ys.isEmpty)) s) : wpAny (model prog w) A (compareOp .NotEq (.ref D) (.ref l)) Q E s := by
  have a := News.isList N h1
  have b : s.heap.IsList l (#[] : Array Value) := News.isList (items := #[]) N h2
  cases ys with
  | nil => exact RcNeAt.lists (e := fun _ => true) a b rfl hu (fun j h1 h2 => absurd h1 (Nat.not_lt_zero j)) prog w E Q (by simpa using h)
  | cons c r => exact RcNeAt.lists_lengths a b (by simp) hu prog w E Q h
theorem eqAt_bytes (b c : Bs) (t u : Tok) : EqAt A s (.bytes b.toArray t) (.bytes c.toArray u) (decide (b = c)) := fun prog w E Q h => eqBool_bytes (by simpa using h)
theorem sub_none_bytes : isSubtype (.type "NoneType") (.type "bytes") = pure false := by rw [isSubtype_type]; kernel_rfl
theorem sub_bytes_none : isSubtype (.type "bytes") (.type "NoneType") = pure false := by rw [isSubtype_type]; kernel_rfl
theorem gives_bytes_none (b : Array UInt8) (t : Tok) : Gives (Builtin.«bytes.__eq__» ⟨[.bytes b t, .none], []⟩) (.val (.notImplemented)) :=
  .of_wp fun M A E s Q h => by obtain ⟨hp, g, d, tk, os⟩ := s; have f1 := sub_none_bytes; wp_walk; exact Y1_2 _ rfl h
theorem gives_none_bytes (b : Array UInt8) (t : Tok) : Gives (Builtin.«NoneType.__eq__» ⟨[.none, .bytes b t], []⟩) (.val (.notImplemented)) :=
  .of_wp fun M A E s Q h => by obtain ⟨hp, g, d, tk, os⟩ := s; wp_walk; exact Y1_2 _ rfl h
theorem slot_bytes_eq_refl : Slot "bytes" (cmpInfo .Eq).2.2 "bytes.__eq__" := FB.slot_bytes_eq
theorem rcAt_none_bytes (b : Array UInt8) (u : Tok) : RcAt A s .none (.bytes b u) false := fun prog w E Q h =>
  rc_eq_decline_or (k := false) rfl (typeIs_bytes s b u) (by decide) sub_bytes_none F.slot_NoneType_eq slot_bytes_eq_refl
    (fun _ hq => call_gives F.slot_NoneType_eq rfl F.entry_NoneType_eq (F.args_NoneType_eq_2 _ _) (gives_none_bytes b u) hq)
    (fun _ hq => call_gives slot_bytes_eq_refl (typeIs_bytes s b u) FB.entry_bytes_eq (FB.args_bytes_eq_2 _ _) (gives_bytes_none b u) hq)
    (fun _ hq => wpAny_of_eq (rfl : isSame .none (.bytes b u) = pure false) hq) (.inl rfl) h
theorem rcAt_bytes_none (b : Array UInt8) (u : Tok) : RcAt A s (.bytes b u) .none false := fun prog w E Q h =>
  rc_eq_decline_or (k := false) (typeIs_bytes s b u) rfl (by decide) sub_none_bytes FB.slot_bytes_eq F.slot_NoneType_eq_refl
    (fun _ hq => call_gives FB.slot_bytes_eq (typeIs_bytes s b u) FB.entry_bytes_eq (FB.args_bytes_eq_2 _ _) (gives_bytes_none b u) hq)
    (fun _ hq => call_gives F.slot_NoneType_eq_refl rfl F.entry_NoneType_eq (F.args_NoneType_eq_2 _ _) (gives_none_bytes b u) hq)
    (fun _ hq => wpAny_of_eq (rfl : isSame (.bytes b u) .none = pure false) hq) (.inl rfl) h
theorem eqAt_none_bytes (b : Array UInt8) (u : Tok) : EqAt A s .none (.bytes b u) false := fun prog w E Q h => by
  unfold eqBool
  refine wpAny_holding ?_
  refine wpAny_ite_split (fun hab => absurd (eq_of_beq hab) nofun) (fun _ => ?_)
  exact wpAny_bind (rcAt_none_bytes b u prog w E _ (wpAny_truthy_bool h))
theorem eqAt_bytes_none (b : Array UInt8) (u : Tok) : EqAt A s (.bytes b u) .none false := fun prog w E Q h => by
  unfold eqBool
  refine wpAny_holding ?_
  refine wpAny_ite_split (fun hab => absurd (eq_of_beq hab) nofun) (fun _ => ?_)
  exact wpAny_bind (rcAt_bytes_none b u prog w E _ (wpAny_truthy_bool h))
theorem eqAt_none_none : EqAt A s .none .none true := fun prog w E Q h => by
  unfold eqBool
  refine wpAny_holding ?_
  refine wpAny_ite_split (fun _ => ?_) (fun hab => absurd (show (Value.none == Value.none) = true from rfl) hab)
  exact wpAny_bind (wpAny_rule (wpAny_pure h))
theorem eqAt_ov {v v' : Value} {o o' : Option Bs} (h : OV v o) (h' : OV v' o') : EqAt A s v v' (decide (o = o')) := by
  cases o with
  | none =>
    cases o' with
    | none => subst h h'; exact eqAt_none_none
    | some c => obtain ⟨u, rfl⟩ := h'; subst h; exact eqAt_none_bytes _ _
  | some b =>
    cases o' with
    | none => obtain ⟨t, rfl⟩ := h; subst h'; exact eqAt_bytes_none _ _
    | some c =>
      obtain ⟨t, rfl⟩ := h
      obtain ⟨u, rfl⟩ := h'
      have := eqAt_bytes (A := A) (s := s) b c t u
      simpa using this
theorem tolds_get {l : Led} : ∀ {ps : List Tree} {vs : List Value} {i : Nat} {v : Value}, ToldsIn l vs ps → vs[i]? = some v → ∃ t, ps[i]? = some t ∧ ToldIn l v t
  | [], [], _, _, _, e => by simp at e
  | [], _ :: _, _, _, h, _ => False.elim h
  | _ :: _, [], _, _, h, _ => False.elim h
  | p :: ps, v :: vs, 0, u, h, e => by change _ ∧ _ at h; simp at e; subst e; exact Y1_2 p rfl h.1
  | p :: ps, v :: vs, i + 1, u, h, e => by change _ ∧ _ at h; simp at e; refine X1_2 (tolds_get h.2 e) fun t a b => ?_; exact Y1_2 t (by simpa using a) b
noncomputable def four (a b c d : Bool) : Nat → Bool
  | 0 => a
  | 1 => b
  | 2 => c
  | _ => d
open Classical in
theorem told_eq {h₀ : Heap} {L : Addr} {l1 l2 : Led} (N1 : News h₀ L s.heap l1) (N2 : News h₀ L s.heap l2) (ap : Apart l1 l2) : ∀ (t1 t2 : Tree) (A : Around) (v1 v2 : Value), ToldIn l1 v1 t1 → ToldIn l2 v2 t2 → A.units + 2 * t1.ht < cLine →
    (∃ a1 a2, v1 = .ref a1 ∧ v2 = .ref a2 ∧ a1 ≠ a2) ∧ RcAt A s v1 v2 (decide (t1 = t2)) ∧ RcNeAt A s v1 v2 (!decide (t1 = t2)) := by
  intro t1
  induction t1 using Tree.ind with
  | h n c o ps ih =>
    rintro ⟨n', c', o', ps'⟩ A v1 v2 h1 h2 hu
    have h1' := h1
    have h2' := h2
    change Exists _ at h1 h2
    refine X7_6 h1 ?_; clear h1; rintro a tn vo pl t vs i rfl m1 ho mp hps hl
    refine X7_6 h2 ?_; clear h2; rintro a' tn' vo' pl' t' vs' i' rfl m1' ho' mp' hps' hl'
    unfold Tree.ht at hu
    have ta : s.heap.IsTuple a #[.bytes n.toArray tn, .int c t, vo, .ref pl] := Y1_3 _ ((N1 _ m1).1) rfl ⟨_, rfl⟩
    have tb : s.heap.IsTuple a' #[.bytes n'.toArray tn', .int c' t', vo', .ref pl'] := Y1_3 _ ((N2 _ m1').1) rfl ⟨_, rfl⟩
    have hx : A.in1.in1.units + 2 * Tree.hts ps < cLine := by simp only [units_in1] at *; lia
    have la := News.isList N1 mp
    have lb := News.isList N2 mp'
    have hlist : EqAt A.in1 s (.ref pl) (.ref pl') (decide (ps = ps')) := by
      refine .of_refs (ap _ mp _ mp') ?_
      by_cases hsz : vs.length = vs'.length
      · have e : (List.range vs.toArray.size).all (fun j => decide (ps[j]? = ps'[j]?)) = decide (ps = ps') := by
          rw [Bool.eq_iff_iff, List.all_eq_true, decide_eq_true_eq]
          constructor
          · intro hall
            apply List.ext_getElem?
            intro j
            by_cases hj : j < vs.length
            · have := hall j (List.mem_range.mpr (by simpa using hj))
              simpa using this
            · rw [List.getElem?_eq_none (by rw [← tolds_len hps]; lia), List.getElem?_eq_none (by rw [← tolds_len hps', ← hsz]; omega)]
          · rintro rfl j _
            simp
        rw [← e]
        refine RcAt.lists la lb (by simpa using hsz) (by simp only [units_in1] at *; lia) fun j j1 j2 => ?_
        have g1 : vs[j]? = some vs.toArray[j] := by simp at j1 ⊢
        have g2 : vs'[j]? = some vs'.toArray[j] := by simp at j2 ⊢
        refine X1_2 (tolds_get hps g1) fun p hp hin => ?_
        refine X1_2 (tolds_get hps' g2) fun p' hp' hin' => ?_
        refine X0_3 (ih p (List.mem_of_getElem? hp) p' A.in1.in1 _ _ hin hin' (by have := Tree.ht_le (List.mem_of_getElem? hp); lia)) ?_; rintro ⟨b1, b2, e1, e2, hne⟩ hrc _
        rw [hp, hp']
        have e3 : decide (some p = some p') = decide (p = p') := by simp
        rw [e3]
        rw [e1, e2] at hrc ⊢
        exact .of_refs hne hrc
      · have e : decide (ps = ps') = false := by
          rw [decide_eq_false_iff_not]
          rintro rfl
          exact hsz ((tolds_len hps).trans (tolds_len hps').symm)
        rw [e]
        exact RcAt.lists_lengths la lb (by simpa using hsz) (by simp only [units_in1] at *; omega)
    have key : ∀ j (h1 : j < (#[Value.bytes n.toArray tn, .int c t, vo, .ref pl] : Array Value).size) (h2 : j < (#[Value.bytes n'.toArray tn', .int c' t', vo', .ref pl'] : Array Value).size),
        EqAt A.in1 s (#[Value.bytes n.toArray tn, .int c t, vo, .ref pl] : Array Value)[j] (#[Value.bytes n'.toArray tn', .int c' t', vo', .ref pl'] : Array Value)[j]
          (four (decide (n = n')) (c == c') (decide (o = o')) (decide (ps = ps')) j) := by
      intro j j1 j2
      match j with
      | 0 => exact eqAt_bytes _ _ _ _
      | 1 => exact EqAt.int_int _ _ _ _
      | 2 => exact eqAt_ov ho ho'
      | 3 => exact hlist
      | k + 4 => simp at j1; lia
    have e : ((List.range (min (#[Value.bytes n.toArray tn, .int c t, vo, .ref pl] : Array Value).size (#[Value.bytes n'.toArray tn', .int c' t', vo', .ref pl'] : Array Value).size)).all (four (decide (n = n')) (c == c') (decide (o = o')) (decide (ps = ps'))) && (#[Value.bytes n.toArray tn, .int c t, vo, .ref pl] : Array Value).size == (#[Value.bytes n'.toArray tn', .int c' t', vo', .ref pl'] : Array Value).size) = decide (Tree.mk n c o ps = Tree.mk n' c' o' ps') := by
      rw [Bool.eq_iff_iff, decide_eq_true_eq, Tree.mk.injEq]
      show (List.all [0, 1, 2, 3] _ && true) = true ↔ _
      simp [four]
    refine Y0_3 (Y2_3 a a' rfl rfl (ap _ m1 _ m1')) ?_ ?_
    · rw [← e]
      exact RcAt.tuples ta tb (by simp only [units_in1] at *; lia) key
    · rw [← e]
      exact RcNeAt.tuples ta tb (by simp only [units_in1] at *; omega) key
end
end
section
section
variable {w : World} {c : Cx w} {n : Led} {l : Fm} {rest : List Stmt} {sc : Scope} {d u : Nat}
structure NewN (w : World) (n n' : Led) (x d : Addr) (o : Obj) : Prop where
  m1 : (x, instObj 207 d) ∈ n'
  m2 : (d, o) ∈ n'
  sub : ∀ q ∈ n, q ∈ n'
  nx : ∀ q ∈ n, @Ne Nat q.1 x
  nd : ∀ q ∈ n, @Ne Nat q.1 d
  ne : @Ne Nat d x
noncomputable def Ps (w : World) (C : Addr) (x : Str) : Prop := findIn (KK w) (.ref C) "__setattr__" = some (some (.builtin "object.__setattr__")) ∧ plainOver (KK w) C = true ∧ takerIn (KK w) C x = some none ∧ hasDictIn (KK w) C = true
theorem ps_count : Ps w 207 (Str.ofString "count") := Y0_4 (by rfl) (by rfl) (by rfl) (by rfl)
theorem ps_parts : Ps w 207 (Str.ofString "parts") := Y0_4 (by rfl) (by rfl) (by rfl) (by rfl)
theorem ps_oid : Ps w 207 (Str.ofString "oid") := Y0_4 (by rfl) (by rfl) (by rfl) (by rfl)
theorem At.set {x : Str} {a d C : Addr} {es es' : List DictEntry} {k k' : Nat} {v : Value} {Q : Unit → Shared → Prop} (h1 : (a, instObj C d) ∈ n) (h2 : (d, dictOf es k) ∈ n) (hne : @Ne Nat a d) (hp : Ps w C x) (hl : (getL x es).isSome = true)
    (e : ∀ tk, (putL x (PyData.keyHash w.params x) (.str x tk) v es, putN x es k) = (es', k')) (hz : es'.length ≤ 1000) (kk : ∀ n', Mut n n' d (dictOf es' k') → Go c n' l Q ()) : At c n l (setAttr (.ref a) x v) Q := fun h tk H => by
  refine X0_4 hp ?_; clear hp; rintro hs ho ht hd
  obtain ⟨m, hid, hV, F, N, O⟩ := H
  have h1' : (a, instObj C d) ∈ (d, dictOf es k) :: (hid ++ n).filter fun p => decide (@Ne Nat p.1 d) := .tail _ (List.mem_filter.mpr ⟨List.mem_append_right _ h1, by simpa using hne⟩)
  have N1 := Hp.front N h2
  exact set_dict F c.X N1 (InstAt.of_news N1 h1' (.head _)) rfl hs ho ht hd hl (e _) (.head front_ne) hz fun h' F' N' => kk _ Mut.of h' _ (Hp.mut hV O F' h2 N')
theorem At.setParts {a d pl pl' : Addr} {t1 t2 t3 t4 t5 : Tok} {vn vo : Value} {cn : Int} {Q : Unit → Shared → Prop} (h1 : (a, instObj 207 d) ∈ n) (h2 : (d, dictOf (treeEs w t1 t2 t3 t4 t5 vn vo cn pl) 4) ∈ n) (hne : @Ne Nat a d)
    (kk : ∀ n', Mut n n' d (dictOf (treeEs w t1 t2 t3 t4 t5 vn vo cn pl') 4) → Go c n' l Q ()) : At c n l (setAttr (.ref a) (Str.ofString "parts") (.ref pl')) Q :=
  At.set h1 h2 hne ps_parts rfl (fun _ => rfl) (Nat.le_of_ble_eq_true rfl) kk
theorem At.setCount {a d pl : Addr} {t1 t2 t3 t4 t5 t6 : Tok} {vn vo : Value} {cn cn' : Int} {Q : Unit → Shared → Prop} (h1 : (a, instObj 207 d) ∈ n) (h2 : (d, dictOf (treeEs w t1 t2 t3 t4 t5 vn vo cn pl) 4) ∈ n) (hne : @Ne Nat a d)
    (kk : ∀ n', Mut n n' d (dictOf (treeEs w t1 t2 t3 t4 t6 vn vo cn' pl) 4) → Go c n' l Q ()) : At c n l (setAttr (.ref a) (Str.ofString "count") (.int cn' t6)) Q :=
  At.set h1 h2 hne ps_count rfl (fun _ => rfl) (Nat.le_of_ble_eq_true rfl) kk
theorem At.setOid {a d pl : Addr} {t1 t2 t3 t4 t5 : Tok} {vn vo vo' : Value} {cn : Int} {Q : Unit → Shared → Prop} (h1 : (a, instObj 207 d) ∈ n) (h2 : (d, dictOf (treeEs w t1 t2 t3 t4 t5 vn vo cn pl) 4) ∈ n) (hne : @Ne Nat a d)
    (kk : ∀ n', Mut n n' d (dictOf (treeEs w t1 t2 t3 t4 t5 vn vo' cn pl) 4) → Go c n' l Q ()) : At c n l (setAttr (.ref a) (Str.ofString "oid") vo') Q :=
  At.set h1 h2 hne ps_oid rfl (fun _ => rfl) (Nat.le_of_ble_eq_true rfl) kk
theorem At.setA {x y : Str} {py px pos : Pos} {e : PySem.Expr} {Q : Flow → Shared → Prop} (k : At c n l (eval e c.env) fun v s' => wpAny (model PR w) c.A (eval (.Name y py) c.env) (fun o s₂ => wpAny (model PR w) c.A (setAttr o x v) (fun _ => Th c rest Q .next) c.E s₂) c.E s')
    (hs : ∀ env, swapsWith e (some (.Attribute (.Name y py) x px)) pos.line env = pure false := by intro _; rfl) : At c n l (execs (.Assign [.Attribute (.Name y py) x px] e pos :: rest) c.env) Q :=
  .cons fun h' tk H => plainObj_wpAny_Assign_Attribute (k h' tk H) (hs _)
theorem Go.setA {x y : Str} {py : Pos} {o v : Value} {Q : Flow → Shared → Prop} (h : frm l y = some o) (k : At c n l (setAttr o x v) fun _ => Th c rest Q .next) (hd : (y == ("__debug__" : Str)) = false := by decide) :
    Go c n l (fun v s' => wpAny (model PR w) c.A (eval (.Name y py) c.env) (fun o s₂ => wpAny (model PR w) c.A (setAttr o x v) (fun _ => Th c rest Q .next) c.E s₂) c.E s') v :=
  fun h' tk H => (EvP.name h hd : EvP c n l (.Name y py) o) (fun o s₂ => wpAny (model PR w) c.A (setAttr o x v) (fun _ => Th c rest Q .next) c.E s₂) k h' tk H
theorem Tst.neNil {e : PySem.Expr} {p1 p2 : Pos} {a : Addr} {vs : List Value} {k : Nat} (he : EvP c n l e (.ref a)) (ha : (a, lstN vs k) ∈ n) (hu : c.un < cLine) : Tst c n l (.Compare e [.NotEq] [.List [] p1] p2) (vs ≠ []) := fun Q k1 k2 h tk H => by
  refine wpAny_isTrue_Compare1 (he _ (fun h tk H => ?_) h tk H)
  refine List_ (spliced_nil ?_)
  obtain ⟨m, hid, hV, F, N, O⟩ := H
  refine newList_K F N (fun b h' F' N' lt => ?_) (by decide)
  refine ne_nil N' (.tail _ (List.mem_append_right _ ha)) (.head _) hu ?_
  have H' : Hp c n l h' := ⟨m, hid, hV, F', News.sub N' fun _ h => .tail _ h, O⟩
  refine wpAny_truthy_bool ?_
  cases vs with
  | nil => exact k2 (by simp) h' tk H'
  | cons v r => exact k1 (by simp) h' tk H'
theorem At.asg {x : Str} {px : Pos} {v : Value} {Q : Unit → Shared → Prop} (hw : Wk c sc d u true) (hx : (l.map (·.1)).contains x = true) (k : Go c n (put l x v) Q ()) : At c n l (PySem.assign (.Name x px) c.env v) Q := fun h tk H => wpAny_assign_Name (bind_name hw hx k h tk H)
theorem At.ord {x : Str} {px : Pos} {ts : List (Value → Sem Unit)} {v : Value} {vs : List Value} {Q : Unit → Shared → Prop} (hw : Wk c sc d u true) (hx : (l.map (·.1)).contains x = true) (k : At c n (put l x v) (assignInOrder ts vs) Q) : At c n l (assignInOrder (PySem.assign (.Name x px) c.env :: ts) (v :: vs)) Q := fun h tk H =>
  assignInOrder_cons (At.asg (Q := fun _ s' => wpAny (model PR w) c.A (assignInOrder ts vs) Q c.E s') hw hx k h tk H)
theorem At.ord0 {Q : Unit → Shared → Prop} (k : Go c n l Q ()) : At c n l (assignInOrder [] []) Q := fun h tk H => assignInOrder_nil (k h tk H)
theorem At.unp {tp : Pos} {ts : List (Value → Sem Unit)} {a : Addr} {vs : List Value} {Q : Unit → Shared → Prop} (ha : (a, tup vs) ∈ n) (hl : vs.length = ts.length) (k : At c n l (assignInOrder ts vs) Q) : At c n l (do standAt tp; unpack (.ref a) (ts.map fun t => (false, t))) Q := fun h tk H => by
  obtain ⟨m, hid, hV, F, N, O⟩ := H
  refine wpAny_bind (wpAny_standAt ?_)
  have hfi : (ts.map fun t => ((false, t) : Bool × (Value → Sem Unit))).findIdx? (·.1) = none := by
    rw [List.findIdx?_eq_none_iff]
    intro x hx
    refine X1_2 (List.mem_map.mp hx) ?_; rintro t _ rfl
    rfl
  unfold PySem.unpack
  rw [hfi, List.length_map]
  have ht := (N _ (List.mem_append_right _ ha)).1
  refine wpAny_bind (wpAny_holding ?_)
  have key : ∀ (k : Nat) (Q' : List Value → Shared → Prop), k = vs.toArray.size → (∀ h', Heap.ExtBut h.objs.size h h' → Q' vs { c.s with heap := h', toks := tk }) → wpAny (model PR w) c.A (unpackItems (.ref a) k none) Q' c.E { c.s with heap := h, toks := tk } := by
    rintro _ Q' rfl hq
    exact unpackItems_tuple (items := vs.toArray) rfl (Y1_3 _ ht rfl ⟨_, rfl⟩) fun h' he => hq h' he
  refine key _ _ (by rw [List.size_toArray, hl]) fun h' he => ?_
  rw [List.map_map, show ((fun x : Bool × (Value → Sem Unit) => x.2) ∘ fun t => ((false, t) : Bool × (Value → Sem Unit))) = id from rfl, List.map_id]
  exact k h' tk ⟨m, hid, hV, F.extBut he (Nat.le_refl _), N.extBut he (Nat.le_refl _), O⟩
noncomputable def Uq {w : World} (c : Cx w) (ts : List PySem.Expr) (j : Nat) (tp : Pos) (rest : List Stmt) (Q : Flow → Shared → Prop) (v : Value) (s' : Shared) : Prop := wpAny (model PR w) c.A (PySem.assign (.Tuple ts j tp) c.env v) (fun _ => Th c rest Q .next) c.E s'
theorem At.tupQ {ts : List PySem.Expr} {tp pos : Pos} {j : Nat} {e : PySem.Expr} {Q : Flow → Shared → Prop} (k : At c n l (eval e c.env) (Uq c ts j tp rest Q))
    (hw : ∀ env, swappedStores [.Tuple ts j tp] e env = pure none := by intro _; rfl) (hs : ∀ env, swapsWithSole [.Tuple ts j tp] e pos.line env = pure false := by intro _; rfl) :
    At c n l (execs (.Assign [.Tuple ts j tp] e pos :: rest) c.env) Q := .cons fun h' tk H => Assign_Tuple (k h' tk H) (hs _) (hw _)
theorem Go.tup2 {x y : Str} {px py tp : Pos} {j : Nat} {a : Addr} {v1 v2 : Value} {Q : Flow → Shared → Prop} (hw : Wk c sc d u true) (ha : (a, tup [v1, v2]) ∈ n) (k : At c n (put (put l x v1) y v2) (execs rest c.env) Q)
    (hx : (l.map (·.1)).contains x = true := by rfl) (hy : ((put l x v1).map (·.1)).contains y = true := by rfl) : Go c n l (Uq c [.Name x px, .Name y py] j tp rest Q) (.ref a) :=
  At.unp (ts := [PySem.assign (.Name x px) c.env, PySem.assign (.Name y py) c.env]) ha rfl (.ord hw hx (.ord hw hy (.ord0 k)))
theorem Go.tup3 {x y z : Str} {px py pz tp : Pos} {j : Nat} {a : Addr} {v1 v2 v3 : Value} {Q : Flow → Shared → Prop} (hw : Wk c sc d u true) (ha : (a, tup [v1, v2, v3]) ∈ n) (k : At c n (put (put (put l x v1) y v2) z v3) (execs rest c.env) Q)
    (hx : (l.map (·.1)).contains x = true := by rfl) (hy : ((put l x v1).map (·.1)).contains y = true := by rfl) (hz : ((put (put l x v1) y v2).map (·.1)).contains z = true := by rfl) : Go c n l (Uq c [.Name x px, .Name y py, .Name z pz] j tp rest Q) (.ref a) :=
  At.unp (ts := [PySem.assign (.Name x px) c.env, PySem.assign (.Name y py) c.env, PySem.assign (.Name z pz) c.env]) ha rfl (.ord hw hx (.ord hw hy (.ord hw hz (.ord0 k))))
end
end
section
section
variable {w : World} {c : Cx w} {n : Led} {l : Fm} {sc : Scope} {d u : Nat}
noncomputable def Cx.in2 {w : World} (c : Cx w) : Cx w :=
  { c with
    un := c.un + 2
    E := fun _ _ => False
    dfn := false
    ce := fun h => by cases h
    st := fun h => by cases h
    sl := fun h => by cases h
    lo := fun h => by cases h
    po := fun h => by cases h }
noncomputable abbrev LamAt (name qual : Str) (params : Arguments) (body : PySem.Expr) (scope : Scope) (f : Addr) (n : Led) : Prop :=
  ∃ pm c' ctv oc vs t, (f, kla_obj name qual params body scope [] pm c' ctv) ∈ n ∧ (c', oc) ∈ n ∧ oc.data = .fields vs ∧ vs[1]? = some (.str qual t)
theorem At.enterLam {Q : Value → Shared → Prop} {name qual : Str} {params : Arguments} {body : PySem.Expr} {scope : Scope} {f : Addr} {vs : List Value} (binds : List (Str × Value)) (ho : LamAt name qual params body scope f n) (hroom : c.dp < recursionLimit)
    (k : ∀ (c1 : Cx w) (RQ : Value → Shared → Prop), Wk c1 scope (c.dp + 1) (c.un + 3) false → (∀ n' l' v, Go c n' l Q v → Go c1 n' l' RQ v) → At c1 n (binds.reverse.map fun p => (p.1, some p.2)) (eval body c1.env) RQ)
    (hbind : ∀ pm c' ctv, bindArgs (kla_fn name qual params body scope [] pm (.ref c') ctv) ⟨vs, []⟩ = pure binds := by intro _ _ _; rfl)
    (hloc : (binds.all fun x => decide (scope.names.lookup x.1 = some .local)) = true := by rfl)
    (hco : scope.isCoroutine = false := by rfl) (hgen : scope.isGenerator = false := by rfl) (hk : scope.kind = .function := by rfl) (hcell : ∀ x ∈ scope.names, x.2 ≠ .cell := by decide) : At c n l (call (.ref f) vs) Q := fun h tk H => by
  refine X6_4 ho ?_; clear ho; rintro pm a' ctv oc fs t h1 h2 h3 h4
  obtain ⟨m, hid, hV, F, N, O⟩ := H
  refine wpAny_call (kla_code c.B F c.X N c.T rfl c.hf c.hk (List.mem_append_right _ h1) (codeRec_news N (List.mem_append_right _ h2) h3 h4) hroom (hbind _ _ _) (locs hloc) ?_ hco hgen hk hcell)
  intro g L' h₁ FG F' N' B' X' T'
  let c1 : Cx w :=
    { A₀ := c.A, base := c.base, g := g, outer := c.fenv :: c.outer, fenv := envX qual scope L' f (.ref a') [], env := envX qual scope L' f (.ref a') [], L := L', p := c.p, loose := c.loose, mean := c.mean, mg := c.mg, mb := c.mb, dp := c.dp + 1, un := c.un + 3, gd := c.gd
      E := fun e s' => wpAny (model PR w) (AA (c.dp + 1) (c.un + 3) c.gd (envX qual scope L' f (.ref a') []) (c.fenv :: c.outer)) (leaving (envX qual scope L' f (.ref a') []) e) (fun _ s'' => c.E e s'') (fun e' s'' => c.E e' s'') s'
      s := c.s, V := fun l1 m1 hid1 => l1 = (binds.reverse.map fun p => (p.1, some p.2)) ∧ m1 = (fun y => binds.reverse.lookup y) ∧ hid1 = hid, dfn := false, B := B', X := X', T := T', hf := rfl, hk := hk, ek := hk, eg := rfl, eb := rfl
      rd := fun {l m hid n h x v} hV F N hx A E Q s es q => by
        subst es
        refine X0_3 hV ?_; clear hV; rintro rfl rfl rfl
        rw [frm_lookup] at hx
        have hm : binds.reverse.lookup x = some v := by
          generalize binds.reverse = bs at hx
          induction bs with
          | nil => cases hx
          | cons b r ih =>
            obtain ⟨y, v'⟩ := b
            rw [List.map_cons, List.lookup_cons] at hx
            rw [List.lookup_cons]
            cases e : x == y with
            | true => rw [e] at hx; exact hx
            | false => rw [e] at hx; exact ih hx
        have hlx := locs hloc (x, v) (List.mem_reverse.mp (lookup_mem hm))
        exact wpAny_loadName_local hk hlx F.ns hm q
      ce := fun h => by cases h
      st := fun h => by cases h
      sl := fun h => by cases h
      lo := fun h => by cases h
      mu := fun h h' => h.2.1.trans h'.2.1.symm
      po := fun h => by cases h }
  have key := k c1 (fun v s' => LeaveK c.g c.L m g (fun r s' => match r with | .ok (.ret v) => Q v s' | .ok _ => False | .error e => c.E e s') v s') ⟨rfl, rfl, rfl, rfl⟩ fun n' l' v hg h2 tk2 H2 => by
    obtain ⟨m2, hid2, ⟨_, _, rfl⟩, F2, N2, O2⟩ := H2
    exact leaveK_ F2 N2 fun kF kN => hg h2 tk2 ⟨m, _, hV, kF, kN, O2⟩
  exact key h₁ (tk + binds.length) ⟨_, hid, Y0_3 rfl rfl rfl, F', N', O⟩
end
end
section
section
open Builtin
variable {prog : Program} {w : World} {A : Around} {E : Value → Shared → Prop} {s : Shared} {h₀ : Heap} {L l : Addr} {m : Str → Option Value} {news : Led} {Q : Value → Shared → Prop}
theorem upd_get {h : Heap} {a : Addr} {vs : Array Value} {n : Nat} (f : Array Value → Array Value) (e : h.get? a = some (seqObj "list" vs n)) : ∃ c, (h.update a (Obj.mapSeq f)).get? a = some (seqObj "list" (f vs) c) := ⟨_, get?_update_seq e f⟩
theorem one_tree {a : Addr} {v f : Value} {e0 : Nat} {P : PySem.Fin → Shared → Prop} (F : Fr h₀ L s.heap m) (N : News h₀ L s.heap ((a, seqObj "list" #[v] e0) :: news)) (hna : ∀ p ∈ news, @Ne Nat p.1 a)
    (h : ∀ kS e1 h', Fr h₀ L h' m → News h₀ L h' ((kS, seqObj "list" #[] 0) :: (a, seqObj "list" #[] e1) :: news) → @LT.lt Nat _ a kS → (∀ q ∈ news, @LT.lt Nat _ q.1 kS) →
      wpAny (model prog w) A (call f [v]) (KatBack h₀ L m kS [] 0 fun k c s' => KatFin h₀ L m kS a [k] c e1 [v] (fun s4 => P (.done (.ret .none)) s4) s') (fun _ _ => False) { s with heap := h' }) : wpAny (model prog w) A (ksk_tree a f false) P E s := by
  have z := N _ (.head _)
  have la := Heap.lt_size z.1
  have s1 := Heap.SameBut.update s.heap a (Obj.mapSeq fun _ => (#[] : Array Value))
  obtain ⟨e1, u1⟩ := upd_get (fun _ => #[]) z.1
  have F1 := kas_fr F s1 z.2.1 z.2.2
  have N1 := kas_news (fun p hp => N p (.tail _ hp)) s1 hna
  generalize hg : s.heap.update a (Obj.mapSeq fun _ => (#[] : Array Value)) = g at *
  have sg : g.objs.size = s.heap.objs.size := by rw [← hg, Heap.size_update]
  have sk : (g.push (seqObj "tuple" #[v] 0)).objs.size = g.objs.size + 1 := size_push' ..
  have up : ∀ b o, g.get? b = some o → ((g.push (seqObj "tuple" #[v] 0)).push (seqObj "list" #[] 0)).get? b = some o := fun b o e => Heap.get?_push_of_some _ (Heap.get?_push_of_some _ e)
  have F2 : Fr h₀ L ((g.push (seqObj "tuple" #[v] 0)).push (seqObj "list" #[] 0)) m := (F1.push _).push _
  have hL := (F1.push (seqObj "tuple" #[v] 0)).ns.lt
  have key := h (g.push (seqObj "tuple" #[v] 0)).objs.size e1 _ F2 (fun p hp => by
    rcases List.mem_cons.mp hp with rfl | hp
    · exact Y0_3 (Heap.get?_push_size _ rfl) (Nat.ne_of_gt hL) (Heap.get?_none_of_le (Nat.le_trans F1.above (Nat.le_of_lt hL)))
    · rcases List.mem_cons.mp hp with rfl | hp
      · exact ⟨up _ _ u1, z.2⟩
      · exact ⟨up _ _ (N1 p hp).1, (N1 p hp).2⟩) (by rw [sk, sg]; exact Nat.lt_succ_of_lt la) fun q hq => by rw [sk, sg]; exact Nat.lt_succ_of_lt (Heap.lt_size (N q (.tail _ hq)).1)
  unfold ksk_tree
  refine wpAny_bind (listItems_at z.1 rfl ?_)
  refine wpAny_bind (listUpdate_at z.1 rfl ?_ (by show 1 ≤ sizeLine; rw [sizeLine_eq]; lia) (Nat.zero_le _))
  rw [hg]
  refine wpAny_bind (seqEpoch_at u1 rfl ?_)
  refine wpAny_bind (wpAny_newTuple ?_ (by show 1 ≤ sizeLine; rw [sizeLine_eq]; lia))
  refine wpAny_bind (wpAny_newList ?_ (Nat.zero_le _))
  refine wpAny_holding ?_
  unfold ksk_rest
  refine wpAny_bind (wpAny_rule ?_)
  rw [← Array.forIn_toList]
  show wpAny (model prog w) A (forIn [v] PUnit.unit _ >>= _) _ _ _
  rw [List.forIn_cons]
  refine wpAny_bind (wpAny_bind (wpAny_bind (wpAny_attempt (wpAny_mono key (fun k s'' hk => ?_) fun _ _ hF => hF.elim))))
  refine X2_4 hk ?_; clear hk; rintro news' up F' N' U c
  refine X2_4 U.split fun pre post e2 hu x1 x2 => ?_
  subst e2
  have nk := N' _ (List.mem_append_right _ (.head _))
  have s2 := Heap.SameBut.update s''.heap (g.push (seqObj "tuple" #[v] 0)).objs.size (Obj.mapSeq (·.push k))
  obtain ⟨c2, u2⟩ := upd_get (·.push k) nk.1
  have fin := c _ c2 (kas_fr F' s2 nk.2.1 nk.2.2) (by rw [hu]; exact news_set N' x1 x2 s2 u2)
  dsimp only
  refine wpAny_bind (listUpdate_at nk.1 rfl ?_ (Nat.zero_le _) (by show 1 ≤ sizeLine + 1; rw [sizeLine_eq]; lia))
  refine wpAny_pure ?_
  dsimp only
  rw [List.forIn_nil]
  refine wpAny_pure (wpAny_bind (listItems_at u2 rfl ?_))
  unfold ksk_end
  dsimp only
  simp only [Bool.false_eq_true, if_false]
  rw [if_pos (by exact Nat.le_of_ble_eq_true rfl), if_pos (by exact Nat.le_of_ble_eq_true rfl)]
  refine wpAny_bind (wpAny_pure (wpAny_bind ?_))
  refine wpAny_pure ?_
  exact kat_tail (b := false) (out := [v]) (ks := [k]) (by show (((#[].push k).zip #[v]).map fun x : Value × Value => x.2) = _; simp) (by exact Nat.le_of_ble_eq_true rfl) (by exact Nat.le_of_ble_eq_true rfl) rfl fin
theorem one_sorted {v f : Value} {kw : List (Str × Value)} (F : Fr h₀ L s.heap m) (N : News h₀ L s.heap news) (hl : s.heap.IsList l #[v]) (ha1 : argsOk "sorted" ⟨[.ref l], kw⟩) (ha2 : ∀ x, argsOk "list.sort" ⟨[.ref x], kw⟩) (ht : ∀ x, Builtin.«list.sort» ⟨[.ref x], kw⟩ = ksk_tree x f false)
    (h : ∀ D kS e1 h', Fr h₀ L h' m → News h₀ L h' ((kS, seqObj "list" #[] 0) :: (D, seqObj "list" #[] e1) :: news) → @LT.lt Nat _ D kS → (∀ q ∈ news, @LT.lt Nat _ q.1 D) →
      wpAny (model prog w) A.in1.in1 (call f [v]) (KatBack h₀ L m kS [] 0 fun k c s' => KatFin h₀ L m kS D [k] c e1 [v] (fun s4 => Q (.ref D) s4) s') (fun _ _ => False) { s with heap := h' }) : wpAny (model prog w) A (call (.builtin "sorted") [.ref l] kw) Q E s := by
  refine call_function_entry_kw kind_sorted plain_sorted entry_sorted ha1 ?_
  unfold Builtin.«sorted»
  refine wpAny_bind (m := checkCount "sorted" 1 1 _) (wpAny_pure ?_)
  refine wpAny_bind (collect_list hl ?_ (by show 1 ≤ sizeLine; rw [sizeLine_eq]; lia))
  refine wpAny_bind (wpAny_newList ?_ (by show 1 ≤ sizeLine; rw [sizeLine_eq]; omega))
  have hL : L < s.heap.objs.size := F.ns.lt
  have old : ∀ b o, s.heap.get? b = some o → ((s.heap.push (seqObj "list" #[] 0)).update s.heap.objs.size (Obj.mapSeq (· ++ #[v]))).get? b = some o := fun b o q => by
    have hlt := Heap.lt_size q
    rw [Heap.get?_update_ne _ _ _ _ (Nat.ne_of_lt hlt), Heap.get?_push_ne _ _ _ (Nat.ne_of_lt hlt)]
    exact q
  have gs : ((s.heap.push (seqObj "list" #[] 0)).update s.heap.objs.size (Obj.mapSeq (· ++ #[v]))).objs.size = s.heap.objs.size + 1 := by rw [Heap.size_update, size_push']
  generalize (s.heap.push (seqObj "list" #[] 0)).update s.heap.objs.size (Obj.mapSeq (· ++ #[v])) = g at *
  have hD : (g.push (seqObj "list" #[v] 0)).get? g.objs.size = some (seqObj "list" #[v] 0) := Heap.get?_push_size _ rfl
  have keep : ∀ b o, s.heap.get? b = some o → (g.push (seqObj "list" #[v] 0)).get? b = some o := fun b o q => Heap.get?_push_of_some _ (old b o q)
  have lt : ∀ {b : Nat}, b < s.heap.objs.size → b < g.objs.size := fun h => by rw [gs]; exact Nat.lt_succ_of_lt h
  refine wpAny_bind (wpAny_holding (wpAny_call_entry_kw slot_list_sort (Y1_2 _ hD rfl) entry_list_sort ?_ (ha2 _)))
  show wpAny (model prog w) A.in1.in1 (Builtin.«list.sort» ⟨[.ref g.objs.size], kw⟩) _ _ { s with heap := g.push (seqObj "list" #[v] 0) }
  rw [ht]
  refine one_tree (s := { s with heap := g.push (seqObj "list" #[v] 0) }) (news := news) (v := v) (e0 := 0) (F.kept keep) (fun p hp => ?_) (fun p hp => Nat.ne_of_lt (lt (Heap.lt_size (N p hp).1))) fun kS e1 h' F' N' l0 l1 => ?_
  · rcases List.mem_cons.mp hp with rfl | hp
    · exact Y0_3 hD (Nat.ne_of_gt (lt hL)) (Heap.get?_none_of_le (Nat.le_trans F.above (Nat.le_of_lt (lt hL))))
    · exact ⟨keep _ _ (N p hp).1, (N p hp).2⟩
  · refine wpAny_mono (h _ kS e1 h' F' N' l0 fun q hq => lt (Heap.lt_size (N q hq).1)) (fun k s' hk => ?_) fun _ _ x => x
    refine X2_4 hk ?_; clear hk; rintro n' up a1 a2 a3 a4
    exact Y2_4 n' up a1 a2 a3 (fun h2 c2 b1 b2 => (a4 h2 c2 b1 b2).mono fun s4 hq => (Y1_2 _ rfl (wpAny_pure (Y1_2 _ rfl hq))))
end
end
section
section
open Builtin
theorem slot_bytes_find : Slot "bytes" "find" "bytes.find" :=
  .of (owner := "bytes") (n := "find") (by rw [typeLookup_type, builtinLookup_eq_fast]; kernel_rfl) (by decide +kernel) (by decide +kernel) (by decide +kernel)
    (by first | exact .inl (by decide +kernel) | exact .inr (by decide +kernel)) (by rw [isSubtype_type]; kernel_rfl)
theorem type_bytes_find : typeOf (.builtin "bytes.find") = pure (.type "method_descriptor") := by show builtinType _ = _; rw [builtinType_eq_fast]; kernel_rfl
theorem entry_bytes_find : entryFor table "bytes.find" = some Builtin.«bytes.find» := entryFor_of_tree (by kernel_rfl)
theorem args_bytes_find3 (a b c : Value) : argsOk "bytes.find" ⟨[a, b, c], []⟩ := by
  unfold argsOk; rw [signature?_of (id := "bytes.find") (n := ['d', 'n', 'i', 'f']) (o := ['s', 'e', 't', 'y', 'b']) (by kernel_rfl) FB.owner_bytes]; kernel_rfl
theorem args_bytes_find4 (a b c d : Value) : argsOk "bytes.find" ⟨[a, b, c, d], []⟩ := by
  unfold argsOk; rw [signature?_of (id := "bytes.find") (n := ['d', 'n', 'i', 'f']) (o := ['s', 'e', 't', 'y', 'b']) (by kernel_rfl) FB.owner_bytes]; kernel_rfl
theorem slot_bytes_join : Slot "bytes" "join" "bytes.join" :=
  .of (owner := "bytes") (n := "join") (by rw [typeLookup_type, builtinLookup_eq_fast]; kernel_rfl) (by decide +kernel) (by decide +kernel) (by decide +kernel)
    (by first | exact .inl (by decide +kernel) | exact .inr (by decide +kernel)) (by rw [isSubtype_type]; kernel_rfl)
theorem type_bytes_join : typeOf (.builtin "bytes.join") = pure (.type "method_descriptor") := by show builtinType _ = _; rw [builtinType_eq_fast]; kernel_rfl
theorem entry_bytes_join : entryFor table "bytes.join" = some Builtin.«bytes.join» := entryFor_of_tree (by kernel_rfl)
theorem args_bytes_join (a b : Value) : argsOk "bytes.join" ⟨[a, b], []⟩ := by
  unfold argsOk; rw [signature?_of (id := "bytes.join") (n := ['n', 'i', 'o', 'j']) (o := ['s', 'e', 't', 'y', 'b']) (by kernel_rfl) FB.owner_bytes]; kernel_rfl
theorem bound_int {prog : Program} {w : World} {A : Around} {E : Value → Shared → Prop} {s : Shared} {i : Int} {t : Tok} {Q : Option Int → Shared → Prop} (h : Q (some i) s) :
    wpAny (model prog w) A (Bytes.bound? (some (.int i t))) Q E s := by
  unfold Bytes.bound?
  refine wpAny_bind (wpAny_specialOf (T := "int") (typeIs_int _ _ _) F.slot_int_index.lookup ?_)
  refine wpAny_ite (KBy.ite_no (show ¬ (Option.isNone (some _) = true) from Bool.false_ne_true) ?_)
  exact wpAny_bind (wpAny_of_eq rfl (wpAny_pure h))
noncomputable def fnd (b sub : Array UInt8) (lo hi : Option Int) : Int :=
  match (if (Bytes.window b.size lo hi).2 - (Bytes.window b.size lo hi).1 < sub.size then none else some ((Bytes.window b.size lo hi).1.toNat, (Bytes.window b.size lo hi).2.toNat)).bind fun (x : Nat × Nat) => Bytes.find? b sub x.1 x.2 with
  | some i => (i : Int)
  | none => -1
theorem find_end {prog : Program} {w : World} {A : Around} {E : Value → Shared → Prop} {s : Shared} {r : Option Nat} {x : String} {Q : Fin → Shared → Prop}
    (h : Q (.done (.ret (.int (match r with | some i => (i : Int) | none => -1) s.toks))) { s with toks := s.toks + 1 }) :
    wpAny (model prog w) A (match r with | some i => retInt i | none => (do rule x; if false = true then raiseError "ValueError" "subsection not found" else retInt (-1))) Q E s := by
  cases r with
  | some i => exact wpAny_bind (wpAny_mkInt (wpAny_pure h))
  | none => exact wpAny_bind (wpAny_rule (wpAny_bind (wpAny_mkInt (wpAny_pure h))))
theorem meets_find3 (b sub : Array UInt8) (t u t1 : Tok) (lo : Int) :
    Meets («bytes.find» ⟨[.bytes b t, .bytes sub u, .int lo t1], []⟩) (fun _ R s => R (.ok (.ret (.int (fnd b sub (some lo) none) s.toks))) { s with toks := s.toks + 1 }) := by
  refine .of_wp fun prog w A R s h => ?_
  show wpAny _ _ (Bytes.searchArgs .bytes "find" ⟨[.bytes b t, .bytes sub u, .int lo t1], []⟩ >>= fun r => _) _ _ s
  refine wpAny_bind ?_
  show wpAny _ _ (Bytes.bound? (some (.int lo t1)) >>= fun r => _) _ _ s
  refine wpAny_bind (bound_int ?_)
  show wpAny _ _ (Bytes.buffer? _ (.bytes sub u) >>= fun r => _) _ _ s
  refine wpAny_bind (wpAny_of_eq KBy.buffer_eq ?_)
  refine wpAny_bind (wpAny_pure ?_)
  refine wpAny_bind (wpAny_of_eq (a := b) rfl ?_)
  refine wpAny_pure ?_
  exact find_end (Y1_2 _ rfl h)
theorem meets_find4 (b sub : Array UInt8) (t u t1 t2 : Tok) (lo hi : Int) :
    Meets («bytes.find» ⟨[.bytes b t, .bytes sub u, .int lo t1, .int hi t2], []⟩) (fun _ R s => R (.ok (.ret (.int (fnd b sub (some lo) (some hi)) s.toks))) { s with toks := s.toks + 1 }) := by
  refine .of_wp fun prog w A R s h => ?_
  show wpAny _ _ (Bytes.searchArgs .bytes "find" ⟨[.bytes b t, .bytes sub u, .int lo t1, .int hi t2], []⟩ >>= fun r => _) _ _ s
  refine wpAny_bind ?_
  show wpAny _ _ (Bytes.bound? (some (.int lo t1)) >>= fun r => _) _ _ s
  refine wpAny_bind (bound_int ?_)
  show wpAny _ _ (Bytes.bound? (some (.int hi t2)) >>= fun r => _) _ _ s
  refine wpAny_bind (bound_int ?_)
  show wpAny _ _ (Bytes.buffer? _ (.bytes sub u) >>= fun r => _) _ _ s
  refine wpAny_bind (wpAny_of_eq KBy.buffer_eq ?_)
  refine wpAny_bind (wpAny_pure ?_)
  refine wpAny_bind (wpAny_of_eq (a := b) rfl ?_)
  refine wpAny_pure ?_
  exact find_end (Y1_2 _ rfl h)
section
variable {prog : Program} {w : World} {A : Around} {E : Value → Shared → Prop} {s : Shared} {Q : Value → Shared → Prop} {b sub : Array UInt8} {t u t1 t2 : Tok} {lo hi : Int}
theorem find3 (h : Q (.int (fnd b sub (some lo) none) s.toks) { s with toks := s.toks + 1 }) : wpAny (model prog w) A (call (.builtin "bytes.find") [.bytes b t, .bytes sub u, .int lo t1]) Q E s :=
  call_meets slot_bytes_find (typeIs_bytes _ _ _) entry_bytes_find (args_bytes_find3 _ _ _) (meets_find3 b sub t u t1 lo) h
theorem find4 (h : Q (.int (fnd b sub (some lo) (some hi)) s.toks) { s with toks := s.toks + 1 }) : wpAny (model prog w) A (call (.builtin "bytes.find") [.bytes b t, .bytes sub u, .int lo t1, .int hi t2]) Q E s :=
  call_meets slot_bytes_find (typeIs_bytes _ _ _) entry_bytes_find (args_bytes_find4 _ _ _ _) (meets_find4 b sub t u t1 t2 lo hi) h
end
noncomputable def glue (bs : List Bs) : Bs := bs.flatten
theorem takeQ {id : String} {b : Array UInt8} {t : Tok} : Bytes.takeBufferQuiet? id (.bytes b t) 0 = pure (some (b, none)) := by
  unfold Bytes.takeBufferQuiet? Bytes.takeBuffer?
  rw [KBy.special_eq KBy.look_buffer, KBy.own_buffer, show ((0 : Int) == Bytes.fullReadOnly) = false from rfl]
  show Sem.attempt (Bytes.buffer? id (.bytes b t) >>= fun r => pure (r.map fun x => (x, none))) >>= _ = _
  rw [KBy.buffer_eq]
  rfl
theorem foldl_glue (bs : List Bs) : ∀ (l : List (Array UInt8 × Nat)) (out : Array UInt8), l.foldl (fun out (x : Array UInt8 × Nat) => (if x.2 > 0 then out ++ #[] else out) ++ x.1) out = out ++ (l.map (·.1.toList)).flatten.toArray := by
  intro l
  induction l with
  | nil => intro out; simp
  | cons a r ih =>
    intro out
    rw [List.foldl_cons, ih]
    have e : (if a.2 > 0 then out ++ #[] else out) = out := by split <;> simp
    rw [e]
    apply Array.ext'
    simp
theorem joined_nil (ps : List (Array UInt8)) : Bytes.joined #[] ps = ((ps.map (·.toList)).flatten).toArray := by
  unfold Bytes.joined
  have := foldl_glue [] ps.zipIdx #[]
  refine this.trans ?_
  have e : ps.zipIdx.map (fun x => x.1.toList) = ps.map (·.toList) := by
    have := congrArg (List.map Array.toList) (List.zipIdx_map_fst 0 ps)
    rw [List.map_map] at this
    exact this
  rw [e]; simp
end
end
section
section
open Builtin
theorem bvs_get : ∀ {vs : List Value} {bs : List Bs} {i : Nat} {v : Value}, BVs vs bs → vs[i]? = some v → ∃ b, bs[i]? = some b ∧ BV v b
  | [], [], _, _, _, e => by simp at e
  | [], _ :: _, _, _, h, _ => False.elim h
  | _ :: _, [], _, _, h, _ => False.elim h
  | v :: vs, b :: bs, 0, u, h, e => by change _ ∧ _ at h; simp at e; subst e; exact Y1_2 b rfl h.1
  | v :: vs, b :: bs, i + 1, u, h, e => by change _ ∧ _ at h; simp at e; refine X1_2 (bvs_get h.2 e) fun x y z => ?_; exact Y1_2 x (by simpa using y) z
theorem bvs_len : ∀ {vs : List Value} {bs : List Bs}, BVs vs bs → vs.length = bs.length
  | [], [], _ => rfl
  | [], _ :: _, h => False.elim h
  | _ :: _, [], h => False.elim h
  | v :: vs, b :: bs, h => by change _ ∧ _ at h; simp [bvs_len h.2]
theorem joinGo {M : Model} {A : Around} {E : Value → Shared → Prop} {s : Shared} {Q : Unit → Shared → Prop} : ∀ {vs : List Value} {keep : List Value}, Q () s → wpAny M A (Bytes.joinLetGo (vs.map fun v => (v, none)) keep) Q E s
  | [], _, h => wpAny_pure h
  | v :: vs, keep, h => by
    refine (show wpAny M A (letGo (v :: Option.toList none) _ >>= fun _ => Bytes.joinLetGo (vs.map fun v => (v, none)) keep) Q E s from ?_)
    refine wpAny_bind ?_
    unfold letGo
    dsimp only [Option.toList]
    refine wpAny_bind (wpAny_holding (wpAny_point ?_))
    exact wpAny_pure (joinGo h)
theorem size_fold (bs : List Bs) (n : Nat) : ((bs.map (·.toArray)).toArray).foldl (fun (a : Nat) (b : Array UInt8) => a + b.size) n = n + (glue bs).length := by
  rw [List.foldl_toArray']
  · induction bs generalizing n with
    | nil => simp [glue]
    | cons b r ih => rw [List.map_cons, List.foldl_cons, ih]; simp [glue]; lia
  · simp
theorem any_bytes {vs : List Value} {bs : List Bs} (h : BVs vs bs) (i : Nat) : ((vs.take i).map fun v => ((v, none) : Value × Option Value)).any (fun x => x.1.onHeap) = false := by
  rw [List.any_eq_false]
  intro x hx
  refine X1_2 (List.mem_map.mp hx) ?_; rintro v hv rfl
  obtain ⟨j, hj⟩ := List.getElem?_of_mem (List.mem_of_mem_take hv)
  refine X1_2 (bvs_get h hj) ?_; rintro b _ ⟨t, rfl⟩
  exact Bool.false_ne_true
theorem forIn_range {M : Model} {A : Around} {E : Value → Shared → Prop} {s : Shared} {β : Type} {n : Nat} (inv : Nat → β) {body : Nat → β → Sem (ForInStep β)} {Q : β → Shared → Prop}
    (step : ∀ i, i < n → ∀ Q : ForInStep β → Shared → Prop, Q (.yield (inv (i + 1))) s → wpAny M A (body i (inv i)) Q E s) (h : Q (inv n) s) : wpAny M A (forIn (List.range' 0 n) (inv 0) body) Q E s := by
  have go : ∀ k i, i + k = n → wpAny M A (forIn (List.range' i k) (inv i) body) Q E s := by
    intro k
    induction k with
    | zero => intro i e; rw [← e] at h; exact wpAny_pure h
    | succ k ih =>
      intro i e
      rw [List.range'_succ, List.forIn_cons]
      exact wpAny_bind (step i (by lia) _ (ih (i + 1) (by lia)))
  exact go n 0 (Nat.zero_add n)
theorem join_turn {us : List Value} {bs : List Bs} (hb : BVs us bs) {i : Nat} (hlt : i < us.length) : ∃ b t, (us.toArray).getD i Value.none = .bytes b.toArray t ∧ bs.take (i + 1) = bs.take i ++ [b] ∧ us.take (i + 1) = us.take i ++ [.bytes b.toArray t] := by
  refine X1_2 (bvs_get hb (List.getElem?_eq_getElem hlt)) ?_; rintro b hbx ⟨t0, hvx⟩
  refine Y2_3 b t0 ?_ ?_ ?_
  · rw [← hvx]; simp [Array.getD, hlt]
  · rw [List.take_add_one, hbx]; rfl
  · rw [List.take_add_one, List.getElem?_eq_getElem hlt, hvx]; rfl
theorem meets_join {vs : List Value} {bs : List Bs} {D : Addr} {t : Tok} (hb : BVs vs bs) (hsz : (glue bs).length ≤ sizeLine) :
    Meets («bytes.join» ⟨[.bytes #[] t, .ref D], []⟩) (fun _ R s => s.heap.IsList D vs.toArray ∧ ∀ t' k, R (.ok (.ret (.bytes (glue bs).toArray t'))) { s with toks := k }) := by
  refine .of_wp fun prog w A R s hS => ?_
  obtain ⟨hl, h⟩ := hS
  refine X1_3 (id hl) ?_; rintro o ho hc ⟨n, hd⟩
  show wpAny _ _ (Bytes.joinItems (.ref D) >>= fun r => _) _ _ s
  refine wpAny_bind ?_
  unfold Bytes.joinItems
  refine wpAny_bind (wpAny_typeOf hl.typeIs ?_)
  refine wpAny_ite (ite_pos (by decide) (wpAny_pure ?_))
  refine wpAny_bind (wpAny_seqItems ho hd ?_)
  show wpAny _ _ (if (Bytes.Kind.bytes == Bytes.Kind.bytes) = true then _ else _) _ _ s
  refine wpAny_ite (ite_pos (by decide) ?_)
  by_cases one : ∃ v, vs = [v]
  · obtain ⟨v, rfl⟩ := one
    refine X1_2 (bvs_get (i := 0) hb rfl) ?_; rintro b hbs ⟨t0, rfl⟩
    have e : bs = [b] := by
      have := bvs_len hb
      cases bs with
      | nil => simp at hbs
      | cons c r => cases r with
        | nil => simp at hbs; rw [hbs]
        | cons => simp at this
    subst e
    show wpAny _ _ (typeOf (.bytes b.toArray t0) >>= fun r => _) _ _ s
    refine wpAny_bind (wpAny_typeOf (typeIs_bytes _ _ _) ?_)
    refine wpAny_ite (ite_pos (by decide) ?_)
    refine wpAny_bind (wpAny_rule ?_)
    refine wpAny_pure (Y1_2 _ rfl ?_)
    have := h t0 s.toks
    show R (.ok (.ret (.bytes b.toArray t0))) s
    simpa [glue] using this
  · have done : ∀ us : List Value, BVs us bs → wpAny (model prog w) A.in1 (do
          let result ← Bytes.Kind.bytes.new (Bytes.joined #[] (bs.map (·.toArray)))
          holding (result :: List.flatMap (fun x : Value × Option Value => x.1 :: x.2.toList) (us.map fun v => (v, none))) point
          Bytes.joinLetGo (us.map fun v => (v, none)) [result]
          ret result) (fun fin s' => ∃ v, fin = Fin.done (Flow.ret v) ∧ R (Except.ok (Flow.ret v)) s') (fun e s' => R (Except.error e) s') s := by
      intro us hu
      have ej : Bytes.joined #[] (bs.map (·.toArray)) = (glue bs).toArray := by
        rw [joined_nil, List.map_map]
        have : (Array.toList ∘ fun (x : Bs) => x.toArray) = _root_.id := by funext x; simp
        rw [this, List.map_id]; rfl
      rw [ej]
      refine wpAny_bind (wpAny_mkBytes ?_ (by simpa using hsz))
      refine wpAny_bind (wpAny_holding (wpAny_point ?_))
      refine wpAny_bind (joinGo ?_)
      exact wpAny_pure (Y1_2 _ rfl (h _ _))
    have hlong : Bytes.tooLong (Array.foldl (fun x1 (x2 : Array UInt8) => x1 + x2.size) ((#[] : Array UInt8).size * ((bs.map (·.toArray)).toArray.size - 1)) (bs.map (·.toArray)).toArray) = false := by
      rw [size_fold]
      exact KBy.tooLong_not (by rw [← sizeLine_eq]; simpa using hsz)
    rcases vs with _ | ⟨v1, _ | ⟨v2, r⟩⟩
    · have e : bs = [] := by simpa using (bvs_len hb).symm
      subst e
      show wpAny _ _ (forIn [:([] : List Value).toArray.size] (#[], []) _ >>= fun __s => _) _ _ s
      rw [Std.Legacy.Range.forIn_eq_forIn_range']
      refine wpAny_bind (wpAny_of_eq (a := ((#[] : Array (Array UInt8)), ([] : List (Value × Option Value)))) (by simp [Std.Legacy.Range.size]) ?_)
      refine wpAny_bind (wpAny_of_eq (a := (#[] : Array UInt8)) rfl ?_)
      refine wpAny_ite (ite_neg (by decide) ?_)
      exact done [] hb
    · exact absurd ⟨_, rfl⟩ one
    show wpAny _ _ (forIn [:(v1 :: v2 :: r).toArray.size] _ _ >>= fun __s => _) _ _ s
    clear one hl h
    generalize v1 :: v2 :: r = us at hb hd ⊢
    refine wpAny_bind ?_
    rw [Std.Legacy.Range.forIn_eq_forIn_range']
    simp only [Std.Legacy.Range.size, Nat.sub_zero, Nat.add_sub_cancel, Nat.div_one]
    refine forIn_range (fun i => (((bs.take i).map (·.toArray)).toArray, (us.take i).map fun v => (v, none))) (fun i hlt Q hq => ?_) ?_
    · dsimp only
      refine wpAny_bind (wpAny_seqItems ho hd ?_)
      dsimp only
      rw [any_bytes hb]
      refine X2_3 (join_turn hb hlt) fun b t0 h1 h2 h3 => ?_
      rw [h1]
      show wpAny _ _ (holding _ (Bytes.takeBufferQuiet? _ (.bytes b.toArray t0) 0) >>= fun r => _) _ _ s
      refine wpAny_bind (wpAny_holding (wpAny_of_eq takeQ ?_))
      dsimp only
      refine wpAny_bind (wpAny_seqItems ho hd ?_)
      dsimp only
      refine wpAny_ite (ite_neg (by simp) (wpAny_pure ?_))
      rw [h2, h3, show ((bs.take i ++ [b]).map (·.toArray)).toArray = ((bs.take i).map (·.toArray)).toArray.push b.toArray by simp, List.map_append] at hq
      exact hq
    · dsimp only
      refine wpAny_bind (wpAny_of_eq (a := (#[] : Array UInt8)) rfl ?_)
      rw [show us.toArray.size = bs.length from bvs_len hb, List.take_length, ← bvs_len hb, List.take_length]
      refine wpAny_ite (ite_neg (by rw [hlong]; exact Bool.false_ne_true) ?_)
      exact done us hb
section
variable {prog : Program} {w : World} {A : Around} {E : Value → Shared → Prop} {s : Shared} {Q : Value → Shared → Prop}
theorem join_K {vs : List Value} {bs : List Bs} {D : Addr} {t : Tok} (hl : s.heap.IsList D vs.toArray) (hb : BVs vs bs) (hsz : (glue bs).length ≤ sizeLine) (h : ∀ t' k, Q (.bytes (glue bs).toArray t') { s with toks := k }) :
    wpAny (model prog w) A (call (.builtin "bytes.join") [.bytes #[] t, .ref D]) Q E s :=
  call_meets slot_bytes_join (typeIs_bytes _ _ _) entry_bytes_join (args_bytes_join _ _) (meets_join hb hsz) ⟨hl, h⟩
end
end
end
section
section
open Builtin
theorem slot_bytes_lt : Slot "bytes" "__lt__" "bytes.__lt__" :=
  .of (owner := "bytes") (n := "__lt__") (by rw [typeLookup_type, builtinLookup_eq_fast]; kernel_rfl) (by decide +kernel) (by decide +kernel) (by decide +kernel)
    (by first | exact .inl (by decide +kernel) | exact .inr (by decide +kernel)) (by rw [isSubtype_type]; kernel_rfl)
theorem entry_bytes_lt : entryFor table "bytes.__lt__" = some Builtin.«bytes.__lt__» := entryFor_of_tree (by kernel_rfl)
theorem args_bytes_lt (a b : Value) : argsOk "bytes.__lt__" ⟨[a, b], []⟩ := by
  unfold argsOk; rw [signature?_of (id := "bytes.__lt__") (n := ['_', '_', 't', 'l', '_', '_']) (o := ['s', 'e', 't', 'y', 'b']) (by kernel_rfl) FB.owner_bytes]; kernel_rfl
theorem order_lt : ∀ a b : List UInt8, (Bytes.order a b == .lt) = decide (a.map (·.toNat) < b.map (·.toNat))
  | [], [] => by simp [Bytes.order]
  | [], _ :: _ => by simp [Bytes.order]
  | _ :: _, [] => by simp [Bytes.order]
  | x :: a, y :: b => by
    simp only [Bytes.order, List.map_cons, List.cons_lt_cons_iff]
    by_cases h1 : x < y
    · have : x.toNat < y.toNat := h1
      simp [h1, this]
    · by_cases h2 : x > y
      · have h3 : y.toNat < x.toNat := h2
        have h4 : ¬ x.toNat < y.toNat := by lia
        have h5 : ¬ x.toNat = y.toNat := by lia
        simp [h1, h2, h4, h5]
      · have e : x = y := UInt8.le_antisymm (UInt8.not_lt.mp h2) (UInt8.not_lt.mp h1)
        subst e
        have := order_lt a b
        simp [this]
theorem gives_bytes_lt (b c : Array UInt8) (t u : Tok) : Gives (Builtin.«bytes.__lt__» ⟨[.bytes b t, .bytes c u], []⟩) (.val (.bool (decide (b.toList.map (·.toNat) < c.toList.map (·.toNat))))) := by
  refine .of_wp fun M A E s Q hq => ?_
  show wpAny M A (isInstance (.bytes c u) (.type "bytes") >>= fun r => _) _ E s
  refine wpAny_bind (wpAny_isInstance (typeIs_bytes s c u) F.sub_bytes_bytes ?_)
  exact wpAny_pure (Y1_2 _ rfl (by rw [← order_lt] at hq; exact hq))
noncomputable abbrev bytesKey : PyProof.Rows.KeyKind := { PyProof.Rows.strKind with
  keyOf := fun v => match v with | .bytes b _ => some (b.toList.map (·.toNat)) | _ => none
  dflt := [] }
theorem oneLt_bytes {prog : Program} {w : World} {A : Around} {E : Value → Shared → Prop} {s : Shared} {b c : Array UInt8} {t u : Tok} {Q : Bool → Shared → Prop} (h : Q (decide (b.toList.map (·.toNat) < c.toList.map (·.toNat))) s) :
    wpAny (model prog w) A (oneLt' true (.bytes b t) (.bytes c u)) Q E s := by
  rw [oneLt'_eq]
  simp only [if_true]
  refine wpAny_bind (wpAny_cRoomFor_byValue rfl ?_)
  refine wpAny_bind (wpAny_callSpecialIfBound?_slot (typeIs_bytes s b t) slot_bytes_lt (call_gives slot_bytes_lt (typeIs_bytes s b t) entry_bytes_lt (args_bytes_lt _ _) (gives_bytes_lt b c t u) ?_))
  exact wpAny_truthy_bool h
theorem bytesKey_oneLt : bytesKey.OneLt := by
  intro prog w A E s x y a b Q ha hb h
  cases x <;> simp only [reduceCtorEq, Option.some.injEq] at ha
  cases y <;> simp only [reduceCtorEq, Option.some.injEq] at hb
  cases ha; cases hb
  exact oneLt_bytes h
theorem bvs_mem : ∀ {vs : List Value} {bs : List Bs}, BVs vs bs → ∀ v ∈ vs, ∃ b t, v = .bytes b t
  | [], [], _, v, hv => nomatch hv
  | [], _ :: _, h, _, _ => False.elim h
  | _ :: _, [], h, _, _ => False.elim h
  | u :: vs, c :: bs, h, v, hv => by
    change _ ∧ _ at h
    rcases List.mem_cons.mp hv with rfl | hv
    · obtain ⟨t, rfl⟩ := h.1
      exact Y2_1 _ t rfl
    · exact bvs_mem h.2 v hv
theorem first_bytes (b : Array UInt8) (t : Tok) : firstOfTuple' (.bytes b t) = pure none := rfl
theorem mapM_first_bytes : ∀ {vs : List Value} {bs : List Bs}, BVs vs bs → vs.mapM firstOfTuple' = pure (vs.map fun _ => none)
  | [], [], _ => by simp
  | [], _ :: _, h => False.elim h
  | _ :: _, [], h => False.elim h
  | u :: vs, c :: bs, h => by
    change _ ∧ _ at h
    obtain ⟨t, rfl⟩ := h.1
    rw [List.mapM_cons, first_bytes, mapM_first_bytes h.2]; simp
theorem mapM_typeOf_bytes : ∀ {vs : List Value} {bs : List Bs}, BVs vs bs → vs.mapM typeOf = pure (vs.map fun _ => Value.type "bytes")
  | [], [], _ => by simp
  | [], _ :: _, h => False.elim h
  | _ :: _, [], h => False.elim h
  | u :: vs, c :: bs, h => by
    change _ ∧ _ at h
    obtain ⟨t, rfl⟩ := h.1
    rw [List.mapM_cons, mapM_typeOf_bytes h.2]
    show (pure (Value.type "bytes") >>= fun b => pure _ >>= fun bs => pure (b :: bs)) = _
    simp
theorem keyKind_bytes {v₁ v₂ : Value} {vs : List Value} {bs : List Bs} (hB : BVs (v₁ :: v₂ :: vs) bs) : keyKind' (v₁ :: v₂ :: vs).toArray = pure oneType' := by
  rw [keyKind'_eq, List.mapM_toArray, mapM_first_bytes hB]
  simp only [map_pure, pure_bind]
  rw [if_neg (by simp), if_neg (by simp)]
  rw [oneTypeOnly'_eq, List.mapM_toArray, mapM_typeOf_bytes hB]
  simp only [map_pure, pure_bind]
  have hall : ((List.map (fun _ => Value.type "bytes") (v₁ :: v₂ :: vs)).toArray.all fun x => x == Value.type "bytes") = true := by
    simp only [List.all_toArray, List.all_map, List.all_eq_true]
    intro _ _
    rfl
  have h0 : (List.map (fun _ => Value.type "bytes") (v₁ :: v₂ :: vs)).toArray[0]? = some (Value.type "bytes") := by simp
  rw [h0]
  simp only [hall, if_true, pure_bind, Option.isSome_some]
theorem bvs_perm {vs us : List Value} (hp : us.Perm vs) : ∀ {bs : List Bs}, BVs vs bs → ∃ cs, cs.Perm bs ∧ BVs us cs := by
  induction hp with
  | nil => intro bs h; exact Y1_2 bs (.refl _) h
  | cons v hp ih =>
    intro bs h
    cases bs with
    | nil => exact False.elim h
    | cons b bs =>
      change _ ∧ _ at h
      refine X1_2 (ih h.2) fun cs c1 c2 => ?_
      exact Y1_2 (b :: cs) (c1.cons b) (by show _ ∧ _; exact ⟨h.1, c2⟩)
  | swap x y l =>
    intro bs h
    cases bs with
    | nil => exact False.elim h
    | cons b bs =>
      cases bs with
      | nil => change _ ∧ _ at h; change _ ∧ _ at h; exact h.2.elim
      | cons c bs =>
        change _ ∧ _ at h
        have h2 := h.2
        change _ ∧ _ at h2
        exact Y1_2 (c :: b :: bs) (.swap _ _ _) (by show _ ∧ _; exact ⟨h2.1, by show _ ∧ _; exact ⟨h.1, h2.2⟩⟩)
  | trans h1 h2 ih1 ih2 =>
    intro bs h
    refine X1_2 (ih2 h) fun cs c1 c2 => ?_
    refine X1_2 (ih1 c2) fun ds d1 d2 => ?_
    exact Y1_2 ds (d1.trans c1) d2
theorem sorted_B {prog : Program} {w : World} {A : Around} {E : Value → Shared → Prop} {s : Shared} {h₀ : Heap} {L l : Addr} {m : Str → Option Value} {news : Led} {vs : List Value} {bs : List Bs} {k : Nat} {Q : Value → Shared → Prop}
    (F : Fr h₀ L s.heap m) (N : News h₀ L s.heap news) (hl : (l, lstN vs k) ∈ news) (hB : BVs vs bs) (h64 : vs.length < 64)
    (h : ∀ D h' us cs e, Fr h₀ L h' m → News h₀ L h' ((D, lstN us e) :: news) → BVs us cs → cs.Perm bs → (∀ p ∈ news, @LT.lt Nat _ p.1 D) → Q (.ref D) { s with heap := h' }) :
    wpAny (model prog w) A (call (.builtin "sorted") [.ref l]) Q E s := by
  refine sortedK bytesKey_oneLt (News.isList N hl) ?_ ?_ h64 fun st' a1 _ => ?_
  · intro p hp
    rw [pairsOf_toList] at hp
    refine X2_1 (bvs_mem hB _ (mem_zip_self hp).2) fun b t e => ?_
    rw [e]
    exact ⟨_, rfl⟩
  · rintro v₁ v₂ rest rfl
    exact keyKind_bytes hB
  · obtain ⟨e, he⟩ := sortedAll_at s.heap vs ((arrOf st').map (·.2))
    have hp : ((arrOf st').map (·.2)).toList.Perm vs := by
      have hl : (arrOf st').toList.Perm (vs.zip vs) := by rw [← pairsOf_toList]; exact Array.perm_iff_toList_perm.mp a1
      rw [Array.toList_map]
      have h1 := hl.map (·.2)
      rwa [show (vs.zip vs).map (·.2) = vs from List.map_snd_zip (Nat.le_refl _)] at h1
    refine X1_2 (bvs_perm hp hB) fun cs c1 c2 => ?_
    refine h _ _ ((arrOf st').map (·.2)).toList cs e (F.kept fun _ _ => sortedAll_old) (N.kept_cons F (fun _ _ => sortedAll_old) (Nat.le_succ _) he) c2 c1 fun p hp => Nat.lt_succ_of_lt (Heap.lt_size (N p hp).1)
end
end
section
section
variable {w : World} {c : Cx w} {n : Led} {l : Fm} {rest : List Stmt} {sc : Scope} {d u : Nat} {b : Bool}
noncomputable def Cx.up {w : World} (c : Cx w) (i j : Nat) : Cx w :=
  { c with
    dp := c.dp + i
    un := c.un + j
    E := fun _ _ => False
    dfn := false
    ce := fun h => by cases h
    st := fun h => by cases h
    sl := fun h => by cases h
    lo := fun h => by cases h
    po := fun h => by cases h }
noncomputable def CodeAt {w : World} (c : Cx w) (n : Led) (l : Fm) (f : Value) (vs : List Value) (Q : Value → Shared → Prop) : Prop :=
  ∀ h tk, Hp c n l h → codeAny (model PR w) c.A (.call f ⟨vs, []⟩) (fun r s' => match r with | .ok (.ret v) => Q v s' | .ok _ => False | .error e => c.E e s') { c.s with heap := h, toks := tk }
noncomputable def Pp (w : World) (C : Addr) (x : Str) (f : Addr) : Prop := ∃ p rest, plainGet (KK w) C x = true ∧ hasDictIn (KK w) C = true ∧ findIn (KK w) (.ref C) x = some (some (.ref p)) ∧ specialIn (KK w) (.ref p) "__get__" = some (some (.builtin "property.__get__")) ∧ takesIn (KK w) (.ref p) = some true ∧ recIn (KK w) p "property" = some (.ref f :: rest)
theorem EvR.prop {e : PySem.Expr} {x : Str} {pos : Pos} {a d C f : Addr} {es : List DictEntry} {k : Nat} {P : Value → Prop} (he : EvP c n l e (.ref a)) (h1 : (a, instObj C d) ∈ n) (h2 : (d, dictOf es k) ∈ n) (hp : Pp w C x f)
    (hv : ∀ v, P v → handedIn v = true) (hk : ∀ Q, (∀ v, P v → Go (c.up 0 1) n l Q v) → CodeAt (c.up 0 1) n l (.ref f) [.ref a] Q)
    (hx : ∀ env : Env, eval (.Attribute e x pos) env = (do
      let o ← eval e env
      standAt pos.atName
      let r ← holding [o] (getAttr o x true)
      letTemporaryGo e o r
      pure r) := by intro _; with_unfolding_all rfl) : EvR c n l (.Attribute e x pos) P := fun Q k h tk H => by
  refine X2_6 hp ?_; clear hp; rintro p r g1 g2 g3 g4 g5 g6
  refine Attribute_any_ (he _ (fun h tk H => ?_) h tk H) (hx _)
  have H' := H
  obtain ⟨m, hid, hV, F, N, O⟩ := H
  refine get_prop F c.X (InstAt.of_news N (List.mem_append_right _ h1) (List.mem_append_right _ h2)) g1 g2 g3 g4 g5 g6 (codeAny_mono (hk (fun v s' => wpAny (model PR w) c.A (handedOut v) Q c.E s') (fun v pv h tk H => handed_on (hv v pv) (k v pv h tk H)) h _ H') fun r s' hr => ?_)
  cases r with
  | ok f => cases f <;> exact hr
  | error e => exact hr.elim
structure NewC (n n' : Led) (x d C : Addr) (o : Obj) : Prop where
  m1 : (x, instObj C d) ∈ n'
  m2 : (d, o) ∈ n'
  sub : ∀ q ∈ n, q ∈ n'
  nx : ∀ q ∈ n, @Ne Nat q.1 x
  nd : ∀ q ∈ n, @Ne Nat q.1 d
  ne : @Ne Nat x d
theorem NewC.mut {n1 n2 : Led} {x d C : Addr} {o o' : Obj} (h : NewC n n1 x d C o) (M : Mut n1 n2 d o') : NewC n n2 x d C o' := ⟨M.sub _ h.m1 h.ne, M.mem, fun q hq => M.sub q (h.sub q hq) (h.nd q hq), h.nx, h.nd, h.ne⟩
theorem At.cls {C fI : Addr} {vs : List Value} {Q : Value → Shared → Prop} (hm : makesIn (KK w) C = true) (hi : findIn (KK w) (.ref C) "__init__" = some (some (.ref fI))) (hf : isFn (KK w) (.ref fI) = true)
    (k : ∀ x d n', NewC n n' x d C (dictOf [] 0) → CodeAt (c.up 1 1) n' l (.ref fI) (.ref x :: vs) fun v s' => v = .none ∧ Q (.ref x) s') : At c n l (call (.ref C) vs) Q := fun h tk H => by
  obtain ⟨m, hid, hV, F, N, O⟩ := H
  refine call_cls F c.X N hm hi hf fun x dx h' F' N' l1 l2 => ?_
  refine codeAny_mono (k x dx ((x, instObj C dx) :: (dx, dictOf [] 0) :: n) ⟨.head _, .tail _ (.head _), fun q hq => .tail _ (.tail _ hq), fun q hq => Nat.ne_of_lt (Nat.lt_trans (l1 q (List.mem_append_right _ hq)) l2), fun q hq => Nat.ne_of_lt (l1 q (List.mem_append_right _ hq)), Ne.symm (Nat.ne_of_lt l2)⟩ h' tk ⟨m, hid, hV, F', News.sub N' fun q hq => ?_, fun p hp q hq => ?_⟩) fun r s' hr => ?_
  · rcases List.mem_append.mp hq with hq | hq
    · exact .tail _ (.tail _ (List.mem_append_left _ hq))
    · rcases List.mem_cons.mp hq with rfl | hq
      · exact .head _
      · rcases List.mem_cons.mp hq with rfl | hq
        · exact .tail _ (.head _)
        · exact .tail _ (.tail _ (List.mem_append_right _ hq))
  · rcases List.mem_cons.mp hq with rfl | hq
    · exact Nat.ne_of_lt (Nat.lt_trans (l1 p (List.mem_append_left _ hp)) l2)
    · rcases List.mem_cons.mp hq with rfl | hq
      · exact Nat.ne_of_lt (l1 p (List.mem_append_left _ hp))
      · exact O p hp q hq
  · cases r with
    | ok f => cases f <;> exact hr
    | error e => exact hr.elim
theorem At.setK {x : Str} {a d C : Addr} {es : List DictEntry} {es' : Tok → List DictEntry} {k k' : Nat} {v : Value} {Q : Unit → Shared → Prop} (h1 : (a, instObj C d) ∈ n) (h2 : (d, dictOf es k) ∈ n) (hne : @Ne Nat a d) (hp : Ps w C x) (hl : (getL x es).isSome = true)
    (e : ∀ tk, (putL x (PyData.keyHash w.params x) (.str x tk) v es, putN x es k) = (es' tk, k')) (hz : ∀ tk, (es' tk).length ≤ 1000) (kk : ∀ tk n', Mut n n' d (dictOf (es' tk) k') → Go c n' l Q ()) : At c n l (setAttr (.ref a) x v) Q := fun h tk H => by
  refine X0_4 hp ?_; clear hp; rintro hs ho ht hd
  obtain ⟨m, hid, hV, F, N, O⟩ := H
  have h1' : (a, instObj C d) ∈ (d, dictOf es k) :: (hid ++ n).filter fun p => decide (@Ne Nat p.1 d) := .tail _ (List.mem_filter.mpr ⟨List.mem_append_right _ h1, by simpa using hne⟩)
  have N1 := Hp.front N h2
  exact set_dict F c.X N1 (InstAt.of_news N1 h1' (.head _)) rfl hs ho ht hd hl (e _) (.head front_ne) (hz _) fun h' F' N' => kk _ _ Mut.of h' _ (Hp.mut hV O F' h2 N')
theorem At.getA {x : Str} {a d C : Addr} {es : List DictEntry} {k : Nat} {v : Value} {Q : Value → Shared → Prop} (h1 : (a, instObj C d) ∈ n) (h2 : (d, dictOf es k) ∈ n) (hp : Pl w C x) (hl : getL x es = some (some v)) (hv : handedIn v = true) (kk : Go c n l Q v) : At c n l (getAttr (.ref a) x true) Q := fun h tk H => by
  refine X1_4 hp ?_; clear hp; rintro at' hK hd ha hn
  have H' := H
  obtain ⟨m, hid, hV, F, N, O⟩ := H
  exact get_own F c.X (InstAt.of_news N (List.mem_append_right _ h1) (List.mem_append_right _ h2)) hK hd ha hn hl hv (kk h _ H')
theorem At.augA {x y : Str} {py px pos : Pos} {value : PySem.Expr} {a d C : Addr} {es : List DictEntry} {k : Nat} {i j : Int} {t : Tok} {Q : Flow → Shared → Prop} (ho : frm l y = some (.ref a)) (h1 : (a, instObj C d) ∈ n) (h2 : (d, dictOf es k) ∈ n) (hp : Pl w C x) (hl : getL x es = some (some (.int i t)))
    (hv : EvR c n l value (IV j)) (kk : ∀ t', At c n l (setAttr (.ref a) x (.int (i + j) t')) fun _ => Th c rest Q .next) (hd : (y == ("__debug__" : Str)) = false := by decide) :
    At c n l (execs (.AugAssign (.Attribute (.Name y py) x px) .Add value pos :: rest) c.env) Q := .cons fun h tk H =>
  wpAny_AugAssign_AttributeAny ((EvP.name ho hd) (fun ov s₁ => wpAny (model PR w) c.A (getAttr ov x true) (fun old s₂ => wpAny (model PR w) c.A (eval value c.env) (fun v s₃ => wpAny (model PR w) c.A (inplaceOp .Add old v) (fun new s₄ =>
            wpAny (model PR w) c.A (setAttr ov x new) (fun _ => Th c rest Q .next) c.E s₄) c.E s₃) c.E s₂) c.E s₁) (At.getA h1 h2 hp hl rfl fun h tk H => hv _ (fun v hv h tk H => by
    obtain ⟨t', rfl⟩ := hv
    exact PySem.AutoIntOps.iadd_0 (kk _ h _ H)) h tk H) h tk H)
end
theorem Rai.sub {w : World} {c : Cx w} {n n' : Led} {l : Fm} {x : Addr} (h : Rai c n l x) (hs : ∀ q ∈ n, q ∈ n') : Rai c n' l x := fun G h2 tk m hid hV O F R U => h G h2 tk m hid hV (fun p hp q hq => O p hp q (hs q hq)) F (RaisedSN.sub R fun q hq => (List.mem_append.mp hq).elim (List.mem_append_left _) fun h => List.mem_append_right _ (hs q h)) U
noncomputable def WhA {w : World} (c : Cx w) (test : PySem.Expr) (body rest : List Stmt) (Q : Flow → Shared → Prop) (n : Led) (l : Fm) : Prop := ∀ h tk, Hp c n l h → Wh PR w c.A c.E c.env test body [] (Th c rest Q) { c.s with heap := h, toks := tk }
noncomputable def WhQ {w : World} (c : Cx w) (test : PySem.Expr) (body rest : List Stmt) (Q : Flow → Shared → Prop) : Flow → Shared → Prop := WhPost PR w c.A c.E c.env test body [] (Th c rest Q)
section
variable {w : World} {c : Cx w} {n : Led} {l : Fm} {rest body : List Stmt} {test : PySem.Expr} {Q : Flow → Shared → Prop} {sc : Scope} {d u : Nat}
theorem At.whA {pos : Pos} (k : WhA c test body rest Q n l) : At c n l (execs (.While test body [] pos :: rest) c.env) Q := .cons fun h tk H => wh_start (k h tk H)
theorem WhA.turn {p : Prop} (hw : Wk c sc d u true) (t : Tst c n l test p) (k1 : p → At c n l (execs body c.env) (WhQ c test body rest Q)) (k2 : ¬ p → At c n l (execs rest c.env) Q) : WhA c test body rest Q n l := fun h tk H => by
  have hfe : PassesOwn (model PR w) c.A c.env c.E := c.po hw.dfn
  exact wh_turn hfe (t (fun b s₂ => if b = true then wpAny (model PR w) c.A (execs body c.env) (WhPost PR w c.A c.E c.env test body [] (Th c rest Q)) c.E s₂ else wpAny (model PR w) c.A (execs [] c.env) (Th c rest Q) c.E s₂)
          (fun hp h tk H => of_if_t (k1 hp h tk H)) (fun hp h tk H => of_if_f (wpAny_pure (k2 hp h tk H))) h tk H)
theorem WhA.next (k : WhA c test body rest Q n l) : Go c n l (WhQ c test body rest Q) .next := fun h tk H => WhPost.next (k h tk H)
end
end
section
section
variable {w : World} {c : Cx w} {n : Led} {l : Fm} {rest : List Stmt} {sc : Scope} {d u : Nat}
theorem ps_name : Ps w 207 (Str.ofString "name") := Y0_4 (by rfl) (by rfl) (by rfl) (by rfl)
theorem At.setE {n0 : Led} {x d C : Addr} {es : List DictEntry} {k : Nat} {a : Str} {v : Value} {Q : Unit → Shared → Prop} (H : NewC n0 n x d C (dictOf es k)) (hl : (es.any fun e => e.key.isStr a || e.refKey) = false) (hp : Ps w C a)
    (kk : ∀ tk n', NewC n0 n' x d C (dictOf (es ++ [⟨PyData.keyHash w.params a, .str a tk, v⟩]) (k + 1)) → Go c n' l Q ())
    (hz : es.length < 1000 := by exact Nat.lt_of_lt_of_le (Nat.lt_succ_self _) (Nat.le_of_ble_eq_true rfl)) : At c n l (setAttr (.ref x) a v) Q := by
  have h1 : es.find? (·.key.isStr a) = none := List.find?_eq_none.mpr fun e he h => by
    have := List.any_eq_false.mp hl e he
    simp [h] at this
  have h2 : es.any (·.key.isStr a) = false := List.any_eq_false.mpr fun e he => List.find?_eq_none.mp h1 e he
  have h3 : es.any (·.refKey) = false := List.any_eq_false.mpr fun e he h => by
    have := List.any_eq_false.mp hl e he
    simp [h] at this
  have h4 : ∀ tk, putL a (PyData.keyHash w.params a) (.str a tk) v es = es ++ [⟨PyData.keyHash w.params a, .str a tk, v⟩] := fun tk => by
    rw [← putL_find, List.findIdx?_eq_none_iff.mpr fun e he => by simpa using List.any_eq_false.mp h2 e he]
  refine At.setK (es' := fun tk => es ++ [⟨PyData.keyHash w.params a, .str a tk, v⟩]) (k' := k + 1) H.m1 H.m2 H.ne hp ?_ (fun tk => ?_) (fun tk => ?_) fun tk n' M => kk tk n' (H.mut M)
  · unfold getL
    rw [h1, h3]
    rfl
  · rw [h4]
    unfold putN
    rw [h2]
    rfl
  · rw [List.length_append]
    exact Nat.succ_le_of_lt hz
theorem NewC.self {n0 : Led} {x d C : Addr} {es : List DictEntry} {k : Nat} {a y : Str} {p1 p2 p3 pos : Pos} {v : Value} {Q : Flow → Shared → Prop} (H : NewC n0 n x d C (dictOf es k)) (hv : frm l y = some v) (hp : Ps w C a)
    (kk : ∀ tk n', NewC n0 n' x d C (dictOf (es ++ [⟨PyData.keyHash w.params a, .str a tk, v⟩]) (k + 1)) → At c n' l (execs rest c.env) Q) (hs : frm l (Str.ofString "self") = some (.ref x) := by rfl)
    (hl : (es.any fun e => e.key.isStr a || e.refKey) = false := by rfl) (hz : es.length < 1000 := by exact Nat.lt_of_lt_of_le (Nat.lt_succ_self _) (Nat.le_of_ble_eq_true rfl)) (hy : (y == ("__debug__" : Str)) = false := by decide)
    (hw : ∀ env, swapsWith (.Name y p3) (some (.Attribute (.Name (Str.ofString "self") p1) a p2)) pos.line env = pure false := by intro _; rfl) : At c n l (execs (.Assign [.Attribute (.Name (Str.ofString "self") p1) a p2] (.Name y p3) pos :: rest) c.env) Q :=
  .setA (((EvP.name hv hy) _ <| Go.setA hs <| At.setE H hl hp kk hz)) hw
theorem NewC.sub2 {n' : Led} {n0 : Led} {x d C : Addr} {o : Obj} (h : NewC n0 n x d C o) (hs : ∀ q ∈ n, q ∈ n') : NewC n0 n' x d C o := ⟨hs _ h.m1, hs _ h.m2, fun q hq => hs q (h.sub q hq), h.nx, h.nd, h.ne⟩
inductive NewS (n n' : Led) (x d C : Addr) (j : Nat) : Prop
  | mk (es : List DictEntry) (k : Nat) (h : NewC n n' x d C (dictOf es k)) (r : es.any (·.refKey) = false) (z : es.length ≤ j) : NewS n n' x d C j
theorem putL_ref {a : Str} {b : Int} {tk : Tok} {v : Value} : ∀ {es : List DictEntry}, es.any (·.refKey) = false → (putL a b (.str a tk) v es).any (·.refKey) = false ∧ (putL a b (.str a tk) v es).length ≤ es.length + 1
  | [], _ => ⟨rfl, Nat.le_refl _⟩
  | e :: r, h => by
    rw [List.any_cons, Bool.or_eq_false_iff] at h
    unfold putL
    by_cases q : e.key.isStr a = true
    · rw [if_pos q]
      exact ⟨by rw [List.any_cons, Bool.or_eq_false_iff]; exact h, Nat.le_succ _⟩
    · rw [if_neg q]
      obtain ⟨i1, i2⟩ := putL_ref (a := a) (b := b) (tk := tk) (v := v) h.2
      exact ⟨by rw [List.any_cons, Bool.or_eq_false_iff]; exact ⟨h.1, i1⟩, Nat.succ_le_succ i2⟩
theorem NewS.self {n0 : Led} {x d C : Addr} {j : Nat} {a y : Str} {p1 p2 p3 pos : Pos} {v : Value} {Q : Flow → Shared → Prop} (H : NewS n0 n x d C j) (hv : frm l y = some v) (hp : Ps w C a)
    (kk : ∀ n', NewS n0 n' x d C (j + 1) → At c n' l (execs rest c.env) Q) (hs : frm l (Str.ofString "self") = some (.ref x) := by rfl)
    (hz : j < 1000 := by exact Nat.lt_of_lt_of_le (Nat.lt_succ_self _) (Nat.le_of_ble_eq_true rfl)) (hy : (y == ("__debug__" : Str)) = false := by decide)
    (hw : ∀ env, swapsWith (.Name y p3) (some (.Attribute (.Name (Str.ofString "self") p1) a p2)) pos.line env = pure false := by intro _; rfl) : At c n l (execs (.Assign [.Attribute (.Name (Str.ofString "self") p1) a p2] (.Name y p3) pos :: rest) c.env) Q := by
  obtain ⟨es, k, H, r, z⟩ := H
  have p := fun tk => putL_ref (a := a) (b := PyData.keyHash w.params a) (tk := tk) (v := v) r
  refine .setA (((EvP.name hv hy) _ <| Go.setA hs <| At.setK H.m1 H.m2 H.ne hp ?_ (fun tk => rfl) (fun tk => Nat.le_trans (p tk).2 (Nat.succ_le_of_lt (Nat.lt_of_le_of_lt z hz))) fun tk n' M => kk n' ⟨_, _, H.mut M, (p tk).1, Nat.le_trans (p tk).2 (Nat.succ_le_succ z)⟩)) hw
  unfold getL
  rw [r]
  cases es.find? (·.key.isStr a) <;> rfl
theorem At.mk {vn vo : Value} {cn : Int} {t5 : Tok} {pl : Addr} {Q : Value → Shared → Prop} (hroom : c.dp + 1 < recursionLimit)
    (k : ∀ x d t1 t2 t3 t4 n', NewN w n n' x d (dictOf (treeEs w t1 t2 t3 t4 t5 vn vo cn pl) 4) → Go c n' l Q (.ref x)) : At c n l (call (.ref 207) [vn, .int cn t5, vo, .ref pl]) Q :=
  .cls rfl rfl rfl fun x d n1 hN => At.enterC (c := c.up 1 1) (by exact rfl) hroom [Str.ofString "self", Str.ofString "name", Str.ofString "count", Str.ofString "oid", Str.ofString "parts"] [] [(Str.ofString "self", some (.ref x)), (Str.ofString "name", some vn), (Str.ofString "count", some (.int cn t5)), (Str.ofString "oid", some vo), (Str.ofString "parts", some (.ref pl))] fun c' RQ hI =>
    hN.self rfl ps_name fun k1 n2 N => N.self rfl ps_count fun k2 n3 N => N.self rfl ps_oid fun k3 n4 N => N.self rfl ps_parts fun k4 n5 N =>
    At.nil <| hI.nxt _ _ fun h tk H => ⟨rfl, k _ _ _ _ _ _ _ ⟨N.m1, N.m2, N.sub, N.nx, N.nd, Ne.symm N.ne⟩ h tk H⟩
theorem At.exSet {x t : Addr} {v : Value} {Q : Unit → Shared → Prop} (hne : ∀ p ∈ n, @Ne Nat p.1 x) (k : ∀ d, Go c ((x, excD t d) :: n) l Q ()) : At c ((x, excO t) :: n) l (setAttr (.ref x) (Str.ofString "told") v) Q := fun h tk H => by
  obtain ⟨m, hid, hV, F, N, O⟩ := H
  have off : ∀ p ∈ hid, @Ne Nat p.1 x := fun p hp => O p hp _ (.head _)
  refine ex_set (t := t) (news := hid ++ n) F (News.sub N fun q hq => ?_) c.X (fun p hp => (List.mem_append.mp hp).elim (off p) (hne p)) fun h' d od tk' F' N' => k d h' tk' ⟨m, hid, hV, F', News.sub N' fun q hq => ?_, fun p hp q hq => ?_⟩
  · rcases List.mem_cons.mp hq with rfl | hq
    · exact List.mem_append_right _ (.head _)
    · exact (List.mem_append.mp hq).elim (List.mem_append_left _) fun h => List.mem_append_right _ (.tail _ h)
  · rcases List.mem_append.mp hq with hq | hq
    · exact .tail _ (.tail _ (List.mem_append_left _ hq))
    · rcases List.mem_cons.mp hq with rfl | hq
      · exact .head _
      · exact .tail _ (.tail _ (List.mem_append_right _ hq))
  · rcases List.mem_cons.mp hq with rfl | hq
    · exact off p hp
    · exact O p hp q (.tail _ hq)
theorem At.bad {v : Value} {Q : Value → Shared → Prop} (hroom : c.dp + 1 < recursionLimit) (k : ∀ x t d, (∀ p ∈ n, @Ne Nat p.1 x) → Go c ((x, excD t d) :: n) l Q (.ref x)) : At c n l (call (.ref 64) [v]) Q := fun h tk H => by
  obtain ⟨m, hid, hV, F, N, O⟩ := H
  refine ex_callK F N (c.X.keeps F.keep) fun x t h' F' N' l1 l2 => ?_
  have lt : ∀ p ∈ hid ++ n, @LT.lt Nat _ p.1 x := fun p hp => Nat.lt_trans (l1 p hp) l2
  have hne : ∀ p ∈ n, @Ne Nat p.1 x := fun p hp => Nat.ne_of_lt (lt p (List.mem_append_right _ hp))
  have key : CodeAt (c.up 1 1) ((x, excO t) :: n) l (.ref 36) [.ref x, v] fun v s' => v = .none ∧ Q (.ref x) s' := At.enterC (by exact rfl) hroom [Str.ofString "self", Str.ofString "told"] [] [(Str.ofString "self", some (.ref x)), (Str.ofString "told", some v)] (fun c' RQ hI => .setA <| (EvP.name rfl) _ <| Go.setA rfl <| At.exSet hne fun d => At.nil <| hI.nxt _ _ fun h tk H => ⟨rfl, k x t d hne h tk H⟩) fun s X => binds_K X rfl rfl rfl rfl rfl
  refine codeAny_mono (key h' tk ⟨m, hid, hV, F', News.sub N' fun q hq => ?_, fun p hp q hq => ?_⟩) fun r s' hr => ?_
  · rcases List.mem_append.mp hq with hq | hq
    · exact .tail _ (.tail _ (List.mem_append_left _ hq))
    · rcases List.mem_cons.mp hq with rfl | hq
      · exact .head _
      · exact .tail _ (.tail _ (List.mem_append_right _ hq))
  · rcases List.mem_cons.mp hq with rfl | hq
    · exact Nat.ne_of_lt (lt p (List.mem_append_left _ hp))
    · exact O p hp q hq
  · cases r with
    | ok f => cases f <;> exact hr
    | error e => exact hr.elim
end
end
section
noncomputable def Tree.nm : Tree → Bs | .mk n _ _ _ => n
noncomputable def Tree.cn : Tree → Int | .mk _ c _ _ => c
noncomputable def Tree.od : Tree → Option Bs | .mk _ _ o _ => o
noncomputable def Tree.ps : Tree → List Tree | .mk _ _ _ p => p
mutual
noncomputable def Tree.sz : Tree → Nat | .mk _ _ _ p => Tree.szs p + 1
noncomputable def Tree.szs : List Tree → Nat | [] => 0 | t :: r => t.sz + Tree.szs r
end
theorem szs_app (a b : List Tree) : Tree.szs (a ++ b) = Tree.szs a + Tree.szs b := by
  induction a with
  | nil => simp [Tree.szs]
  | cons t r ih => rw [List.cons_append, Tree.szs, Tree.szs, ih]; lia
theorem ne_kind {k : Led} {a b : Addr} {o o' : Obj} (hF : Fn k) (h1 : (a, o) ∈ k) (h2 : (b, o') ∈ k) (hne : o ≠ o') : @Ne Nat a b := fun e => hne (hF a o o' h1 (by have e' : a = b := e; rw [e']; exact h2))
theorem tup_lst {a b : List Value} {j : Nat} : tup a ≠ lstN b j := fun h => by have := congrArg Obj.cls h; simp at this
theorem inst_lst {C d : Addr} {b : List Value} {j : Nat} : instObj C d ≠ lstN b j := fun h => by have := congrArg Obj.cls h; simp [instObj] at this
theorem dict_lst {es : List DictEntry} {k : Nat} {b : List Value} {j : Nat} : dictOf es k ≠ lstN b j := fun h => by have := congrArg Obj.cls h; simp [dictOf] at this
theorem tup_dict {a : List Value} {es : List DictEntry} {k : Nat} : tup a ≠ dictOf es k := fun h => by have := congrArg Obj.cls h; simp [dictOf] at this
theorem inst_dict {C d : Addr} {es : List DictEntry} {k : Nat} : instObj C d ≠ dictOf es k := fun h => by have := congrArg Obj.cls h; simp [dictOf, instObj] at this
mutual
noncomputable def TreeU (w : World) (news : Led) : Value → Tree → List Addr → Prop
  | v, .mk n c o ps, ds => ∃ a d tn vo pl t1 t2 t3 t4 t5 vs i es, v = .ref a ∧ (a, instObj 207 d) ∈ news ∧ (d, dictOf (treeEs w t1 t2 t3 t4 t5 (.bytes n.toArray tn) vo c pl) 4) ∈ news ∧
      OV vo o ∧ (pl, lstN vs i) ∈ news ∧ TreesU w news vs ps es ∧ vs.length ≤ 1000 ∧ ds = d :: es
noncomputable def TreesU (w : World) (news : Led) : List Value → List Tree → List Addr → Prop
  | [], [], ds => ds = []
  | v :: vs, p :: ps, ds => ∃ d1 d2, TreeU w news v p d1 ∧ TreesU w news vs ps d2 ∧ ds = d1 ++ d2
  | _, _, _ => False
end
mutual
theorem TreeU.tree {w : World} {n : Led} : ∀ {t : Tree} {v : Value} {ds : List Addr}, TreeU w n v t ds → TreeIn w n v t
  | .mk nm c o ps, v, ds, h => by
    change Exists _ at h
    refine X13_3 h ?_; clear h; rintro a d tn vo pl t1 t2 t3 t4 t5 vs i es h0 h1 zz; obtain ⟨h2, h3, h4, h5, h6, _⟩ := zz
    show Exists _
    exact Y12_7 a d tn vo pl t1 t2 t3 t4 t5 vs i h0 h1 h2 h3 h4 h5.trees h6
theorem TreesU.trees {w : World} {n : Led} : ∀ {ps : List Tree} {vs : List Value} {ds : List Addr}, TreesU w n vs ps ds → TreesIn w n vs ps
  | [], [], _, _ => trivial
  | [], _ :: _, _, h => False.elim h
  | _ :: _, [], _, h => False.elim h
  | p :: ps, v :: vs, ds, h => by
    change Exists _ at h
    refine X2_3 h ?_; clear h; rintro d1 d2 h1 h2 _
    show _ ∧ _
    exact ⟨h1.tree, h2.trees⟩
end
mutual
theorem TreeU.keep {w : World} {n k : Led} (hF : Fn n) : ∀ {t : Tree} {v : Value} {ds : List Addr} {bad : List Addr}, TreeU w n v t ds → (∀ q ∈ n, q.1 ∉ bad → q ∈ k) → (∀ a ∈ bad, a ∉ ds) → (∀ a ∈ bad, ∃ es j, (a, dictOf es j) ∈ n ∨ ∃ o, (a, o) ∈ n ∧ (∀ C d, o ≠ instObj C d) ∧ (∀ es j, o ≠ dictOf es j) ∧ ∀ b j, o ≠ lstN b j) → TreeU w k v t ds
  | .mk nm c o ps, v, ds, bad, h, hs, hd, hb => by
    change Exists _ at h ⊢
    refine X13_3 h ?_; clear h; rintro a d tn vo pl t1 t2 t3 t4 t5 vs i es h0 h1 zz; obtain ⟨h2, h3, h4, h5, h6, h7⟩ := zz
    have n1 : a ∉ bad := fun ha => by
      refine X2_1 (hb a ha) ?_; rintro es j (hx | ⟨o, hx, x1, x2, x3⟩)
      · exact inst_dict (hF _ _ _ h1 hx)
      · exact x1 _ _ (hF _ _ _ hx h1)
    have n4 : pl ∉ bad := fun ha => by
      refine X2_1 (hb pl ha) ?_; rintro es j (hx | ⟨o, hx, x1, x2, x3⟩)
      · exact dict_lst (hF _ _ _ hx h4)
      · exact x3 _ _ (hF _ _ _ hx h4)
    have n2 : d ∉ bad := fun ha => hd d ha (by rw [h7]; exact .head _)
    exact Y13_8 a d tn vo pl t1 t2 t3 t4 t5 vs i es h0 (hs _ h1 n1) (hs _ h2 n2) h3 (hs _ h4 n4) (h5.keep hF hs (fun a ha he => hd a ha (by rw [h7]; exact .tail _ he)) hb) h6 h7
theorem TreesU.keep {w : World} {n k : Led} (hF : Fn n) : ∀ {ps : List Tree} {vs : List Value} {ds : List Addr} {bad : List Addr}, TreesU w n vs ps ds → (∀ q ∈ n, q.1 ∉ bad → q ∈ k) → (∀ a ∈ bad, a ∉ ds) → (∀ a ∈ bad, ∃ es j, (a, dictOf es j) ∈ n ∨ ∃ o, (a, o) ∈ n ∧ (∀ C d, o ≠ instObj C d) ∧ (∀ es j, o ≠ dictOf es j) ∧ ∀ b j, o ≠ lstN b j) → TreesU w k vs ps ds
  | [], [], _, _, h, _, _, _ => h
  | [], _ :: _, _, _, h, _, _, _ => False.elim h
  | _ :: _, [], _, _, h, _, _, _ => False.elim h
  | p :: ps, v :: vs, ds, bad, h, hs, hd, hb => by
    change Exists _ at h ⊢
    refine X2_3 h ?_; clear h; rintro d1 d2 h1 h2 h3
    exact Y2_3 d1 d2 (h1.keep hF hs (fun a ha he => hd a ha (by rw [h3]; exact List.mem_append_left _ he)) hb) (h2.keep hF hs (fun a ha he => hd a ha (by rw [h3]; exact List.mem_append_right _ he)) hb) h3
end
mutual
theorem TreeU.sub {w : World} {n k : Led} (hs : ∀ q ∈ n, q ∈ k) : ∀ {t : Tree} {v : Value} {ds : List Addr}, TreeU w n v t ds → TreeU w k v t ds
  | .mk nm c o ps, v, ds, h => by
    change Exists _ at h ⊢
    refine X13_3 h ?_; clear h; rintro a d tn vo pl t1 t2 t3 t4 t5 vs i es h0 h1 zz; obtain ⟨h2, h3, h4, h5, h6, h7⟩ := zz
    exact Y13_8 a d tn vo pl t1 t2 t3 t4 t5 vs i es h0 (hs _ h1) (hs _ h2) h3 (hs _ h4) (h5.sub hs) h6 h7
theorem TreesU.sub {w : World} {n k : Led} (hs : ∀ q ∈ n, q ∈ k) : ∀ {ps : List Tree} {vs : List Value} {ds : List Addr}, TreesU w n vs ps ds → TreesU w k vs ps ds
  | [], [], _, h => h
  | [], _ :: _, _, h => False.elim h
  | _ :: _, [], _, h => False.elim h
  | p :: ps, v :: vs, ds, h => by
    change Exists _ at h ⊢
    refine X2_3 h ?_; clear h; rintro d1 d2 h1 h2 h3
    exact Y2_3 d1 d2 (h1.sub hs) (h2.sub hs) h3
end
theorem TreesU.nil {w : World} {n : Led} : TreesU w n [] [] [] := rfl
theorem TreesU.cons {w : World} {n : Led} {v : Value} {vs : List Value} {p : Tree} {ps : List Tree} {d1 d2 : List Addr} (h1 : TreeU w n v p d1) (h2 : TreesU w n vs ps d2) : TreesU w n (v :: vs) (p :: ps) (d1 ++ d2) := by show Exists _; exact Y2_3 d1 d2 h1 h2 rfl
theorem dicts_mem {w : World} {n : Led} : (∀ {t : Tree} {v : Value} {ds : List Addr}, TreeU w n v t ds → ∀ a ∈ ds, ∃ es, (a, dictOf es 4) ∈ n) ∧ ∀ {ps : List Tree} {vs : List Value} {ds : List Addr}, TreesU w n vs ps ds → ∀ a ∈ ds, ∃ es, (a, dictOf es 4) ∈ n := by
  have key : ∀ k : Nat, (∀ {t : Tree} {v : Value} {ds : List Addr}, t.sz ≤ k → TreeU w n v t ds → ∀ a ∈ ds, ∃ es, (a, dictOf es 4) ∈ n) ∧ ∀ {ps : List Tree} {vs : List Value} {ds : List Addr}, Tree.szs ps ≤ k → TreesU w n vs ps ds → ∀ a ∈ ds, ∃ es, (a, dictOf es 4) ∈ n := by
    intro k
    induction k with
    | zero =>
      refine ⟨fun {t v ds} hk => by obtain ⟨_, _, _, _⟩ := t; unfold Tree.sz at hk; lia, fun {ps vs ds} hk h a ha => ?_⟩
      match ps, vs with
      | [], [] => change _ = _ at h; subst h; cases ha
      | [], _ :: _ => exact False.elim h
      | p :: r, _ => unfold Tree.szs at hk; obtain ⟨_, _, _, _⟩ := p; unfold Tree.sz at hk; lia
    | succ k ih =>
      have one : ∀ {t : Tree} {v : Value} {ds : List Addr}, t.sz ≤ k + 1 → TreeU w n v t ds → ∀ a ∈ ds, ∃ es, (a, dictOf es 4) ∈ n := fun {t v ds} hk h a ha => by
        obtain ⟨nm, c, o, ps⟩ := t
        unfold Tree.sz at hk
        change Exists _ at h
        refine X13_3 h ?_; clear h; rintro a' d tn vo pl t1 t2 t3 t4 t5 vs i es h0 h1 zz; obtain ⟨h2, h3, h4, h5, h6, rfl⟩ := zz
        rcases List.mem_cons.mp ha with rfl | ha
        · exact ⟨_, h2⟩
        · exact ih.2 (by lia) h5 a ha
      refine ⟨one, fun {ps} => ?_⟩
      induction ps with
      | nil =>
        intro vs ds _ h a ha
        cases vs with
        | nil => change _ = _ at h; subst h; cases ha
        | cons _ _ => exact False.elim h
      | cons p r ihr =>
        intro vs ds hk h a ha
        cases vs with
        | nil => exact False.elim h
        | cons v vs =>
          change Exists _ at h
          unfold Tree.szs at hk
          refine X2_3 h ?_; clear h; rintro d1 d2 h1 h2 rfl
          rcases List.mem_append.mp ha with ha | ha
          · exact one (by lia) h1 a ha
          · exact ihr (by lia) h2 a ha
  exact ⟨fun {t v ds} h => (key t.sz).1 (Nat.le_refl _) h, fun {ps vs ds} h => (key (Tree.szs ps)).2 (Nat.le_refl _) h⟩
end
section
theorem asc_up {cmp : Nat → Nat → (Bool → Shared → Prop) → Shared → Prop} {s : Shared} {p : Array Nat} {n : Nat} (hp : ∀ i, i < n → p.getD i 0 = i) (up : ∀ i, 1 ≤ i → i < n → ∀ K : Bool → Shared → Prop, K false s → cmp i (i - 1) K s) :
    ∀ (f i : Nat) (K : Nat → Shared → Prop), 1 ≤ i → i + f = n → K n s → (kas_asc p f i).kasWp cmp K s
  | 0, i, K, _, e, h => by
    have : i = n := e
    subst this
    exact h
  | f + 1, i, K, h1, e, h => by
    show cmp (p.getD i 0) (p.getD (i - 1) 0) (fun c s' => (if c = true then KasT.ret i else kas_asc p f (i + 1)).kasWp cmp K s') s
    rw [hp i (by lia), hp (i - 1) (by omega)]
    refine up i h1 (by omega) _ ?_
    rw [if_neg (fun h => nomatch h)]
    exact asc_up hp up f (i + 1) K (by lia) (by lia) h
theorem kas_up {cmp : Nat → Nat → (Bool → Shared → Prop) → Shared → Prop} {s : Shared} {Q : Array Nat → Shared → Prop} {n : Nat} (h1 : 1 ≤ n) (up : ∀ i, 1 ≤ i → i < n → ∀ K : Bool → Shared → Prop, K false s → cmp i (i - 1) K s) (q : Q (List.toArray (List.range n)) s) : (kas_sort n).kasWp cmp Q s := by
  unfold kas_sort
  rw [KasT.kasWp_bind]
  unfold kas_count
  rw [KasT.kasWp_bind]
  refine asc_up (fun i hi => by simp [hi]) up (n - 1) 1 _ (by lia) (by omega) ?_
  rw [if_pos (by simp)]
  show (if n < n then _ else KasT.ret _ : KasT (Array Nat)).kasWp cmp Q s
  rw [if_neg (Nat.lt_irrefl n)]
  exact q
theorem lt_bytes {prog : Program} {w : World} {A : Around} {E : Value → Shared → Prop} {s : Shared} {b c : Array UInt8} {t u : Tok} {Q : Value → Shared → Prop} (h : Q (.bool (decide (b.toList.map (·.toNat) < c.toList.map (·.toNat)))) s) : wpAny (model prog w) A (compareOp .Lt (.bytes b t) (.bytes c u)) Q E s :=
  compareOp_gives (op := .Lt) (typeIs_bytes s b t) (typeIs_bytes s c u) slot_bytes_lt entry_bytes_lt (args_bytes_lt _ _) (gives_bytes_lt b c t u) (fun e => nomatch e) h
noncomputable def KLt (x y : Bs) : Prop := x.length < y.length ∨ x.length = y.length ∧ x.map (·.toNat) < y.map (·.toNat)
theorem key_lt {prog : Program} {w : World} {A : Around} {E : Value → Shared → Prop} {s : Shared} {X Y : Addr} {x y : Bs} {t1 t2 t3 t4 : Tok} {Q : Bool → Shared → Prop} (hX : s.heap.get? X = some (tup [.int x.length t1, .bytes x.toArray t2])) (hY : s.heap.get? Y = some (tup [.int y.length t3, .bytes y.toArray t4]))
    (h : KLt y x) (q : Q false s) : wpAny (model prog w) A (keyLt' (tuples' true) (.ref X) (.ref Y)) Q E s := by
  refine kat_lt hX rfl hY rfl ?_
  refine kat_cons (wpAny_eqBool_int ?_)
  rcases h with h | ⟨h1, h2⟩
  · rw [show ((x.length : Int) == (y.length : Int)) = false by simp; lia]
    refine kat_no (oneLt_int ?_)
    rw [show decide ((x.length : Int) < (y.length : Int)) = false by simp; lia]
    exact q
  · rw [show ((x.length : Int) == (y.length : Int)) = true by simp; lia]
    refine kat_yes (kat_cons (eqBool_bytes ?_))
    have ne : ¬ x = y := fun e => by subst e; exact List.lt_irrefl _ h2
    rw [show decide (x.toArray.toList = y.toArray.toList) = false by simpa using ne]
    refine kat_no (kat_one _ _ (lt_bytes ?_))
    have : ¬ x.map (·.toNat) < y.map (·.toNat) := fun e => List.lt_irrefl _ (List.lt_trans e h2)
    rw [show decide (x.toArray.toList.map (·.toNat) < y.toArray.toList.map (·.toNat)) = false by simpa using this]
    exact q
section
variable {w : World} {c : Cx w} {n : Led} {l : Fm} {sc : Scope} {d u : Nat}
noncomputable def KeyC {w : World} (c : Cx w) (n : Led) (l : Fm) (f v : Value) (nm : Bs) : Prop := CaG c n l f [v] fun r n' => ∃ T t1 t2, r = .ref T ∧ New n n' T (tup [.int nm.length t1, .bytes nm.toArray t2])
structure KSt (n : Led) (nms : List Bs) (kS D : Addr) (e1 : Nat) (ks : List Value) (e : Nat) (k : Led) : Prop where
  sub : ∀ q ∈ n, q ∈ k
  hD : (D, lstN [] e1) ∈ k
  hS : (kS, lstN ks e) ∈ k
  ls : ks.length ≤ nms.length
  at_ : ∀ (j : Nat) (kv : Value), ks[j]? = some kv → ∃ (T : Addr) (nm : Bs) (t1 t2 : Tok), nms[j]? = some nm ∧ kv = .ref T ∧ (T, tup [.int nm.length t1, .bytes nm.toArray t2]) ∈ k
theorem Hp.list' {k : Led} {h : Heap} {m : Str → Option Value} {hid : Led} (hV : c.V l m hid) (H : Hp c k l h) : ∃ hid, c.V l m hid ∧ Fr c.g c.L h m ∧ News c.g c.L h (hid ++ k) ∧ Off hid k := by
  obtain ⟨m', hid', hV', F, N, O⟩ := H
  have := c.mu hV hV'
  subst this
  exact Y1_4 hid' hV' F N O
theorem key_back {h : Heap} {tk : Tok} {m : Str → Option Value} {hid0 : Led} {nms : List Bs} {nm : Bs} {kS D : Addr} {e1 e : Nat} {ks : List Value} {f v : Value} {k : Led} (hV : c.V l m hid0) (hkn : ∀ q ∈ n, @Ne Nat q.1 kS) (hDk : @Ne Nat D kS) (S : KSt n nms kS D e1 ks e k) (hn : nms[ks.length]? = some nm)
    (key : ∀ k, (∀ q ∈ n, q ∈ k) → KeyC c.in2 k l f v nm) (H : Hp c k l h) {C : Value → Nat → Shared → Prop} (kk : ∀ kv c' k' h' tk', KSt n nms kS D e1 (ks ++ [kv]) c' k' → Hp c k' l h' → C kv c' { c.s with heap := h', toks := tk' }) :
    wpAny (model PR w) c.A.in1.in1 (call f [v]) (KatBack c.g c.L m kS ks e C) (fun _ _ => False) { c.s with heap := h, toks := tk } := by
  refine key k S.sub _ (fun r k1 hr h1 tk1 H1 => ?_) h tk H
  refine X3_2 hr ?_; clear hr; rintro T t1 t2 rfl hN
  have hS1 := hN.sub _ S.hS
  have H1' : Hp c k1 l h1 := H1
  refine X1_4 (H1'.list' hV) fun hid hV1 F1 N1 O1 => ?_
  have hlt : ks.length < nms.length := (List.getElem?_eq_some_iff.mp hn).1
  refine KatBack.intro F1 (Hp.front N1 hS1) (.head front_ne) fun h2 c2 F2 N2 => ?_
  have M := Mut.of (n := k1) (a := kS) (o := lstN (ks ++ [.ref T]) c2)
  refine kk _ _ _ _ _ ⟨fun q hq => M.sub q (hN.sub q (S.sub q hq)) (hkn q hq), M.sub _ (hN.sub _ S.hD) hDk, M.mem, by rw [List.length_append, List.length_singleton]; lia, fun j kv hj => ?_⟩ (Hp.mut hV1 O1 F2 hS1 N2)
  have tupne : ∀ {X : Addr} {vs : List Value}, (X, tup vs) ∈ k1 → @Ne Nat X kS := fun {X vs} hX => ne_kind H1.fn hX hS1 tup_lst
  by_cases hjl : j < ks.length
  · rw [List.getElem?_append_left hjl] at hj
    refine X4_3 (S.at_ j kv hj) fun T' nm' u1 u2 g1 g2 g3 => ?_
    exact Y4_3 T' nm' u1 u2 g1 g2 (M.sub _ (hN.sub _ g3) (tupne (hN.sub _ g3)))
  · rw [List.getElem?_append_right (by lia)] at hj
    have e0 : j - ks.length = 0 := by
      rcases Nat.eq_zero_or_pos (j - ks.length) with h | h
      · exact h
      · rw [List.getElem?_eq_none (by simp; lia)] at hj; cases hj
    have ej : j = ks.length := by lia
    subst ej
    rw [e0] at hj
    cases hj
    exact Y4_3 T nm t1 t2 hn rfl (M.sub _ hN.mem (tupne hN.mem))
theorem key_fin {h : Heap} {tk : Tok} {m : Str → Option Value} {hid0 : Led} {nms : List Bs} {kS D : Addr} {e1 e : Nat} {ks out : List Value} {k : Led} (hV : c.V l m hid0) (hkn : ∀ q ∈ n, @Ne Nat q.1 kS) (hDn : ∀ q ∈ n, @Ne Nat q.1 D) (hDk : @Ne Nat D kS) (S : KSt n nms kS D e1 ks e k) (H : Hp c k l h) {C : Shared → Prop}
    (kk : ∀ c' k' h' tk', (∀ q ∈ n, q ∈ k') → (D, lstN out c') ∈ k' → Hp c k' l h' → C { c.s with heap := h', toks := tk' }) : KatFin c.g c.L m kS D ks e e1 out C { c.s with heap := h, toks := tk } := by
  refine X1_4 (H.list' hV) fun hid hV1 F1 N1 O1 => ?_
  refine KatFin.intro F1 (Hp.front N1 S.hS) (.head front_ne) fun h2 c2 F2 N2 => ?_
  have H2 := Hp.mut hV1 O1 F2 S.hS N2
  have M := Mut.of (n := k) (a := kS) (o := lstN [] c2)
  have hD2 := M.sub _ S.hD hDk
  refine X1_4 (H2.list' hV) fun hid2 hV2 F2 N2 O2 => ?_
  refine KasFin.intro F2 (Hp.front N2 hD2) (.head front_ne) fun h3 c3 F3 N3 => ?_
  have M3 := Mut.of (n := setL k kS (lstN [] c2)) (a := D) (o := lstN out c3)
  exact kk c3 _ _ _ (fun q hq => M3.sub q (M.sub q (S.sub q hq) (hkn q hq)) (hDn q hq)) M3.mem (Hp.mut hV2 O2 F3 hD2 N3)
end
end
section
theorem rng_map {α : Type} {d : α} (vs : List α) : (List.range vs.length).map (fun i => vs.getD i d) = vs := by
  refine List.ext_getElem? fun i => ?_
  rw [List.getElem?_map]
  by_cases h : i < vs.length
  · rw [List.getElem?_range h, List.getElem?_eq_getElem h]
    simp [h]
  · rw [List.getElem?_eq_none (by simp; lia), List.getElem?_eq_none (by omega)]
    rfl
theorem tups_of {h : Heap} : ∀ (ks : List Value), (∀ kv ∈ ks, ∃ (T : Addr) (i : Int) (b : Value) (t : Tok), kv = .ref T ∧ h.get? T = some (tup [.int i t, b])) → ∃ fs, KatTups h ks fs ∧ fs.length = ks.length ∧ ∀ v ∈ fs, ∃ i t, v = Value.int i t
  | [], _ => Y1_3 [] .nil rfl (fun _ h => nomatch h)
  | kv :: r, hk => by
    refine X4_2 (hk _ (.head _)) ?_; rintro T i b t rfl hT
    refine X1_3 (tups_of r fun kv h => hk kv (.tail _ h)) fun fs h1 h2 h3 => ?_
    refine Y1_3 (.int i t :: fs) (.cons hT rfl rfl rfl h1) (by simp [h2]) (fun v hv => ?_)
    rcases List.mem_cons.mp hv with rfl | hv
    · exact Y2_1 _ _ rfl
    · exact h3 v hv
section
variable {w : World} {c : Cx w} {n : Led} {l : Fm} {sc : Scope} {d u : Nat}
theorem keys_all {m : Str → Option Value} {hid0 : Led} {nms : List Bs} {kS D : Addr} {e1 : Nat} {f : Value} {Fin : List Value → Nat → Shared → Prop} (hV : c.V l m hid0) (hkn : ∀ q ∈ n, @Ne Nat q.1 kS) (hDk : @Ne Nat D kS)
    (fin : ∀ ks e k h tk, KSt n nms kS D e1 ks e k → ks.length = nms.length → Hp c k l h → Fin ks e { c.s with heap := h, toks := tk }) : ∀ (r ks : List Value) (e : Nat) (k : Led) (h : Heap) (tk : Tok), ks.length + r.length = nms.length →
    (∀ (j : Nat) (v : Value), r[j]? = some v → ∃ nm, nms[ks.length + j]? = some nm ∧ ∀ k, (∀ q ∈ n, q ∈ k) → KeyC c.in2 k l f v nm) → KSt n nms kS D e1 ks e k → Hp c k l h → KatKeys PR w c.A.in1.in1 c.g c.L m kS f Fin r ks e { c.s with heap := h, toks := tk }
  | [], ks, e, k, h, tk, hl, _, S, H => .nil (fin ks e k h tk S (by simpa using hl) H)
  | v :: r, ks, e, k, h, tk, hl, hk, S, H => by
    refine X1_2 (hk 0 v rfl) fun nm h1 h2 => ?_
    refine .cons (key_back hV hkn hDk S h1 h2 H fun kv c' k' h' tk' S' H' => ?_)
    refine keys_all hV hkn hDk fin r _ _ _ _ _ (by rw [List.length_append, List.length_singleton]; rw [List.length_cons] at hl; lia) (fun j v hj => ?_) S' H'
    rw [List.length_append, List.length_singleton, Nat.add_assoc, Nat.add_comm 1 j]
    exact hk (j + 1) v hj
theorem At.sortKey {a f : Addr} {k : Nat} {vs : List Value} {nms : List Bs} {Q : Value → Shared → Prop} (ha : (a, lstN vs k) ∈ n) (hl : nms.length = vs.length) (h64 : vs.length < 64) (asc : ∀ (i : Nat) (x y : Bs), nms[i]? = some x → nms[i + 1]? = some y → KLt x y)
    (key : ∀ (i : Nat) (v : Value) (nm : Bs), vs[i]? = some v → nms[i]? = some nm → ∀ k, (∀ q ∈ n, q ∈ k) → KeyC c.in2 k l (.ref f) v nm)
    (kk : ∀ D j n', (∀ q ∈ n, q ∈ n') → (∀ q ∈ n, @Ne Nat q.1 D) → (D, lstN vs j) ∈ n' → Go c n' l Q (.ref D)) : At c n l (call (.builtin "sorted") [.ref a] [(Str.ofString "key", .ref f)]) Q := fun h tk H => by
  obtain ⟨m, hid, hV, F, N, O⟩ := H
  have hla : h.IsList a vs.toArray := Y1_3 _ ((N _ (List.mem_append_right _ ha)).1) rfl ⟨_, rfl⟩
  have start : ∀ {D kS : Addr} {e1 : Nat} {h' : Heap}, Fr c.g c.L h' m → News c.g c.L h' ((kS, seqObj "list" #[] 0) :: (D, seqObj "list" #[] e1) :: (hid ++ n)) → @LT.lt Nat _ D kS → (∀ q ∈ hid ++ n, @LT.lt Nat _ q.1 D) →
      Hp c ((kS, lstN [] 0) :: (D, lstN [] e1) :: n) l h' ∧ KSt n nms kS D e1 [] 0 ((kS, lstN [] 0) :: (D, lstN [] e1) :: n) ∧ (∀ q ∈ n, @Ne Nat q.1 kS) ∧ (∀ q ∈ n, @Ne Nat q.1 D) ∧ @Ne Nat D kS := fun {D kS e1 h'} F' N' l0 l1 => by
    refine Y0_5 ⟨m, hid, hV, F', News.sub N' fun q hq => ?_, fun p hp q hq => ?_⟩ ⟨fun q hq => .tail _ (.tail _ hq), .tail _ (.head _), .head _, Nat.zero_le _, fun j kv hj => by simp at hj⟩ (fun q hq => Nat.ne_of_lt (Nat.lt_trans (l1 q (List.mem_append_right _ hq)) l0)) (fun q hq => Nat.ne_of_lt (l1 q (List.mem_append_right _ hq))) (Nat.ne_of_lt l0)
    · rcases List.mem_append.mp hq with hq | hq
      · exact .tail _ (.tail _ (List.mem_append_left _ hq))
      · rcases List.mem_cons.mp hq with rfl | hq
        · exact .head _
        · rcases List.mem_cons.mp hq with rfl | hq
          · exact .tail _ (.head _)
          · exact .tail _ (.tail _ (List.mem_append_right _ hq))
    · rcases List.mem_cons.mp hq with rfl | hq
      · exact Nat.ne_of_lt (Nat.lt_trans (l1 p (List.mem_append_left _ hp)) l0)
      · rcases List.mem_cons.mp hq with rfl | hq
        · exact Nat.ne_of_lt (l1 p (List.mem_append_left _ hp))
        · exact O p hp q hq
  by_cases h2 : 2 ≤ vs.length
  · refine kat_sortedK (b := false) F N hla h2 h64 (ksk_s1 _ _) (fun _ => ksk_l1 _ _) (fun _ => ksk_t1 _ _) fun D kS e1 h' F' N' l0 l1 => ?_
    refine X0_5 (start F' N' l0 l1) fun H' S' q1 q2 q3 => ?_
    refine keys_all hV q1 q3 (fun ks e k h'' tk'' S hks H'' => ?_) vs [] 0 _ h' tk (by simpa using hl.symm) (fun j v hj => ?_) S' H'
    · obtain ⟨fs, t1, t2, t3⟩ := tups_of (h := h'') ks fun kv hkv => by
        obtain ⟨j, hj⟩ := List.getElem?_of_mem hkv
        refine X4_3 (S.at_ j kv hj) ?_; rintro T nm u1 u2 _ rfl hm
        exact Y4_2 T _ _ u1 rfl (H''.get hm)
      refine kat_kind (T := .type "int") t1 (by lia) (fun v hv => ?_) (by decide) ?_
      · refine X2_1 (t3 v hv) ?_; rintro i t rfl
        exact Looks.of_pure rfl
      · refine kas_up (by lia) (fun i h1 hi K hK => ?_) ?_
        · have g1 : ks[i]? = some ks[i] := List.getElem?_eq_getElem (by omega)
          have g2 : ks[i - 1]? = some ks[i - 1] := List.getElem?_eq_getElem (by omega)
          refine X4_3 (S.at_ _ _ g1) fun T nm u1 u2 x1 x2 x3 => ?_
          refine X4_3 (S.at_ _ _ g2) fun T' nm' u1' u2' y1 y2 y3 => ?_
          have e1 : ks.getD i Value.none = .ref T := by rw [List.getD_eq_getElem?_getD, g1]; exact x2
          have e2 : ks.getD (i - 1) Value.none = .ref T' := by rw [List.getD_eq_getElem?_getD, g2]; exact y2
          show wpAny _ _ (keyLt' (tuples' true) (ks.getD i Value.none) (ks.getD (i - 1) Value.none)) K _ _
          rw [e1, e2]
          exact key_lt (H''.get x3) (H''.get y3) (asc (i - 1) nm' nm y1 (by rw [show i - 1 + 1 = i by lia]; exact x1)) hK
        · show KatFin c.g c.L m kS D ks e e1 ((List.range vs.length).map fun i => vs.getD i Value.none) _ _
          rw [rng_map]
          exact key_fin hV q1 q2 q3 S H'' fun c' k' h3 tk3 z1 z2 z3 => kk D c' k' z1 q2 z2 h3 tk3 z3
    · have hj' : j < nms.length := by rw [hl]; exact (List.getElem?_eq_some_iff.mp hj).1
      exact Y1_2 (nms[j]) (by rw [List.length_nil, Nat.zero_add]; exact List.getElem?_eq_getElem hj') (key j v _ hj (List.getElem?_eq_getElem hj'))
  · match vs, hl, hla with
    | [], hl, hla =>
      refine ksk_sorted (b := false) (kz := []) (vs := []) F N hla rfl (by decide) (ksk_s1 _ _) (fun _ => ksk_l1 _ _) (fun _ => ksk_t1 _ _) (fun i v k hv _ => by simp at hv) fun D h' tk' out c' F' N' l1 ko => ?_
      refine X1_3 ko ?_; clear ko; rintro ps hp ho hs
      have hp : ps = [] := List.perm_nil.mp hp
      subst hp
      have : out = #[] := Array.toList_inj.mp ho
      subst this
      exact kk D c' ((D, lstN [] c') :: n) (fun q hq => .tail _ hq) (fun q hq => Nat.ne_of_lt (l1 q (List.mem_append_right _ hq))) (.head _) h' tk' (Hp.new hV O F' N' l1)
    | [v], hl, hla =>
      refine one_sorted F N hla (ksk_s1 _ _) (fun _ => ksk_l1 _ _) (fun _ => ksk_t1 _ _) fun D kS e1 h' F' N' l0 l1 => ?_
      refine X0_5 (start F' N' l0 l1) fun H' S' q1 q2 q3 => ?_
      obtain ⟨nm, rfl⟩ : ∃ nm, nms = [nm] := List.length_eq_one_iff.mp hl
      exact key_back hV q1 q3 S' rfl (key 0 v nm rfl rfl) H' fun kv c' k' h3 tk3 S3 H3 => key_fin hV q1 q2 q3 S3 H3 fun c4 k4 h4 tk4 z1 z2 z3 => kk D c4 k4 z1 q2 z2 h4 tk4 z3
    | _ :: _ :: _, _, _ => exact absurd (by simp) h2
end
end
section
section
variable {w : World} {c : Cx w} {n : Led} {l : Fm} {sc : Scope} {d u : Nat}
theorem CaG.lenB {b : Bs} {t : Tok} (hz : b.length ≤ 100000) : CaG c n l (.builtin "len") [.bytes b.toArray t] fun r n' => IV b.length r ∧ n' = n := fun Q kk h tk H =>
  len_bytes (by rw [List.size_toArray]; lia) (kk _ _ ⟨⟨_, rfl⟩, rfl⟩ h _ H)
theorem At.eCallK {fx e kv : PySem.Expr} {x : Str} {pos kp : Pos} {id : String} {Q : Value → Shared → Prop} (hf : EvP c n l fx (.builtin id)) (k : At c n l (spliced (backTo pos (starEach [e] c.env))) fun vs s' => wpAny (model PR w) c.A (eval kv c.env) (fun y s'' => wpAny (model PR w) c.A (call (.builtin id) vs [(x, y)]) Q c.E s'') c.E s')
    (hx : ∀ env : Env, eval (.Call fx [e] [⟨some x, kv, kp⟩] pos) env = (do callWith pos (← eval fx env) [] (backTo pos (starEach [e] env)) (backToKw pos (keywordEach [⟨some x, kv, kp⟩] env))) := by intro _; rfl)
    (he : ∀ env pos, backTo pos (starEach [e] env) = [(false, (do let v ← eval e env; standAt pos; pure v : Sem Value))] ∨ (backTo pos (starEach [e] env) = (false, eval e env) :: backTo pos (starEach [] env)) := by intro _ _; first | exact .inr rfl | exact .inl rfl)
    (hp : ∀ env pos, (backTo pos (starEach [e] env)).any (·.1) = false := by intro _ _; rfl) : At c n l (eval (.Call fx [e] [⟨some x, kv, kp⟩] pos) c.env) Q := fun h' tk H => by
  rw [hx]
  refine wpAny_bind (hf (fun v s₁ => wpAny (model PR w) c.A (callWith pos v [] (backTo pos (starEach [e] c.env)) (backToKw pos (keywordEach [⟨some x, kv, kp⟩] c.env))) Q c.E s₁) (fun h tk H => ?_) h' tk H)
  have k' := k h tk H
  refine callWith_builtin_kwB (hp _ _) rfl ?_
  have key : wpAny (model PR w) c.A (spliced (backTo pos (starEach [e] c.env))) (fun vs s₁ => wpAny (model PR w) c.A (evalAll ((backToKw pos (keywordEach [⟨some x, kv, kp⟩] c.env)).map (·.2))) (fun kvs s₂ => wpAny (model PR w) c.A (call (.builtin id) ([] ++ vs) ([x].zip kvs)) Q c.E s₂) c.E s₁) c.E { c.s with heap := h, toks := tk } :=
    wpAny_mono k' (fun vs s' h' => kws_cons (wpAny_mono h' (fun y s'' h'' => kws_nil h'') fun _ _ x => x)) fun _ _ x => x
  rcases he c.env pos with e1 | e1
  · rw [e1] at key ⊢
    exact evalArgs_kwB rfl key
  · rw [e1] at key ⊢
    exact evalArgs_kwB rfl key
theorem At.lam {cn : Str} {sce : Scope} {f cd P : Addr} {params : Arguments} {body : PySem.Expr} {scope : Scope} {pos : Pos} {Q : Value → Shared → Prop} (he : c.env = envX cn sce c.L f (.ref cd) []) (hC : codeHdIn (KK w) cd P = true) (hP : (P, tabObj #[]) ∈ n)
    (kk : ∀ f n', LamAt "<lambda>" ((cn ++ ".<locals>.") ++ "<lambda>") params body scope f n' → (∀ q ∈ n, @Ne Nat q.1 P → q ∈ n') → (∃ ps, (P, tabObj ps) ∈ n') → Go c n' l Q (.ref f)) (hdef : ∀ env, defaultsOf params env = ([], []) := by intro _; rfl) (hcl : ∀ cn sc L a ccd cl, closureFor scope (envX cn sc L a ccd cl) = pure [] := by intro _ _ _ _ _ _; rfl) :
    At c n l (eval (.Lambda params body scope pos) c.env) Q := fun h tk H => by
  obtain ⟨m, hid, hV, F, N, O⟩ := H
  rw [he]
  refine kla_eval (hdef _) ?_
  refine kla_nest F (Hp.front N hP) c.T (codeHd_of_K c.X hC) rfl (.head front_ne) True.intro rfl (hcl _ _ _ _ _ _) fun f' c' oc vs t ctv h' tk' F' N' hd hv l1 l2 => ?_
  have lt : ∀ q ∈ hid ++ n, @LT.lt Nat _ q.1 c' := fun q hq => by
    by_cases e : @Eq Nat q.1 P
    · rw [e]; exact l1 _ (.head _)
    · exact l1 q (.tail _ (List.mem_filter.mpr ⟨hq, by simpa using e⟩))
  refine kk f' ((f', kla_obj "<lambda>" ((cn ++ ".<locals>.") ++ "<lambda>") params body scope [] ((c.mg "__name__").getD .none) c' ctv) :: (c', oc) :: setL n P (tabObj (#[] ++ #[rawInt pos.line, rawInt pos.col, .ref c']))) (Y6_4 _ c' ctv oc vs t (.head _) (.tail _ (.head _)) hd hv) (fun q hq hne => .tail _ (.tail _ (Mut.of.sub q hq hne))) ⟨_, .tail _ (.tail _ Mut.of.mem)⟩ h' tk' ⟨m, hid, hV, F', News.sub N' fun q hq => ?_, fun p hp q hq => ?_⟩
  · rcases List.mem_append.mp hq with hq | hq
    · exact .tail _ (.tail _ (.tail _ (List.mem_filter.mpr ⟨List.mem_append_left _ hq, by simpa using O q hq _ hP⟩)))
    · rcases List.mem_cons.mp hq with rfl | hq
      · exact .head _
      · rcases List.mem_cons.mp hq with rfl | hq
        · exact .tail _ (.head _)
        · rcases List.mem_cons.mp hq with rfl | hq
          · exact .tail _ (.tail _ (.head _))
          · exact .tail _ (.tail _ (.tail _ (List.mem_filter.mpr ⟨List.mem_append_right _ (List.mem_filter.mp hq).1, (List.mem_filter.mp hq).2⟩)))
  · have hp' := lt p (List.mem_append_left _ hp)
    rcases List.mem_cons.mp hq with rfl | hq
    · exact Nat.ne_of_lt (Nat.lt_trans hp' l2)
    · rcases List.mem_cons.mp hq with rfl | hq
      · exact Nat.ne_of_lt hp'
      · rcases List.mem_cons.mp hq with rfl | hq
        · exact O p hp (P, tabObj #[]) hP
        · exact O p hp q (List.mem_filter.mp hq).1
end
noncomputable abbrev lamScope : Scope := { kind := .function, names := [(Str.ofString "one", .local), (Str.ofString "len", .globalImplicit)], isGenerator := false, isCoroutine := false, more := [] }
noncomputable def NmAt (w : World) (n : Led) (v : Value) (nm : Bs) : Prop := ∃ x d t1 t2 t3 t4 t5 tn vo cn pl, v = .ref x ∧ (x, instObj 207 d) ∈ n ∧ (d, dictOf (treeEs w t1 t2 t3 t4 t5 (.bytes nm.toArray tn) vo cn pl) 4) ∈ n
theorem NmAt.sub {w : World} {n k : Led} {v : Value} {nm : Bs} (h : NmAt w n v nm) (hs : ∀ x d es, v = .ref x → (x, instObj 207 d) ∈ n → (d, dictOf es 4) ∈ n → (x, instObj 207 d) ∈ k ∧ (d, dictOf es 4) ∈ k) : NmAt w k v nm := by
  refine X11_3 h ?_; clear h; rintro x d t1 t2 t3 t4 t5 tn vo cn pl h0 h1 h2
  exact Y11_3 x d t1 t2 t3 t4 t5 tn vo cn pl h0 ((hs x d _ h0 h1 h2).1) ((hs x d _ h0 h1 h2).2)
theorem LamAt.sub {n k : Led} {name qual : Str} {params : Arguments} {body : PySem.Expr} {scope : Scope} {f : Addr} (h : LamAt name qual params body scope f n) (hs : ∀ q ∈ n, q ∈ k) : LamAt name qual params body scope f k := by
  refine X6_4 h ?_; clear h; rintro pm c' ctv oc fs t x1 x2 x3 x4
  exact Y6_4 pm c' ctv oc fs t (hs _ x1) (hs _ x2) x3 x4
theorem lam_key {w : World} {c : Cx w} {n : Led} {l : Fm} {name qual : Str} {f : Addr} {v : Value} {nm : Bs} {p0 p1 p2 p3 p4 p5 p6 p7 : Pos} (hroom : c.dp < recursionLimit)
    (ho : LamAt name qual { posonlyargs := [], args := [⟨Str.ofString "one", none, p0⟩], vararg := none, kwonlyargs := [], kw_defaults := [], kwarg := none, defaults := [] } (.Tuple [.Call (.Name (Str.ofString "len") p1) [.Attribute (.Name (Str.ofString "one") p2) (Str.ofString "name") p3] [] p4, .Attribute (.Name (Str.ofString "one") p5) (Str.ofString "name") p6] 0 p7) lamScope f n)
    (hv : NmAt w n v nm) (hz : nm.length ≤ 100000) : KeyC c n l (.ref f) v nm := by
  intro Q kk
  refine X11_3 hv ?_; clear hv; rintro x dx t1 t2 t3 t4 t5 tn vo cn pl rfl h1 h2
  refine At.enterLam [(Str.ofString "one", .ref x)] ho hroom fun c1 RQ hw hR => ?_
  refine .eTup <| .argQ <| .eCall (.blt hw rfl (by boot_fast)) .blt <| .argP (.nm (.name rfl) h1 h2 rfl) <| .arg0 <| Go.cq <| CaG.lenB hz _ ?_
  rintro _ _ ⟨⟨t, rfl⟩, rfl⟩
  exact At.argP (.nm (.name rfl) h1 h2 rfl) <| .arg0 <| At.newTup fun T n' hN => hR _ _ _ (kk _ _ (Y3_2 T t tn rfl hN))
theorem put_parts_L {w : World} {c : Cx w} {n : Led} {l : Fm} {a d b pl : Addr} {t1 t2 t3 t4 t5 : Tok} {vn vo : Value} {cn : Int} {vs : List Value} {k : Nat} {nms : List Bs} (hroom : c.dp + 2 < recursionLimit) (h1 : (a, instObj 207 d) ∈ n) (h2 : (d, dictOf (treeEs w t1 t2 t3 t4 t5 vn vo cn pl) 4) ∈ n)
    (hP : (189, tabObj #[]) ∈ n) (hb : (b, lstN vs k) ∈ n) (hl : nms.length = vs.length) (h64 : vs.length < 64) (asc : ∀ (i : Nat) (x y : Bs), nms[i]? = some x → nms[i + 1]? = some y → KLt x y) (hn : ∀ (i : Nat) (v : Value) (nm : Bs), vs[i]? = some v → nms[i]? = some nm → NmAt w n v nm ∧ nm.length ≤ 100000) :
    CaG c n l (.ref 194) [.ref a, .ref b] fun r n' => r = .none ∧ (∃ ps, (189, tabObj ps) ∈ n') ∧ ∃ D j, (D, lstN vs j) ∈ n' ∧ (d, dictOf (treeEs w t1 t2 t3 t4 t5 vn vo cn D) 4) ∈ n' ∧ (∀ q ∈ n, @Ne Nat q.1 D) ∧ ∀ q ∈ n, @Ne Nat q.1 d → @Ne Nat q.1 189 → q ∈ n' := by
  intro Q kk
  refine At.fn fun fn => ?_
  have a9 : @Ne Nat a 189 := ne_kind fn h1 hP (fun h => by cases h)
  have d9 : @Ne Nat d 189 := ne_kind fn h2 hP (fun h => by cases h)
  have b9 : @Ne Nat b 189 := ne_kind fn hb hP (fun h => by cases h)
  refine At.enter (by exact rfl) (by lia) [Str.ofString "self", Str.ofString "parts"] [] [(Str.ofString "self", some (.ref a)), (Str.ofString "parts", some (.ref b))] fun c' RQ hI => ?_
  have hw := hI.wk
  refine .setA <| .eCallK (.blt hw rfl (by boot_fast)) <| .argP (.name rfl) <| .arg0 <| At.lam hI.ev rfl hP fun f n1 hL s1 ⟨o9, m9⟩ => At.sortKey (s1 _ hb b9) hl h64 asc (fun i v nm h3 h4 k' hk => lam_key (by show c'.dp < _; rw [hw.dp]; lia) (hL.sub hk) ((hn i v nm h3 h4).1.sub fun x dx es e m1 m2 => ⟨hk _ (s1 _ m1 (ne_kind fn m1 hP (fun h => by cases h))), hk _ (s1 _ m2 (ne_kind fn m2 hP (fun h => by cases h)))⟩) (hn i v nm h3 h4).2) fun D j n2 s2 ne2 hD => ?_
  have hDd : @Ne Nat d D := ne2 _ (s1 _ h2 d9)
  refine Go.setA rfl <| At.setParts (s2 _ (s1 _ h1 a9)) (s2 _ (s1 _ h2 d9)) (ne_kind fn h1 h2 inst_dict) fun n3 M => At.nil (c := c') <| hI.nxt _ _ <| kk _ _ (Y0_3 rfl ⟨o9, M.sub _ (s2 _ m9) (Ne.symm d9)⟩ (Y2_4 D j (M.sub _ hD (Ne.symm hDd)) M.mem (fun q hq => ?_) (fun q hq hd h9 => M.sub q (s2 q (s1 q hq h9)) hd)))
  by_cases e : @Eq Nat q.1 189
  · rw [e]; exact ne2 _ m9
  · exact ne2 _ (s1 q hq e)
end
section
section
open LCg LCt
variable {w : World} {c : Cx w} {n : Led} {l : Fm} {sc : Scope} {d u : Nat} {b : Bool}
noncomputable def Cmp (op : CmpOp) (a b : Value) (p : Prop) : Prop := ∀ (prog : Program) (w : World) (A : Around) (E : Value → Shared → Prop) (Q : Value → Shared → Prop) (s : Shared), (∀ x : Bool, (x = true ↔ p) → Q (.bool x) s) → wpAny (model prog w) A (compareOp op a b) Q E s
theorem Cmp.bEq {x y : Bs} {a b : Value} (ha : BW x a) (hb : BW y b) : Cmp .Eq a b (x = y) := fun _ _ _ _ _ _ k => by obtain ⟨t, rfl⟩ := ha; obtain ⟨t', rfl⟩ := hb; exact eq_bytes (k _ (by simp))
theorem Cmp.bNe {x y : Bs} {a b : Value} (ha : BW x a) (hb : BW y b) : Cmp .NotEq a b (x ≠ y) := fun _ _ _ _ _ _ k => by obtain ⟨t, rfl⟩ := ha; obtain ⟨t', rfl⟩ := hb; exact ne_bytes (k _ (by simp))
theorem Cmp.iEq {x y : Int} {a b : Value} (ha : IV x a) (hb : IV y b) : Cmp .Eq a b (x = y) := fun _ _ _ _ _ _ k => by obtain ⟨t, rfl⟩ := ha; obtain ⟨t', rfl⟩ := hb; exact P.eq_int (k _ (by simp))
theorem Cmp.iNe {x y : Int} {a b : Value} (ha : IV x a) (hb : IV y b) : Cmp .NotEq a b (x ≠ y) := fun _ _ _ _ _ _ k => by obtain ⟨t, rfl⟩ := ha; obtain ⟨t', rfl⟩ := hb; exact P.ne_int (k _ (by simp))
theorem Cmp.iLt {x y : Int} {a b : Value} (ha : IV x a) (hb : IV y b) : Cmp .Lt a b (x < y) := fun _ _ _ _ _ _ k => by obtain ⟨t, rfl⟩ := ha; obtain ⟨t', rfl⟩ := hb; exact P.lt_int (k _ (by simp))
theorem Cmp.iGt {x y : Int} {a b : Value} (ha : IV x a) (hb : IV y b) : Cmp .Gt a b (y < x) := fun _ _ _ _ _ _ k => by obtain ⟨t, rfl⟩ := ha; obtain ⟨t', rfl⟩ := hb; exact P.gt_int (k _ (by simp))
theorem Cmp.iGe {x y : Int} {a b : Value} (ha : IV x a) (hb : IV y b) : Cmp .GtE a b (y ≤ x) := fun _ _ _ _ _ _ k => by obtain ⟨t, rfl⟩ := ha; obtain ⟨t', rfl⟩ := hb; exact P.ge_int (k _ (by simp))
theorem Cmp.isNone {v : Value} : Cmp .Is v .none (v = .none) := fun _ _ _ _ _ _ k => is_none_gen (k _ (by simp))
theorem Cmp.notNone {v : Value} : Cmp .IsNot v .none (v ≠ .none) := fun _ _ _ _ _ _ k => isnot_none_gen (k _ (by simp))
theorem Tst.cmp {e1 e2 : PySem.Expr} {op : CmpOp} {pos : Pos} {P1 P2 : Value → Prop} {p : Prop} (h1 : EvR c n l e1 P1) (h2 : EvR c n l e2 P2) (hc : ∀ a b, P1 a → P2 b → Cmp op a b p) (hm : behindInMarks op e2 = false := by with_unfolding_all rfl) : Tst c n l (.Compare e1 [op] [e2] pos) p := fun Q k1 k2 h tk H => by
  refine wpAny_isTrue_Compare1 (h1 _ (fun a ha h tk H => h2 _ (fun b hb h tk H => hc a b ha hb _ _ _ _ _ _ fun x hx => wpAny_truthy_bool ?_) h tk H) h tk H) hm
  cases x with
  | true => exact k1 (hx.mp rfl) h tk H
  | false => exact k2 (fun hp => nomatch hx.mpr hp) h tk H
theorem Tst.cast {e : PySem.Expr} {p q : Prop} (h : Tst c n l e p) (hpq : p ↔ q) : Tst c n l e q := fun Q k1 k2 => h Q (fun hp => k1 (hpq.mp hp)) fun hp => k2 fun hq => hp (hpq.mpr hq)
theorem Tst.not {e : PySem.Expr} {pos : Pos} {p : Prop} (h : Tst c n l e p) : Tst c n l (.UnaryOp .Not e pos) (¬ p) := fun Q k1 k2 h' tk H => isTrue_not (h (fun b s' => Q (!b) s') (fun hp => k2 fun h => h hp) (fun hp => k1 hp) h' tk H)
theorem Tst.and2 {e1 e2 : PySem.Expr} {pos : Pos} {p q : Prop} (h1 : Tst c n l e1 p) (h2 : p → Tst c n l e2 q) : Tst c n l (.BoolOp .And [e1, e2] pos) (p ∧ q) := fun Q k1 k2 h tk H =>
  isTrue_and (h1 (fun b s' => if b = true then wpAny (model PR w) c.A (isTrue (.BoolOp .And [e2] pos) c.env _) Q c.E s' else Q false s')
    (fun hp h tk H => ite_tt (isTrue_and (h2 hp (fun b s' => if b = true then wpAny (model PR w) c.A (isTrue (.BoolOp .And [] pos) c.env _) Q c.E s' else Q false s') (fun hq h tk H => ite_tt (isTrue_and_nil (k1 ⟨hp, hq⟩ h tk H))) (fun hq h tk H => ite_ff (k2 (fun x => hq x.2) h tk H)) h tk H)))
    (fun hp h tk H => ite_ff (k2 (fun x => hp x.1) h tk H)) h tk H)
theorem Tst.or2 {e1 e2 : PySem.Expr} {pos : Pos} {p q : Prop} (h1 : Tst c n l e1 p) (h2 : ¬ p → Tst c n l e2 q) : Tst c n l (.BoolOp .Or [e1, e2] pos) (p ∨ q) := fun Q k1 k2 h tk H =>
  isTrue_or (h1 (fun b s' => if b = true then Q true s' else wpAny (model PR w) c.A (isTrue (.BoolOp .Or [e2] pos) c.env _) Q c.E s')
    (fun hp h tk H => ite_tt (k1 (.inl hp) h tk H))
    (fun hp h tk H => ite_ff (isTrue_or (h2 hp (fun b s' => if b = true then Q true s' else wpAny (model PR w) c.A (isTrue (.BoolOp .Or [] pos) c.env _) Q c.E s') (fun hq h tk H => ite_tt (k1 (.inr hq) h tk H)) (fun hq h tk H => ite_ff (isTrue_or_nil (k2 (fun x => x.elim hp hq) h tk H))) h tk H))) h tk H)
theorem EvR.neg {e : PySem.Expr} {pos : Pos} {k : Int} (h : EvR c n l e (IV k)) : EvR c n l (.UnaryOp .USub e pos) (IV (-k)) := fun Q kk h' tk H => UnaryOp_ (h _ (fun v hv h tk H => by obtain ⟨t, rfl⟩ := hv; exact neg_int (kk _ ⟨_, rfl⟩ h _ H)) h' tk H)
theorem EvR.addB {e1 e2 : PySem.Expr} {pos : Pos} {x y : Bs} (h1 : EvR c n l e1 (BW x)) (h2 : EvR c n l e2 (BW y)) (hz : x.length + y.length ≤ 1000000) : EvR c n l (.BinOp e1 .Add e2 pos) (BW (x ++ y)) := fun Q kk h tk H =>
  wpAny_BinOp (h1 _ (fun a ha h tk H => h2 _ (fun b hb h tk H => by
    obtain ⟨t, rfl⟩ := ha
    obtain ⟨t', rfl⟩ := hb
    exact KBy.add_bytes (by simp; lia) fun t' k => kk _ ⟨t', by simp⟩ h k H) h tk H) h tk H)
theorem EvR.lenB {x : Bs} {e : PySem.Expr} {p0 p1 : Pos} (hw : Wk c sc d u b) (h : EvR c n l e (BW x)) (hz : x.length ≤ 100000) (hx : sc.names.lookup (Str.ofString "len") = some .globalImplicit := by rfl) (hg : nsIn (KK w) mainGlobals (Str.ofString "len") = some none := by rfl) (he : ∀ env, starEach [e] env = (false, eval e env) :: starEach [] env := by intro _; rfl) (hc : ∀ env : Env, eval (.Call (.Name (Str.ofString "len") p0) [e] [] p1) env = (do callWith p1 (← eval (.Name (Str.ofString "len") p0) env) [] (backTo p1 (starEach [e] env)) []) := by intro _; rfl) : EvR c n l (.Call (.Name (Str.ofString "len") p0) [e] [] p1) (IV x.length) := fun Q kk => by
  refine At.eCall (.blt hw hg (by boot_fast) hx) .blt (At.argR h ?_ he) hc he
  rintro _ ⟨t, rfl⟩
  refine .arg0 <| Go.cq <| CaG.lenB hz _ ?_
  rintro v _ ⟨hv, rfl⟩
  exact kk v hv
end
end
section
noncomputable def NamesIn (w : World) (news : Led) : List Value → List Bs → Prop
  | [], [] => True
  | v :: vs, n :: ns => (∃ a d t1 t2 t3 t4 t5 tn vo c pl, v = .ref a ∧ (a, instObj 207 d) ∈ news ∧ (d, dictOf (treeEs w t1 t2 t3 t4 t5 (.bytes n.toArray tn) vo c pl) 4) ∈ news) ∧ NamesIn w news vs ns
  | _, _ => False
noncomputable def pick : List Value → List Bs → Bs → Value
  | v :: vs, n :: ns, x => if n = x then v else pick vs ns x
  | _, _, _ => .none
theorem namesIn_of {w : World} {l : Led} : ∀ {ps : List Tree} {vs : List Value}, TreesIn w l vs ps → NamesIn w l vs (ps.map Tree.nm)
  | [], [], _ => trivial
  | [], _ :: _, h => False.elim h
  | _ :: _, [], h => False.elim h
  | .mk n c o qs :: ps, v :: vs, h => by
    change _ ∧ _ at h
    show _ ∧ _
    exact ⟨h.1.open fun a d tn vo pl t1 t2 t3 t4 t5 us i e h1 h2 _ _ _ _ => Y11_3 a d t1 t2 t3 t4 t5 tn vo c pl e h1 h2, namesIn_of h.2⟩
theorem names_get {w : World} {l : Led} {P : Prop} : ∀ {ns : List Bs} {vs : List Value} {i : Nat} {v : Value}, NamesIn w l vs ns → vs[i]? = some v →
    (∀ n a d t1 t2 t3 t4 t5 tn vo c pl, ns[i]? = some n → v = .ref a → (a, instObj 207 d) ∈ l → (d, dictOf (treeEs w t1 t2 t3 t4 t5 (.bytes n.toArray tn) vo c pl) 4) ∈ l → P) → P
  | [], [], _, _, _, e, _ => by simp at e
  | [], _ :: _, _, _, h, _, _ => False.elim h
  | _ :: _, [], _, _, h, _, _ => False.elim h
  | n :: ns, v :: vs, 0, u, h, e, k => by
    change _ ∧ _ at h
    obtain ⟨⟨a, d, t1, t2, t3, t4, t5, tn, vo, c, pl, h1, h2, h3⟩, _⟩ := h
    simp at e
    subst e
    exact k n a d t1 t2 t3 t4 t5 tn vo c pl rfl h1 h2 h3
  | n :: ns, v :: vs, i + 1, u, h, e, k => by
    change _ ∧ _ at h
    exact names_get h.2 (by simpa using e) fun n' a d t1 t2 t3 t4 t5 tn vo c pl e1 => k n' a d t1 t2 t3 t4 t5 tn vo c pl (by simpa using e1)
theorem names_len {w : World} {l : Led} : ∀ {ns : List Bs} {vs : List Value}, NamesIn w l vs ns → vs.length = ns.length
  | [], [], _ => rfl
  | [], _ :: _, h => False.elim h
  | _ :: _, [], h => False.elim h
  | n :: ns, v :: vs, h => by change _ ∧ _ at h; simp [names_len h.2]
theorem pick_at {x : Bs} : ∀ {vs : List Value} {ns : List Bs} {i : Nat} {v : Value}, vs[i]? = some v → ns[i]? = some x → (∀ n ∈ ns.take i, n ≠ x) → pick vs ns x = v
  | [], _, _, _, e, _, _ => by simp at e
  | _ :: _, [], _, _, _, e, _ => by simp at e
  | u :: vs, n :: ns, 0, v, e, e2, _ => by simp at e e2; subst e e2; simp [pick]
  | u :: vs, n :: ns, i + 1, v, e, e2, h => by
    rw [pick, if_neg (h n (by simp))]
    exact pick_at (by simpa using e) (by simpa using e2) fun k hk => h k (by rw [List.take_succ_cons]; exact .tail _ hk)
theorem pick_none {x : Bs} : ∀ {vs : List Value} {ns : List Bs}, (∀ n ∈ ns, n ≠ x) → pick vs ns x = .none
  | [], _, _ => by simp [pick]
  | _ :: _, [], _ => by simp [pick]
  | u :: vs, n :: ns, h => by rw [pick, if_neg (h n (.head _))]; exact pick_none fun k hk => h k (.tail _ hk)
theorem part_L {w : World} {c : Cx w} {n : Led} {l : Fm} {a d pl : Addr} {vs : List Value} {i : Nat} {t1 t2 t3 t4 t5 tx : Tok} {vn vo : Value} {cn : Int} {ns : List Bs} {x : Bs} (hroom : c.dp < recursionLimit) (h1 : (a, instObj 207 d) ∈ n) (h2 : (d, dictOf (treeEs w t1 t2 t3 t4 t5 vn vo cn pl) 4) ∈ n) (h3 : (pl, lstN vs i) ∈ n) (hn : NamesIn w n vs ns) :
    CaG c n l (.ref 187) [.ref a, .bytes x.toArray tx] fun r n' => r = pick vs ns x ∧ n' = n := by
  intro Q kk
  refine At.enter (by exact rfl) (by omega) [Str.ofString "self", Str.ofString "name"] [Str.ofString "one"] [(Str.ofString "self", some (.ref a)), (Str.ofString "name", some (.bytes x.toArray tx)), (Str.ofString "one", none)] fun c' RQ hI => ?_
  have hw := hI.wk
  refine .forL hw (.pt (.name rfl) h1 h2) h3 (fun i k l' => k = n ∧ (∃ o, l' = [(Str.ofString "self", some (.ref a)), (Str.ofString "name", some (.bytes x.toArray tx)), (Str.ofString "one", o)]) ∧ ∀ m ∈ ns.take i, m ≠ x) (Y0_3 rfl ⟨_, rfl⟩ (by simp)) (fun i k l' h => ?_) (fun i v k l' ci TQ hv hj ht => ?_) fun k l' h => ?_
  · refine X0_3 h ?_; clear h; rintro rfl ⟨o, rfl⟩ _
    exact ⟨h3, rfl⟩
  · refine X0_3 hj ?_; clear hj; rintro rfl ⟨o, rfl⟩ hx
    refine names_get hn hv ?_
    intro nm a2 d2 q1 q2 q3 q4 q5 qn vo2 c2 pl2 hnj e g1 g2
    subst e
    refine .guard (.cmp (EvP.r (P := BW nm) (.nm (.name rfl) g1 g2 rfl) ⟨_, rfl⟩) (EvP.r (P := BW x) (.name rfl) ⟨_, rfl⟩) fun a b ha hb => .bEq ha hb) (fun hp => ?_) fun hp => .nil <| ht.next _ _ (Y0_3 rfl ⟨_, rfl⟩ (fun m hm => ?_))
    · subst hp
      exact .retP (.name rfl) (ht.ret _ _ _ (Go.ret (hI.ret _ _ _ (kk _ _ ⟨(pick_at hv hnj hx).symm, rfl⟩))))
    · rw [List.take_succ, hnj] at hm
      rcases List.mem_append.mp hm with hm | hm
      · exact hx m hm
      · have : m = nm := by simpa using hm
        subst this
        exact hp
  · refine X0_3 h ?_; clear h; rintro rfl ⟨o, rfl⟩ hx
    refine .retP .none (hI.ret _ _ _ (kk _ _ ⟨(pick_none fun m hm => hx m (by rw [names_len hn, List.take_length]; exact hm)).symm, rfl⟩))
end
section
section
open Builtin
theorem slot_bytes_split : Slot "bytes" "split" "bytes.split" :=
  .of (owner := "bytes") (n := "split") (by rw [typeLookup_type, builtinLookup_eq_fast]; kernel_rfl) (by decide +kernel) (by decide +kernel) (by decide +kernel)
    (by first | exact .inl (by decide +kernel) | exact .inr (by decide +kernel)) (by rw [isSubtype_type]; kernel_rfl)
theorem type_bytes_split : typeOf (.builtin "bytes.split") = pure (.type "method_descriptor") := by show builtinType _ = _; rw [builtinType_eq_fast]; kernel_rfl
theorem entry_bytes_split : entryFor table "bytes.split" = some Builtin.«bytes.split» := entryFor_of_tree (by kernel_rfl)
theorem args_bytes_split (a b : Value) : argsOk "bytes.split" ⟨[a, b], []⟩ := by
  unfold argsOk; rw [signature?_of (id := "bytes.split") (n := ['t', 'i', 'l', 'p', 's']) (o := ['s', 'e', 't', 'y', 'b']) (by kernel_rfl) FB.owner_bytes]; kernel_rfl
noncomputable def pieces (b sep : Bs) : List Bs :=
  if ((Bytes.occurrences b.toArray sep.toArray 0 b.toArray.size).take (b.toArray.size + 1)).isEmpty then [b] else (Bytes.between b.toArray sep.toArray.size ((Bytes.occurrences b.toArray sep.toArray 0 b.toArray.size).take (b.toArray.size + 1))).map Array.toList
section
variable {prog : Program} {w : World} {A : Around} {E : Value → Shared → Prop}
theorem mapM_new {id : String} : ∀ (ls : List (Array UInt8)) (Q : List Value → Shared → Prop) (s : Shared), (∀ x ∈ ls, x.size ≤ 1000) → (∀ vs k, BVs vs (ls.map Array.toList) → Q vs { s with toks := k }) → wpAny (model prog w) A (ls.mapM Bytes.Kind.bytes.new) Q E s
  | [], Q, s, _, h => by
    rw [List.mapM_nil]
    exact wpAny_pure (h [] s.toks (trivial))
  | x :: r, Q, s, hz, h => by
    rw [List.mapM_cons]
    refine wpAny_bind (wpAny_mkBytes ?_ (by have := hz x (.head _); rw [sizeLine_eq]; lia))
    refine wpAny_bind (mapM_new (id := id) r _ _ (fun y hy => hz y (.tail _ hy)) fun vs k hvs => wpAny_pure (h _ k ?_))
    rw [List.map_cons]
    show _ ∧ _
    exact ⟨⟨_, rfl⟩, hvs⟩
theorem split_tree {s : Shared} {b sep : Bs} {t u : Tok} {P : PySem.Fin → Shared → Prop} (hs : sep ≠ []) (hz : ∀ x ∈ pieces b sep, x.length ≤ 1000)
    (h : ∀ vs k, BVs vs (pieces b sep) → wpAny (model prog w) A (newList vs) (fun v s' => P (.done (.ret v)) s') E { s with toks := k }) : wpAny (model prog w) A (Builtin.«bytes.split» ⟨[.bytes b.toArray t, .bytes sep.toArray u], []⟩) P E s := by
  have e1 : ∀ id, Bytes.bindOptional id "split" ["sep", "maxsplit"] [.bytes sep.toArray u] [] = pure [some (.bytes sep.toArray u), none] := fun _ => rfl
  have e2 : ∀ id, Bytes.bytesLike id (.bytes sep.toArray u) = pure sep.toArray := fun id => by unfold Bytes.bytesLike; rw [KBy.buffer_eq]; rfl
  have e3 : sep.toArray.isEmpty = false := by simpa using hs
  unfold pieces at hz h
  unfold Builtin.«bytes.split» Bytes.splitM
  dsimp only
  refine wpAny_bind (wpAny_of_eq (e1 _) ?_)
  refine wpAny_bind (wpAny_pure ?_)
  refine wpAny_bind (wpAny_of_eq (a := b.toArray) rfl ?_)
  dsimp only
  refine wpAny_bind (wpAny_of_eq (e2 _) ?_)
  rw [if_neg (show ¬ sep.toArray.isEmpty = true by rw [e3]; exact Bool.false_ne_true), if_neg (show ¬ (false = true) from Bool.false_ne_true), if_pos (show ((-1 : Int) < 0) by decide)]
  generalize (Bytes.occurrences b.toArray sep.toArray 0 b.toArray.size).take (b.toArray.size + 1) = places at *
  by_cases hp : places.isEmpty = true
  · rw [if_pos hp] at hz h ⊢
    refine wpAny_bind (wpAny_rule (wpAny_bind ?_))
    refine wpAny_of_eq (a := .bytes b.toArray t) rfl ?_
    refine wpAny_bind (wpAny_mono (h [.bytes b.toArray t] s.toks (by show _ ∧ _; exact ⟨⟨_, rfl⟩, trivial⟩)) (fun v s' hv => wpAny_pure hv) fun _ _ x => x)
  · rw [if_neg hp] at hz h ⊢
    refine wpAny_bind (mapM_new (id := "") _ _ _ (fun x hx => ?_) fun vs k hvs => ?_)
    · exact hz x.toList (List.mem_map.mpr (Y1_2 x hx rfl))
    · exact wpAny_bind (wpAny_mono (h vs k hvs) (fun v s' hv => wpAny_pure hv) fun _ _ x => x)
end
end
section
variable {w : World} {c : Cx w} {n : Led} {l : Fm}
theorem Mt.bytes {b : Array UInt8} {t : Tok} {name : Str} {id : String} (slot : Slot "bytes" name id) (hty : typeOf (.builtin id) = pure (.type "method_descriptor")) : Mt c n l (.bytes b t) name (.builtin id) [.bytes b t] := fun _ _ k h tk H => KBd.method_of (.bytes b t) (typeIs_bytes _ _ _) slot hty KBd.noRef (k h tk H)
theorem Mt.split {b : Array UInt8} {t : Tok} : Mt c n l (.bytes b t) (Str.ofString "split") (.builtin "bytes.split") [.bytes b t] := by
  have := @Mt.bytes w c n l b t (Str.ofString "split") "bytes.split" slot_bytes_split type_bytes_split
  exact this
theorem Mt.starts {b : Array UInt8} {t : Tok} : Mt c n l (.bytes b t) (Str.ofString "startswith") (.builtin "bytes.startswith") [.bytes b t] := by
  have := @Mt.bytes w c n l b t (Str.ofString "startswith") "bytes.startswith" FB.slot_bytes_startswith FB.type_bytes_startswith
  exact this
theorem CaG.split {b sep : Bs} {t u : Tok} (hs : sep ≠ []) (hz : ∀ x ∈ pieces b sep, x.length ≤ 1000) (hl : (pieces b sep).length ≤ 1000) : CaG c n l (.builtin "bytes.split") [.bytes b.toArray t, .bytes sep.toArray u] fun r n' => ∃ a vs, r = .ref a ∧ BVs vs (pieces b sep) ∧ New n n' a (lstN vs 0) := fun Q kk h tk H => by
  obtain ⟨m, hid, hV, F, N, O⟩ := H
  refine wpAny_call_entry slot_bytes_split (typeIs_bytes _ _ _) entry_bytes_split (split_tree hs hz fun vs k hvs => ?_) (args_bytes_split _ _)
  have hlen := bvs_len hvs
  exact newList_K F N (fun a h' F' N' lt => Y1_2 _ rfl (kk _ _ (Y2_3 a vs rfl hvs (New.of fun p hp => lt p (List.mem_append_right _ hp))) h' k (Hp.new hV O F' N' lt))) (by rw [sizeLine_eq]; lia)
end
end
section
noncomputable def cut (x : UInt8) : Bs → Option (Bs × Bs)
  | [] => none
  | c :: r => if c = x then some ([], r) else (cut x r).map fun p => (c :: p.1, p.2)
theorem cut_some {x : UInt8} : ∀ {r u v : Bs}, cut x r = some (u, v) → r = u ++ x :: v ∧ x ∉ u
  | [], _, _, h => by simp [cut] at h
  | c :: r, u, v, h => by
    unfold cut at h
    split at h
    · rename_i e
      simp at h
      obtain ⟨rfl, rfl⟩ := h
      exact ⟨by rw [e]; rfl, by simp⟩
    · rename_i e
      cases q : cut x r with
      | none => rw [q] at h; simp at h
      | some p =>
        obtain ⟨u', v'⟩ := p
        rw [q] at h
        simp at h
        obtain ⟨rfl, rfl⟩ := h
        obtain ⟨a, b⟩ := cut_some q
        refine ⟨by rw [a]; rfl, fun hm => ?_⟩
        rcases List.mem_cons.mp hm with rfl | hm
        · exact e rfl
        · exact b hm
theorem cut_app {x : UInt8} {v : Bs} : ∀ {u : Bs}, x ∉ u → cut x (u ++ x :: v) = some (u, v)
  | [], _ => by simp [cut]
  | c :: r, h => by
    have hc : c ≠ x := fun e => h (by rw [e]; exact .head _)
    rw [List.cons_append, cut, if_neg hc, cut_app fun hm => h (.tail _ hm)]
    rfl
theorem cut_len {x : UInt8} {r u v : Bs} (h : cut x r = some (u, v)) : r.length = u.length + v.length + 1 := by
  rw [(cut_some h).1]
  simp
  lia
noncomputable def seek (x : UInt8) (r : Bs) (i : Nat) : Option Nat := (cut x r).map fun p => i + p.1.length
theorem find_range (b : Bs) (x : UInt8) : ∀ (k i : Nat), i + k = b.length → (List.range' i k).find? (fun j => b.toArray.extract j (j + 1) == #[x]) = seek x (b.drop i) i
  | 0, i, h => by
    rw [List.drop_eq_nil_of_le (by lia)]
    rfl
  | k + 1, i, h => by
    have hi : i < b.length := by lia
    have ih := find_range b x k (i + 1) (by lia)
    rw [List.range'_succ, List.find?_cons, List.drop_eq_getElem_cons hi]
    have e : (b.toArray.extract i (i + 1) == #[x]) = decide (b[i] = x) := by
      have : b.toArray.extract i (i + 1) = #[b[i]] := by
        apply Array.ext
        · simp; lia
        · intro j j1 j2
          have : j = 0 := by simp at j2; omega
          subst this
          simp
      rw [this, Bool.eq_iff_iff]
      simp
    rw [e]
    unfold seek
    rw [cut]
    by_cases hx : b[i] = x
    · simp [hx]
    · rw [if_neg hx]
      simp only [hx, decide_false]
      rw [ih]
      unfold seek
      cases cut x (b.drop (i + 1)) with
      | none => rfl
      | some p => simp; lia
theorem fnd_seek {b : Bs} {x : UInt8} {i : Nat} (hi : i ≤ b.length) (hi2 : Option Int) (h2 : hi2 = none ∨ hi2 = some (b.length : Int)) :
    fnd b.toArray #[x] (some (i : Int)) hi2 = match seek x (b.drop i) i with | some j => (j : Int) | none => -1 := by
  have e : Builtin.Bytes.window b.toArray.size (some (i : Int)) hi2 = ((i : Int), (b.length : Int)) := by
    unfold Builtin.Bytes.window
    rcases h2 with rfl | rfl <;> simp <;> omega
  unfold fnd
  rw [e]
  dsimp only
  by_cases hl : i = b.length
  · rw [if_pos (by simp; lia), List.drop_eq_nil_of_le (by lia)]
    rfl
  · rw [if_neg (by simp; lia)]
    dsimp only [Option.bind]
    unfold Builtin.Bytes.find?
    have e2 : (List.range (((b.length : Int).toNat) + 1 - (((i : Int).toNat) + (#[x] : Array UInt8).size))).map (· + (i : Int).toNat) = List.range' i (b.length - i) := by
      rw [List.range'_eq_map_range]
      simp
      intro a _
      lia
    rw [e2]
    have := find_range b x (b.length - i) i (by lia)
    simp only [List.size_toArray, List.length_cons, List.length_nil] at *
    rw [this]
    all_goals (cases seek x (b.drop i) i <;> rfl)
end
section
noncomputable def slc (b : Bs) (lo hi : Option Int) : Bs := (b.drop (lo.elim 0 (clipAt b.length))).take (hi.elim b.length (clipAt b.length) - lo.elim 0 (clipAt b.length))
theorem sliceB {prog : Program} {w : World} {A : Around} {E : Value → Shared → Prop} {s : Shared} {h₀ : Heap} {L : Addr} {m : Str → Option Value} {news : Led} {b : Bs} {t : Tok} {l u : Value} {lo hi : Option Int} {Q : Value → Shared → Prop} {value slice : PySem.Expr}
    (hF : Fr h₀ L s.heap m) (hN : News h₀ L s.heap news) (hl : IsPart l lo) (hu : IsPart u hi) (hz : b.length ≤ 16777216)
    (h : ∀ h' t' k, Fr h₀ L h' m → News h₀ L h' news → Q (.bytes (slc b lo hi).toArray t') { s with heap := h', toks := k })
    (hs : subscripted slice false (.bytes b.toArray t) (.ref s.heap.objs.size) = operate [.ref s.heap.objs.size, .bytes b.toArray t] (getItem (.bytes b.toArray t) (.ref s.heap.objs.size)) := by with_unfolding_all rfl)
    (ht : ∀ r, letTemporaryGo value (.bytes b.toArray t) r = pure () := by intro _; with_unfolding_all rfl) :
    wpAny (model prog w) A (subscriptTail value slice (.bytes b.toArray t) (.ref s.heap.objs.size)) Q E { s with heap := s.heap.push { cls := .type "slice", data := .fields #[l, u, .none] } } := by
  refine KBc.slice_K (ks := KBw.bInts b.toArray) hF hN rfl hl hu (by rw [KBw.ints_length]; simpa using hz) (fun h' t' k F' N' _ => ?_) hs ht
  have e : KBy.picked b.toArray lo hi = (slc b lo hi).toArray := by
    rw [KBc.picked_eq]
    simp only [slc, List.size_toArray]
  rw [e]
  exact h h' t' k F' N'
theorem slc_mid {b : Bs} {i j : Nat} (hj : j ≤ b.length) (hi : i ≤ j) : slc b (some (i : Int)) (some (j : Int)) = (b.drop i).take (j - i) := by
  unfold slc
  simp only [Option.elim, clipAt_nat]
  rw [Nat.min_eq_left hj, Nat.min_eq_left (Nat.le_trans hi hj)]
end
section
section
variable {w : World} {c : Cx w} {n : Led} {l : Fm} {rest : List Stmt} {sc : Scope} {d u : Nat}
noncomputable def PE {w : World} (c : Cx w) (n : Led) (l : Fm) (e : Option PySem.Expr) (k : Option Int) : Prop := ∀ Q, (∀ v, IsPart v k → Go c n l Q v) → At c n l (evalPart e c.env) Q
theorem PE.none : PE c n l none none := fun _ k h tk H => wpAny_pure (k _ .none h tk H)
theorem PE.some {e : PySem.Expr} {i : Int} (h : EvR c n l e (IV i)) : PE c n l (some e) (some i) := fun Q k => h Q fun v hv => by
  obtain ⟨t, rfl⟩ := hv
  exact k _ (.int i t)
theorem At.cutL {value : PySem.Expr} {lower upper : Option PySem.Expr} {p pos : Pos} {a : Addr} {vs : List Value} {k : Nat} {lo hi : Option Int} {Q : Value → Shared → Prop} (hv : EvP c n l value (.ref a)) (ha : (a, lstN vs k) ∈ n) (hl : PE c n l lower lo) (hu : PE c n l upper hi) (hz : vs.length ≤ 100000)
    (kk : ∀ D n', New n n' D (lstN (kms_pick vs lo hi) 0) → Go c n' l Q (.ref D)) : At c n l (eval (.Subscript value (.Slice lower upper none p) pos) c.env) Q := fun h tk H => by
  refine Subscript_ (hv _ (fun h tk H => wpAny_Slice (hl _ (fun vl pl h tk H => hu _ (fun vu pu h tk H => wpAny_pure ?_) h tk H) h tk H)) h tk H)
  obtain ⟨m, hid, hV, F, N, O⟩ := H
  refine sliceL F N (News.isList N (List.mem_append_right _ ha)) pl pu .none (fun e => nomatch e) (by rw [List.size_toArray, sizeLine_eq]; lia) (fun D h' F' N' lt => ?_) (hs := rfl)
  rw [kms_pick_eq] at N'
  exact kk D _ (New.of fun p hp => lt p (List.mem_append_right _ hp)) h' tk (Hp.new hV O F' N' lt)
theorem EvR.cutB {value : PySem.Expr} {lower upper : Option PySem.Expr} {p pos : Pos} {b : Bs} {lo hi : Option Int} (hv : EvR c n l value (BW b)) (hl : PE c n l lower lo) (hu : PE c n l upper hi) (hz : b.length ≤ 100000)
    (ht : ∀ t r, letTemporaryGo value (.bytes b.toArray t) r = pure () := by intro _ _; with_unfolding_all rfl) : EvR c n l (.Subscript value (.Slice lower upper none p) pos) (BW (slc b lo hi)) := fun Q kk h tk H => by
  refine Subscript_ (hv _ (fun v hb h tk H => wpAny_Slice (hl _ (fun vl pl h tk H => hu _ (fun vu pu h tk H => wpAny_pure ?_) h tk H) h tk H)) h tk H)
  obtain ⟨t, rfl⟩ := hb
  obtain ⟨m, hid, hV, F, N, O⟩ := H
  exact sliceB F N pl pu (by lia) (fun h' t' k F' N' => kk _ ⟨t', rfl⟩ h' k ⟨m, hid, hV, F', N', O⟩) rfl (ht t)
theorem EvP.item {value slice : PySem.Expr} {pos : Pos} {a : Addr} {vs : List Value} {k : Nat} {j : Int} {v : Value} (hv : EvP c n l value (.ref a)) (ha : (a, lstN vs k) ∈ n) (hi : EvR c n l slice (IV j)) (h0 : 0 ≤ j) (hhi : j < 2 ^ 63) (hx : vs[j.toNat]? = some v)
    (hs : ∀ o i, subscripted slice false o i = operate [o, i] (getItem o i) := by intro _ _; rfl) : EvP c n l (.Subscript value slice pos) v := fun Q kk h tk H =>
  Subscript_ (hv _ (fun h tk H => hi _ (fun i hiv h tk H => by
    obtain ⟨t, rfl⟩ := hiv
    have H' := H
    obtain ⟨m, hid, hV, F, N, O⟩ := H
    have hl := News.isList N (List.mem_append_right _ ha)
    exact tail_any hl.typeIs slot_list_getitem.lookup (wpAny_getItem_list hl h0 hhi (by simpa using hx) (kk h tk H')) (hs _ _)) h tk H) h tk H)
theorem EvP.back {value slice : PySem.Expr} {pos : Pos} {a : Addr} {vs : List Value} {k : Nat} {j : Int} {v : Value} (hv : EvP c n l value (.ref a)) (ha : (a, lstN vs k) ∈ n) (hi : EvR c n l slice (IV j)) (h0 : j < 0) (h1 : -(vs.length : Int) ≤ j) (hhi : -(2 ^ 63) ≤ j) (hx : vs[(j + (vs.length : Int)).toNat]? = some v)
    (hs : ∀ o i, subscripted slice false o i = operate [o, i] (getItem o i) := by intro _ _; rfl) : EvP c n l (.Subscript value slice pos) v := fun Q kk h tk H =>
  Subscript_ (hv _ (fun h tk H => hi _ (fun i hiv h tk H => by
    obtain ⟨t, rfl⟩ := hiv
    have H' := H
    obtain ⟨m, hid, hV, F, N, O⟩ := H
    have hl := News.isList N (List.mem_append_right _ ha)
    exact tail_any hl.typeIs slot_list_getitem.lookup (wpAny_getItem_list_neg hl h0 (by rw [List.size_toArray]; exact h1) hhi (by rw [List.size_toArray]; simpa using hx) (kk h tk H')) (hs _ _)) h tk H) h tk H)
theorem At.forG {x : Str} {px pos : Pos} {it : PySem.Expr} {body : List Stmt} {R : Value → Led → Prop} {vs : List Value} {Q : Flow → Shared → Prop} (hw : Wk c sc d u true) (hit : EvG c n l it R) (J : Addr → Nat → Nat → Led → Fm → Prop) (hR : ∀ v n', R v n' → ∃ a k, v = .ref a ∧ J a k 0 n' l)
    (hJ : ∀ a k i n l, J a k i n l → (a, lstN vs k) ∈ n ∧ (l.map (·.1)).contains x = true)
    (turn : ∀ a k i v n l ci TQ, vs[i]? = some v → J a k i n l → Tn c (Th c rest Q) sc d u ci TQ (J a k (i + 1)) → At ci n (put l x v) (execs body ci.env) TQ)
    (done : ∀ a k n l, J a k vs.length n l → At c n l (execs rest c.env) Q) (hx : sc.names.lookup x = some .local := by rfl)
    (hs : ∀ (env : Env) x, foldedSetIterable it env x = pure x := by intro _ _; rfl) : At c n l (execs (.For (.Name x px) it body [] pos :: rest) c.env) Q :=
  .forX (α := Addr × Nat) (P := fun _ i v => vs[i]? = some v) (S := fun z n => (z.1, lstN vs z.2) ∈ n) hw (fun z => J z.1 z.2) (fun Q k2 => hit Q fun v n' hv => k2 v n' (by refine X2_2 (hR v n' hv) ?_; rintro a k rfl h0; exact Y1_2 (a, k) LpS.list h0)) (fun z i n l hid h => ⟨List.mem_append_right _ (hJ _ _ i n l h).1, (hJ _ _ i n l h).2⟩) (fun z => turn z.1 z.2) (fun z => done z.1 z.2) hx hs
end
end
section
noncomputable def setFirst (x : Bs) (f : Tree → Tree) : List Tree → List Tree
  | [] => []
  | p :: r => if p.nm = x then f p :: r else p :: setFirst x f r
noncomputable def Tree.forget : List Bs → Tree → Tree
  | [], t => t
  | [x], .mk n _ o ps => .mk n (-1) o (ps.filter fun p => decide (p.nm ≠ x))
  | x :: y :: r, .mk n _ o ps => .mk n (-1) o (setFirst x (fun p => p.forget (y :: r)) ps)
inductive Tree.Good : Tree → Prop
  | mk {n c o ps} : (∀ p ∈ ps, Tree.Good p) → ps.length < 64 → (ps.map Tree.nm).Pairwise KLt → (∀ p ∈ ps, p.nm.length ≤ 10) → Tree.Good (.mk n c o ps)
theorem setFirst_none {x : Bs} {f : Tree → Tree} : ∀ {ps : List Tree}, (∀ p ∈ ps, p.nm ≠ x) → setFirst x f ps = ps
  | [], _ => rfl
  | p :: r, h => by
    unfold setFirst
    rw [if_neg (h p (.head _)), setFirst_none fun q hq => h q (.tail _ hq)]
theorem setFirst_at {x : Bs} {f : Tree → Tree} : ∀ {ps : List Tree} {j : Nat} {p : Tree}, ps[j]? = some p → p.nm = x → (∀ q ∈ ps.take j, q.nm ≠ x) → setFirst x f ps = ps.set j (f p)
  | [], _, _, h, _, _ => by simp at h
  | q :: r, 0, p, h, hx, _ => by
    simp at h
    subst h
    unfold setFirst
    rw [if_pos hx]
    rfl
  | q :: r, j + 1, p, h, hx, hn => by
    unfold setFirst
    rw [if_neg (hn q (by simp)), setFirst_at (by simpa using h) hx fun q' hq => hn q' (by rw [List.take_succ_cons]; exact .tail _ hq)]
    rfl
theorem pick_cases {x : Bs} : ∀ {vs : List Value} {ps : List Tree}, vs.length = ps.length → ((∀ p ∈ ps, p.nm ≠ x) ∧ pick vs (ps.map Tree.nm) x = .none) ∨ ∃ (j : Nat) (v : Value) (p : Tree), vs[j]? = some v ∧ ps[j]? = some p ∧ p.nm = x ∧ (∀ q ∈ ps.take j, q.nm ≠ x) ∧ pick vs (ps.map Tree.nm) x = v
  | [], [], _ => .inl ⟨fun _ h => (nomatch h), rfl⟩
  | [], _ :: _, h => by simp at h
  | _ :: _, [], h => by simp at h
  | v :: vs, p :: ps, h => by
    rw [List.map_cons]
    unfold pick
    by_cases e : p.nm = x
    · rw [if_pos e]
      exact .inr (Y3_5 0 v p rfl rfl e (by simp) rfl)
    · rw [if_neg e]
      rcases pick_cases (x := x) (by simpa using h : vs.length = ps.length) with ⟨h1, h2⟩ | ⟨j, v', p', h1, h2, h3, h4, h5⟩
      · exact .inl ⟨fun q hq => by
          rcases List.mem_cons.mp hq with rfl | hq
          · exact e
          · exact h1 q hq, h2⟩
      · exact .inr ⟨j + 1, v', p', by simpa using h1, by simpa using h2, h3, fun q hq => by
          rw [List.take_succ_cons] at hq
          rcases List.mem_cons.mp hq with rfl | hq
          · exact e
          · exact h4 q hq, h5⟩
theorem zip_in {w : World} {n : Led} : ∀ {vs : List Value} {ps : List Tree}, TreesIn w n vs ps → ∀ z ∈ vs.zip ps, TreeIn w n z.1 z.2
  | [], [], _, z, hz => by simp at hz
  | [], _ :: _, h, _, _ => False.elim h
  | _ :: _, [], h, _, _ => False.elim h
  | v :: vs, p :: ps, h, z, hz => by
    change _ ∧ _ at h
    rw [List.zip_cons_cons] at hz
    rcases List.mem_cons.mp hz with rfl | hz
    · exact h.1
    · exact zip_in h.2 z hz
theorem in_zip {w : World} {n : Led} : ∀ {Z : List (Value × Tree)}, (∀ z ∈ Z, TreeIn w n z.1 z.2) → TreesIn w n (Z.map Prod.fst) (Z.map Prod.snd)
  | [], _ => trivial
  | z :: r, h => by
    rw [List.map_cons, List.map_cons]
    show _ ∧ _
    exact ⟨h z (.head _), in_zip fun y hy => h y (.tail _ hy)⟩
theorem tab_kind {ps : Array Value} : (∀ C d, tabObj ps ≠ instObj C d) ∧ (∀ es j, tabObj ps ≠ dictOf es j) ∧ ∀ b j, tabObj ps ≠ lstN b j :=
  (Y0_3 (fun _ _ h => by have := congrArg Obj.cls h; simp [tabObj, instObj] at this) (fun _ _ h => by have := congrArg Obj.cls h; simp [tabObj, dictOf] at this) (fun _ _ h => by have := congrArg Obj.cls h; simp [tabObj] at this))
theorem treesU_at {w : World} {n : Led} (hF : Fn n) (hP : (189, tabObj #[]) ∈ n) : ∀ {vs : List Value} {ps : List Tree} {es : List Addr} {j : Nat} {v : Value}, TreesU w n vs ps es → es.Nodup → vs[j]? = some v → ∃ p dj, ps[j]? = some p ∧ TreeU w n v p dj ∧ dj.Nodup ∧ (∀ a ∈ dj, a ∈ es) ∧
    ∀ n3 s3, (∀ q ∈ n, q.1 ∉ dj → @Ne Nat q.1 189 → q ∈ n3) → TreeIn w n3 v s3 → TreesIn w n3 vs (ps.set j s3)
  | [], _, _, _, _, _, _, h => by simp at h
  | _ :: _, [], _, _, _, h, _, _ => False.elim h
  | u :: vs, p :: ps, es, 0, v, h, hn, hv => by
    simp at hv
    subst hv
    change Exists _ at h
    refine X2_3 h ?_; clear h; rintro d1 d2 h1 h2 rfl
    refine X0_3 (List.nodup_append.mp hn) fun n1 n2 n12 => ?_
    refine Y2_5 p d1 rfl h1 n1 (fun a ha => List.mem_append_left _ ha) (fun n3 s3 hs ht => ?_)
    rw [List.set_cons_zero]
    show _ ∧ _
    refine ⟨ht, (h2.keep (k := n3) hF (bad := d1 ++ [189]) (fun q hq hb => hs q hq (fun e => hb (List.mem_append_left _ e)) fun e => hb (List.mem_append_right _ (by rw [e]; exact .head _))) (fun a ha hd => ?_) fun a ha => ?_).trees⟩
    · rcases List.mem_append.mp ha with ha | ha
      · exact n12 a ha a hd rfl
      · obtain ⟨es, he⟩ := dicts_mem.2 h2 a hd
        rw [List.mem_singleton.mp ha] at he
        exact tab_kind.2.1 _ _ (hF _ _ _ hP he)
    · rcases List.mem_append.mp ha with ha | ha
      · obtain ⟨es, he⟩ := dicts_mem.1 h1 a ha
        exact Y2_1 es 4 (.inl he)
      · rw [List.mem_singleton.mp ha]
        exact Y2_1 [] 0 (.inr (Y1_2 _ hP tab_kind))
  | u :: vs, p :: ps, es, j + 1, v, h, hn, hv => by
    change Exists _ at h
    refine X2_3 h ?_; clear h; rintro d1 d2 h1 h2 rfl
    refine X0_3 (List.nodup_append.mp hn) fun n1 n2 n12 => ?_
    refine X2_5 (treesU_at hF hP h2 n2 (by simpa using hv)) fun q dj e1 e2 e3 e4 e5 => ?_
    refine Y2_5 q dj (by simpa using e1) e2 e3 (fun a ha => List.mem_append_right _ (e4 a ha)) (fun n3 s3 hs ht => ?_)
    rw [List.set_cons_succ]
    show _ ∧ _
    refine ⟨(h1.keep (k := n3) hF (bad := dj ++ [189]) (fun q hq hb => hs q hq (fun e => hb (List.mem_append_left _ e)) fun e => hb (List.mem_append_right _ (by rw [e]; exact .head _))) (fun a ha hd => ?_) fun a ha => ?_).tree, e5 n3 s3 hs ht⟩
    · rcases List.mem_append.mp ha with ha | ha
      · exact n12 a hd a (e4 a ha) rfl
      · obtain ⟨es, he⟩ := dicts_mem.1 h1 a hd
        rw [List.mem_singleton.mp ha] at he
        exact tab_kind.2.1 _ _ (hF _ _ _ hP he)
    · rcases List.mem_append.mp ha with ha | ha
      · obtain ⟨es, he⟩ := dicts_mem.1 e2 a ha
        exact Y2_1 es 4 (.inl he)
      · rw [List.mem_singleton.mp ha]
        exact Y2_1 [] 0 (.inr (Y1_2 _ hP tab_kind))
theorem pair_next {R : Bs → Bs → Prop} {l : List Bs} (h : l.Pairwise R) (i : Nat) (x y : Bs) (h1 : l[i]? = some x) (h2 : l[i + 1]? = some y) : R x y := by
  obtain ⟨hi, rfl⟩ := List.getElem?_eq_some_iff.mp h1
  obtain ⟨hj, rfl⟩ := List.getElem?_eq_some_iff.mp h2
  exact List.pairwise_iff_getElem.mp h i (i + 1) hi hj (Nat.lt_succ_self i)
end
section
structure FgJ (w : World) (n0 : Led) (root : Value) (ds0 : List Addr) (k : Led) (x : Addr) (s : Tree) (ds : List Addr) (C : Tree → Tree) : Prop where
  tr : TreeU w k (.ref x) s ds
  nd : ds.Nodup
  gd : s.Good
  tab : (189, tabObj #[]) ∈ k
  keep : ∀ q ∈ n0, q.1 ∉ ds0 → q ∈ k
  inn : ∀ a ∈ ds, a ∈ ds0
  hole : ∀ n2 s2, (∀ q ∈ k, q.1 ∉ ds → @Ne Nat q.1 189 → q ∈ n2) → TreeIn w n2 (.ref x) s2 → TreeIn w n2 root (C s2)
structure FgN (w : World) (k : Led) (x d pl : Addr) (nm : Bs) (cn : Int) (od : Option Bs) (vo : Value) (t1 t2 t3 t4 t5 tn : Tok) (vs : List Value) (i : Nat) (ps : List Tree) (es : List Addr) : Prop where
  x : (x, instObj 207 d) ∈ k
  d : (d, dictOf (treeEs w t1 t2 t3 t4 t5 (.bytes nm.toArray tn) vo cn pl) 4) ∈ k
  ov : OV vo od
  pl : (pl, lstN vs i) ∈ k
  ts : TreesU w k vs ps es
  sz : vs.length ≤ 1000
theorem FgJ.open {w : World} {n0 k : Led} {root : Value} {ds0 ds : List Addr} {x : Addr} {nm : Bs} {cn : Int} {od : Option Bs} {ps : List Tree} {C : Tree → Tree} {P : Prop} (J : FgJ w n0 root ds0 k x (.mk nm cn od ps) ds C)
    (h : ∀ d pl vo t1 t2 t3 t4 t5 tn vs i es, FgN w k x d pl nm cn od vo t1 t2 t3 t4 t5 tn vs i ps es → ds = d :: es → P) : P := by
  have t := J.tr
  change Exists _ at t
  refine X13_8 t ?_; clear t; rintro a d tn vo pl t1 t2 t3 t4 t5 vs i es h0 h1 h2 h3 h4 h5 h6 h7
  have h0 : Value.ref x = .ref a := h0
  cases h0
  exact h d pl vo t1 t2 t3 t4 t5 tn vs i es ⟨h1, h2, h3, h4, h5, h6⟩ h7
section
variable {w : World} {n0 k k2 : Led} {root : Value} {ds0 es : List Addr} {x d pl : Addr} {nm : Bs} {cn : Int} {od : Option Bs} {ps : List Tree} {C : Tree → Tree} {vo : Value} {t1 t2 t3 t4 t5 t6 tn : Tok} {vs : List Value} {i : Nat}
theorem FgJ.put (J : FgJ w n0 root ds0 k x (.mk nm cn od ps) (d :: es) C) (N : FgN w k x d pl nm cn od vo t1 t2 t3 t4 t5 tn vs i ps es) {n3 : Led} {vs3 : List Value} {ps3 : List Tree} {pl3 : Addr} {i3 : Nat} (h1 : (x, instObj 207 d) ∈ n3) (h2 : (d, dictOf (treeEs w t1 t2 t3 t4 t6 (.bytes nm.toArray tn) vo (-1) pl3) 4) ∈ n3)
    (h3 : (pl3, lstN vs3 i3) ∈ n3) (h4 : TreesIn w n3 vs3 ps3) (h5 : vs3.length ≤ 1000) (h6 : ∀ q ∈ k, q.1 ∉ d :: es → @Ne Nat q.1 189 → q ∈ n3) : TreeIn w n3 root (C (.mk nm (-1) od ps3)) :=
  J.hole n3 _ h6 (by show Exists _; exact Y12_7 x d tn vo pl3 t1 t2 t3 t4 t6 vs3 i3 rfl h1 h2 N.ov h3 h4 h5)
theorem FgJ.facts (J : FgJ w n0 root ds0 k x (.mk nm cn od ps) (d :: es) C) (N : FgN w k x d pl nm cn od vo t1 t2 t3 t4 t5 tn vs i ps es) (fk : Fn k) (M : Mut k k2 d (dictOf (treeEs w t1 t2 t3 t4 t6 (.bytes nm.toArray tn) vo (-1) pl) 4)) :
    d ∉ es ∧ es.Nodup ∧ (x, instObj 207 d) ∈ k2 ∧ (pl, lstN vs i) ∈ k2 ∧ (189, tabObj #[]) ∈ k2 ∧ TreesU w k2 vs ps es ∧ (∀ q ∈ k, q.1 ∉ d :: es → q ∈ k2) := by
  have hn := List.nodup_cons.mp J.nd
  refine Y0_7 hn.1 hn.2 (M.sub _ N.x (ne_kind fk N.x N.d inst_dict)) (M.sub _ N.pl (ne_kind fk N.pl N.d dict_lst.symm)) (M.sub _ J.tab (ne_kind fk J.tab N.d (tab_kind.2.1 _ _))) (N.ts.keep (bad := [d]) fk (fun q hq hb => M.sub q hq fun e => hb (by rw [e]; exact .head _)) (fun a ha => ?_) (fun a ha => ?_)) (fun q hq hb => M.sub q hq fun e => hb (by rw [e]; exact .head _))
  · rw [List.mem_singleton.mp ha]; exact hn.1
  · rw [List.mem_singleton.mp ha]; exact Y2_1 _ 4 (.inl N.d)
theorem FgJ.stop (J : FgJ w n0 root ds0 k x (.mk nm cn od ps) (d :: es) C) (N : FgN w k x d pl nm cn od vo t1 t2 t3 t4 t5 tn vs i ps es) (fk : Fn k) (M : Mut k k2 d (dictOf (treeEs w t1 t2 t3 t4 t6 (.bytes nm.toArray tn) vo (-1) pl) 4)) :
    TreeIn w k2 root (C (.mk nm (-1) od ps)) ∧ ∀ q ∈ n0, q.1 ∉ ds0 → q ∈ k2 := by
  refine X0_7 (J.facts N fk M) fun a1 a2 a3 a4 a5 a6 a7 => ?_
  refine ⟨J.put N a3 M.mem a4 a6.trees N.sz fun q hq hb _ => a7 q hq hb, fun q hq hb => a7 q (J.keep q hq hb) fun he => hb (J.inn _ he)⟩
theorem FgJ.step (J : FgJ w n0 root ds0 k x (.mk nm cn od ps) (d :: es) C) (N : FgN w k x d pl nm cn od vo t1 t2 t3 t4 t5 tn vs i ps es) (fk : Fn k) (f2 : Fn k2) (M : Mut k k2 d (dictOf (treeEs w t1 t2 t3 t4 t6 (.bytes nm.toArray tn) vo (-1) pl) 4)) {j : Nat} {y : Addr} (hv : vs[j]? = some (.ref y)) :
    ∃ p dj, ps[j]? = some p ∧ FgJ w n0 root ds0 k2 y p dj fun s => C (.mk nm (-1) od (ps.set j s)) := by
  refine X0_7 (J.facts N fk M) fun a1 a2 a3 a4 a5 a6 a7 => ?_
  refine X2_5 (treesU_at f2 a5 a6 a2 hv) fun p dj e1 e2 e3 e4 e5 => ?_
  have gp : p.Good := by
    have := J.gd
    cases this with
    | mk h _ _ _ => exact h p (List.mem_of_getElem? e1)
  refine ⟨p, dj, e1, e2, e3, gp, a5, fun q hq hb => a7 q (J.keep q hq hb) fun he => hb (J.inn _ he), fun a ha => J.inn a (.tail _ (e4 a ha)), fun n3 s3 hs ht => ?_⟩
  have nk : ∀ {a : Addr} {o : Obj}, (a, o) ∈ k2 → (∀ es j, o ≠ dictOf es j) → a ∉ dj := fun {a o} hm ho he => by
    obtain ⟨es', hd⟩ := dicts_mem.1 e2 a he
    exact ho _ _ (f2 _ _ _ hm hd)
  refine J.put N (hs _ a3 (nk a3 fun _ _ => inst_dict) (ne_kind f2 a3 a5 (tab_kind.1 _ _).symm)) (hs _ M.mem (fun he => a1 (e4 _ he)) (ne_kind f2 M.mem a5 (tab_kind.2.1 _ _).symm)) (hs _ a4 (nk a4 fun _ _ => dict_lst.symm) (ne_kind f2 a4 a5 (tab_kind.2.2 _ _).symm)) (e5 n3 s3 hs ht) N.sz fun q hq hb h9 => hs q (a7 q hq hb) (fun he => hb (.tail _ (e4 _ he))) h9
end
end
section
theorem told_L : ∀ (t : Tree) {w : World} {c : Cx w} {n : Led} {l : Fm} {v : Value}, c.dp + t.ht < recursionLimit → TreeIn w n v t → CaG c n l (.ref 338) [v] fun r n' => ∃ tl, Ext n n' tl ∧ ToldIn tl r t := by
  intro t
  induction t using Tree.ind with
  | h nm cn o ps ih =>
  intro w c n l v hroom ht Q k
  unfold Tree.ht at hroom
  refine ht.open ?_
  rintro a d tn vo pl t1 t2 t3 t4 t5 vs i rfl h1 h2 h4 h5 h6 h7
  refine At.enter (by exact rfl) (by lia) [Str.ofString "tree"] [] [(Str.ofString "tree", some (.ref a))] fun c' RQ hI => ?_
  refine .retQ (.eTup (.argP (.nm (.name rfl) h1 h2 rfl) (.argP (.cn (.name rfl) h1 h2) (.argP (.od (.name rfl) h1 h2 h4.handed) (.argQ
    (.eComp hI.wk (.pt (.name rfl) h1 h2) h5 h7 (fun i ys n' => ∃ tl, Ext n n' tl ∧ ToldsIn tl ys (ps.take i)) (Y1_2 [] .rfl' True.intro) (fun i ys n' h => ?_) (fun i v ys n' c2 hv hj hw2 Q2 k2 => ?_) fun D ys n₀ n' hj hN => At.arg0 (At.newTup fun a' n'' hN2 => hI.ret _ _ _ (k _ _ ?_))))))))
  · refine X1_2 h ?_; clear h; rintro tl hE _
    exact hE.sub _ h5
  · refine X1_2 hj ?_; clear hj; rintro tl hE hT
    refine X1_2 (trees_get h6 hv) fun t ht hin => ?_
    have hlt := Tree.ht_le (List.mem_of_getElem? ht)
    refine .eCall (.glob hw2 rfl) (.ref rfl) (.argP (.name rfl) (.arg0 (.cq (ih t (List.mem_of_getElem? ht) (by rw [hw2.dp]; lia) (hin.mono hE.sub) _ fun r n1 hr => k2 _ _ ?_))))
    refine X1_2 hr ?_; clear hr; rintro tl2 hE2 hr
    refine Y1_2 _ (hE.trans hE2) ?_
    rw [List.take_add_one, ht]
    exact tolds_snoc (hT.mono in_l) (hr.mono in_r)
  · refine X1_2 hj ?_; clear hj; rintro tl hE hT
    rw [trees_len h6, List.take_length] at hT
    refine Y1_2 _ ((hE.mk1 hN).mk1 hN2) ?_
    show Exists _
    exact Y7_6 a' tn vo D t5 ys _ rfl (.head _) h4 (.tail _ (.head _)) (hT.mono fun q hq => .tail _ (.tail _ hq)) (by rw [tolds_len hT, ← trees_len h6]; exact h7)
end
section
theorem ite_both {α : Type} {c : Prop} [Decidable c] {a b x : α} (ha : a = x) (hb : b = x) : ite c a b = x := by by_cases h : c; exact (if_pos h).trans ha; exact (if_neg h).trans hb
theorem swap_cell {env : Env} {x y : Str} {px py tp p' : Pos} {v1 v2 : PySem.Expr} {j j' : Nat} (h : env.kindOf y ≠ some .local) : swappedStores [.Tuple [.Name x px, .Name y py] j tp] (.Tuple [v1, v2] j' p') env = pure none := by
  have h' : (env.kindOf y == some .local) = false := by simpa using h
  unfold swappedStores
  refine ite_both rfl (ite_both rfl ((if_pos ?_).trans rfl))
  dsimp only [List.filterMap_cons, List.filterMap_nil]
  rw [h']
  cases env.kindOf x == some .local && _ <;> rfl
section
variable {w : World} {c : Cx w} {n : Led} {l : Fm} {rest : List Stmt} {sc : Scope} {d u : Nat}
theorem At.tupC {ts : List PySem.Expr} {tp pos : Pos} {j : Nat} {e : PySem.Expr} {Q : Flow → Shared → Prop} (k : At c n l (eval e c.env) (Uq c ts j tp rest Q)) (hw : swappedStores [.Tuple ts j tp] e c.env = pure none) (hs : ∀ env, swapsWithSole [.Tuple ts j tp] e pos.line env = pure false := by intro _; rfl) :
    At c n l (execs (.Assign [.Tuple ts j tp] e pos :: rest) c.env) Q := .cons fun h' tk H => Assign_Tuple (k h' tk H) (hs _) hw
end
noncomputable abbrev frF (v p h ns nm : Option Value) : Fm := [(Str.ofString "self", v), (Str.ofString "path", p), (Str.ofString "here", h), (Str.ofString "names", ns), (Str.ofString "name", nm)]
theorem forget_cons {x y : Bs} {r : List Bs} {n : Bs} {c : Int} {o : Option Bs} {ps : List Tree} : Tree.forget (x :: y :: r) (.mk n c o ps) = .mk n (-1) o (setFirst x (fun p => p.forget (y :: r)) ps) := rfl
theorem pick_last (vs : List Value) : kms_pick vs none (some (-1)) = vs.take (vs.length - 1) := by
  unfold kms_pick kms_lo kms_hi
  simp
theorem forget_L {w : World} {c : Cx w} {n : Led} {l : Fm} {v : Value} {t : Tree} {ds : List Addr} {path : Bs} {tp : Tok} (hroom : c.dp + 5 < recursionLimit) (ht : TreeU w n v t ds) (hnd : ds.Nodup) (hg : t.Good) (hP : (189, tabObj #[]) ∈ n)
    (hz : ∀ x ∈ pieces path [47], x.length ≤ 1000) (hl : (pieces path [47]).length ≤ 1000) (hne : pieces path [47] ≠ []) :
    CaG c n l (.ref 199) [v, .bytes path.toArray tp] fun r n' => r = .none ∧ (∃ ps, (189, tabObj ps) ∈ n') ∧ TreeIn w n' v (t.forget (pieces path [47])) ∧ ∀ q ∈ n, q.1 ∉ ds → @Ne Nat q.1 189 → q ∈ n' := by
  intro Q kk
  obtain ⟨x0, rfl⟩ : ∃ x0, v = .ref x0 := by
    obtain ⟨_, _, _, _⟩ := t
    change Exists _ at ht
    refine X13_2 ht ?_; clear ht; rintro a _ _ _ _ _ _ _ _ _ _ _ _ h0 _
    exact ⟨a, h0⟩
  refine At.enter (by exact rfl) (by lia) [Str.ofString "self", Str.ofString "path"] [Str.ofString "here", Str.ofString "names", Str.ofString "name"] (frF (some (.ref x0)) (some (.bytes path.toArray tp)) none none none) fun c' RQ hI => ?_
  have hw := hI.wk
  refine At.tupC (.eTup <| .argP (.name rfl) <| .argQ <| .eMeth (.name rfl) Mt.split .blt <| .argR EvR.bytes fun sv hsv => .arg0 <| Go.cq ?_) (swap_cell (by unfold Env.kindOf; rw [hw.sc]; exact fun h => nomatch h))
  obtain ⟨ts, rfl⟩ := hsv
  refine CaG.split (by simp) hz hl _ ?_
  rintro _ n1 zz; refine X2_3 zz ?_; clear zz; rintro nl nvs rfl hnv hN
  have hlen := bvs_len hnv
  generalize hnms : pieces path [47] = nms at *
  refine At.arg0 <| At.newTup fun tpa n2 hT => Go.tup2 hw hT.mem ?_
  have s2 : ∀ q ∈ n, q ∈ n2 := fun q hq => hT.sub q (hN.sub q hq)
  refine .forG (vs := nvs.take (nvs.length - 1)) hw (R := fun r k => ∃ a, r = .ref a ∧ New n2 k a (lstN (nvs.take (nvs.length - 1)) 0)) (fun Q2 k2 => ?_) (fun a j i k l' => (a, lstN (nvs.take (nvs.length - 1)) j) ∈ k ∧ (nl, lstN nvs 0) ∈ k ∧ ∃ x s ds1 C nm, l' = frF (some (.ref x0)) (some (.bytes path.toArray tp)) (some (.ref x)) (some (.ref nl)) nm ∧ FgJ w n (.ref x0) ds k x s ds1 C ∧ t.forget nms = C (s.forget (nms.drop i))) ?_ ?_ ?_ ?_
  · exact .cutL (.name rfl) (hT.sub _ hN.mem) .none (.some (.neg .int)) (by lia) fun D n' hD => k2 _ _ (Y1_2 D rfl (by rw [← pick_last]; exact hD))
  · rintro _ k zz; refine X1_2 zz ?_; clear zz; rintro a rfl hA
    exact Y2_4 a 0 rfl hA.mem (hA.sub _ (hT.sub _ hN.mem)) (Y5_3 x0 t ds (fun s => s) none rfl ⟨ht.sub fun q hq => hA.sub q (s2 q hq), hnd, hg, hA.sub _ (s2 _ hP), fun q hq _ => hA.sub q (s2 q hq), fun _ h => h, fun _ _ _ h => h⟩ rfl)
  · rintro a j i k l' zz; refine X0_3 zz ?_; clear zz; rintro h1 h2 zz; obtain ⟨x, s, ds1, C, nm, rfl, _⟩ := zz
    exact ⟨h1, rfl⟩
  · rintro a j i v k l' ci TQ hv zz; refine X0_3 zz ?_; clear zz; rintro h1 h2 zz; obtain ⟨x, ⟨nm, cn, od, ps⟩, ds1, C, nmo, rfl, J, hC⟩ := zz; rintro hn
    have hi : i + 1 < nvs.length := by
      have := (List.getElem?_eq_some_iff.mp hv).1
      rw [List.length_take] at this
      omega
    rw [List.getElem?_take_of_lt (by omega)] at hv
    refine X1_2 (bvs_get hnv hv) fun b hb hbv => ?_
    obtain ⟨tb, rfl⟩ := hbv
    have hw2 := hn.wk
    refine At.fn fun fk => ?_
    refine J.open ?_
    rintro d pl vo t1 t2 t3 t4 t5 tn vs i2 es N rfl
    refine .setA <| EvR.neg .int _ ?_
    rintro _ ⟨t6, rfl⟩
    refine Go.setA rfl <| At.setCount N.x N.d (ne_kind fk N.x N.d inst_dict) fun k2 M => ?_
    refine At.fn (t := execs _ ci.env) fun f2 => ?_
    refine X0_7 (J.facts N fk M) fun a1 a2 a3 a4 a5 a6 a7 => ?_
    have hu1 : (a, lstN (nvs.take (nvs.length - 1)) j) ∈ k2 := M.sub _ h1 (ne_kind fk h1 N.d dict_lst.symm)
    have hu2 : (nl, lstN nvs 0) ∈ k2 := M.sub _ h2 (ne_kind fk h2 N.d dict_lst.symm)
    refine .assignQ <| .eMeth (.name rfl) (.inst a3 M.mem (by rfl) (by rfl) (by rfl) (by rfl)) (.ref rfl) <| .argP (.name rfl) <| .arg0 <| Go.cq <| part_L (by rw [hw2.dp]; lia) a3 M.mem a4 (namesIn_of a6.trees) _ ?_
    rintro r _ ⟨rfl, rfl⟩
    refine Go.aq hw2 ?_
    have hdrop : nms.drop i = b :: nms.drop (i + 1) := by
      rw [List.drop_eq_getElem?_toList_append, hb]
      rfl
    obtain ⟨y, r, hyr⟩ : ∃ y r, nms.drop (i + 1) = y :: r := by
      cases e : nms.drop (i + 1) with
      | nil =>
        have := congrArg List.length e
        rw [List.length_drop, List.length_nil] at this
        omega
      | cons y r => exact Y2_1 y r rfl
    rw [hdrop, hyr] at hC
    rcases pick_cases (x := b) (trees_len a6.trees) with ⟨g1, g2⟩ | ⟨j2, v2, p2, g1, g2, g3, g4, g5⟩
    · rw [g2]
      refine .guard (.cmp (EvP.r (P := fun v => v = .none) (.name rfl) rfl) (EvP.r (P := fun v => v = .none) .none rfl) fun a b ha hb => by subst ha; subst hb; exact .isNone) (fun _ => ?_) fun h => absurd rfl h
      obtain ⟨z1, z2⟩ := J.stop N fk M
      refine .ret0 (hn.ret _ _ _ (Go.ret (hI.ret _ _ _ (kk _ _ (Y0_4 rfl ⟨_, a5⟩ ?_ (fun q hq hb _ => z2 q hq hb))))))
      rw [hC, forget_cons, setFirst_none g1]
      exact z1
    · rw [g5]
      have : ∃ y2, v2 = .ref y2 := by
        refine X1_2 (trees_get a6.trees g1) ?_; rintro ⟨_, _, _, _⟩ _ hti
        exact hti.open fun a _ _ _ _ _ _ _ _ _ _ _ e _ _ _ _ _ _ => ⟨a, e⟩
      obtain ⟨y2, rfl⟩ := this
      refine .guard (.cmp (EvP.r (P := fun v => v = .ref y2) (.name rfl) rfl) (EvP.r (P := fun v => v = .none) .none rfl) fun a b ha hb => by subst ha; subst hb; exact .isNone) (fun h => by cases h) fun h => ?_
      refine X2_2 (J.step N fk f2 M g1) fun p dj e1 J' => ?_
      have : p = p2 := Option.some.inj (e1.symm.trans g2)
      subst this
      refine .nil <| hn.next _ _ (Y0_3 hu1 hu2 (Y5_3 y2 p dj _ _ rfl J' ?_))
      rw [hC, hyr, forget_cons, setFirst_at g2 g3 g4]
  · rintro a j k l' zz; refine X0_3 zz ?_; clear zz; rintro h1 h2 zz; obtain ⟨x, ⟨nm, cn, od, ps⟩, ds1, C, nmo, rfl, J, hC⟩ := zz
    have hN0 : nms.length ≠ 0 := fun e => hne (List.eq_nil_of_length_eq_zero e)
    have elen : (nvs.take (nvs.length - 1)).length = nms.length - 1 := by rw [List.length_take, hlen]; lia
    obtain ⟨b, hb⟩ : ∃ b, nms[nms.length - 1]? = some b := ⟨_, List.getElem?_eq_getElem (by lia)⟩
    have hdrop : nms.drop (nms.length - 1) = [b] := by
      rw [List.drop_eq_getElem?_toList_append, hb, show nms.length - 1 + 1 = nms.length by lia, List.drop_length]
      rfl
    rw [elen, hdrop] at hC
    refine At.fn fun fk => ?_
    refine J.open ?_
    rintro d pl vo t1 t2 t3 t4 t5 tn vs i2 es N rfl
    refine .setA <| EvR.neg .int _ ?_
    rintro _ ⟨t6, rfl⟩
    refine Go.setA rfl <| At.setCount N.x N.d (ne_kind fk N.x N.d inst_dict) fun k2 M => ?_
    refine At.fn (t := execs _ c'.env) fun f2 => ?_
    refine X0_7 (J.facts N fk M) fun a1 a2 a3 a4 a5 a6 a7 => ?_
    have hu2 : (nl, lstN nvs 0) ∈ k2 := M.sub _ h2 (ne_kind fk h2 N.d dict_lst.symm)
    obtain ⟨bv, hbv⟩ : ∃ bv, nvs[nvs.length - 1]? = some bv := ⟨_, List.getElem?_eq_getElem (by lia)⟩
    refine X1_2 (bvs_get hnv hbv) ?_; rintro b' hb' ⟨tb, rfl⟩
    rw [hlen] at hb'
    have : b' = b := Option.some.inj (hb'.symm.trans hb)
    subst this
    have hvp := trees_len a6.trees
    have hF : ∀ {i : Nat} {v : Value} {p : Tree}, vs[i]? = some v → ps[i]? = some p → (vs.zip ps)[i]? = some (v, p) := fun h1 h2 => by rw [List.getElem?_zip_eq_some]; exact ⟨h1, h2⟩
    have hgood := J.gd
    cases hgood with
    | mk _ hps64 hpw hpz =>
    refine .exprQ <| .eMeth (.name rfl) (.inst a3 M.mem (by rfl) (by rfl) (by rfl) (by rfl)) (.ref rfl) <| .argQ <| .eCompT hw (.pt (.name rfl) a3 M.mem) a4 N.sz (fun i ys k3 => (∀ q ∈ k2, q ∈ k3) ∧ ys = (((vs.zip ps).take i).filter fun z => decide (z.2.nm ≠ b')).map Prod.fst) ⟨fun _ h => h, by simp⟩ (fun i ys k3 h => h.1 _ a4) (fun i v ys k3 c2 hv hj hw2 => ?_) fun D ys k3 k4 hj hD => ?_
    · obtain ⟨s3, rfl⟩ := hj
      refine X1_2 (trees_get a6.trees hv) ?_; rintro ⟨nm3, cn3, od3, ps3⟩ hpi hti
      have hzi := hF hv hpi
      refine hti.open ?_
      intro a3' d3 tn3 vo3 pl3 x1 x2 x3 x4 x5 vs3 i3 e f1 f2' f4 f5 f6 f7
      have e : v = .ref a3' := e
      subst e
      refine Y1_3 (nm3 ≠ b') (.cmp (EvP.r (P := BW nm3) (.nm (.name rfl) (s3 _ f1) (s3 _ f2') rfl) ⟨_, rfl⟩) (EvP.r (P := BW b') (.back (.name rfl) (s3 _ hu2) (.neg .int) (by decide) (by rw [hlen]; lia) (by decide) (by rw [show ((-1 : Int) + (nvs.length : Int)).toNat = nvs.length - 1 by omega]; exact hbv)) ⟨_, rfl⟩) fun a b ha hb => .bNe ha hb) (fun hp Q3 kk3 => ?_) (fun hp => ⟨s3, ?_⟩)
      · refine (show EvP c2 k3 _ (.Name (Str.ofString "one") _) (.ref a3') from .name rfl) Q3 (kk3 _ _ ⟨s3, ?_⟩)
        rw [List.take_succ, hzi, List.filter_append, List.map_append]
        have : decide (nm3 ≠ b') = true := by simpa using hp
        congr 1
        show _ = List.map Prod.fst (List.filter _ [_])
        rw [List.filter_cons_of_pos (by exact this)]
        rfl
      · rw [List.take_succ, hzi, List.filter_append, List.map_append]
        have : ¬ decide (nm3 ≠ b') = true := by simpa using hp
        rw [show (some (Value.ref a3', Tree.mk nm3 cn3 od3 ps3)).toList = [(Value.ref a3', Tree.mk nm3 cn3 od3 ps3)] from rfl, List.filter_cons_of_neg (by exact this), List.filter_nil, List.map_nil, List.append_nil]
    · obtain ⟨s3, rfl⟩ := hj
      have ezl : (vs.zip ps).length = vs.length := by rw [List.length_zip, hvp]; lia
      rw [← ezl, List.take_length] at hD
      generalize hZ : (vs.zip ps).filter (fun z => decide (z.2.nm ≠ b')) = Z at hD
      have hZm : ∀ z ∈ Z, z ∈ vs.zip ps := fun z hz => by rw [← hZ] at hz; exact (List.mem_filter.mp hz).1
      have hZs : Z.map Prod.snd = ps.filter fun p => decide (p.nm ≠ b') := by
        rw [← hZ]
        have := List.filter_map (f := Prod.snd) (p := fun p : Tree => decide (p.nm ≠ b')) (l := vs.zip ps)
        rw [show (Prod.snd : Value × Tree → Tree) = fun x => x.2 from rfl] at this ⊢
        rw [show (fun z : Value × Tree => decide (z.2.nm ≠ b')) = (fun p : Tree => decide (p.nm ≠ b')) ∘ fun x : Value × Tree => x.2 from rfl, ← this]
        congr 1
        exact List.map_snd_zip (by lia)
      have s4 : ∀ q ∈ k2, q ∈ k4 := fun q hq => hD.sub q (s3 q hq)
      have hZl : Z.length ≤ vs.length := by rw [← ezl, ← hZ]; exact List.length_filter_le _ _
      refine At.arg0 <| Go.cq <| put_parts_L (nms := Z.map fun z => z.2.nm) (by rw [hw.dp]; lia) (s4 _ a3) (s4 _ M.mem) (s4 _ a5) hD.mem (by rw [List.length_map, List.length_map]) (by rw [List.length_map]; lia) (pair_next ?_) (fun i v nm hv hnm => ?_) _ ?_
      · rw [show (fun z : Value × Tree => z.2.nm) = Tree.nm ∘ Prod.snd from rfl, ← List.map_map, hZs]
        exact hpw.sublist (List.Sublist.map _ List.filter_sublist)
      · rw [List.getElem?_map] at hv hnm
        refine X1_2 (Option.map_eq_some_iff.mp hv) ?_; rintro z hz1 rfl
        rw [hz1] at hnm
        obtain rfl := Option.some.inj hnm
        have hzin := hZm z (List.mem_of_getElem? hz1)
        have hti := zip_in a6.trees z hzin
        refine ⟨?_, Nat.le_trans (hpz _ (List.of_mem_zip hzin).2) (by decide)⟩
        obtain ⟨zv, ⟨nm3, cn3, od3, ps3⟩⟩ := z
        refine hti.open ?_
        intro a3' d3 tn3 vo3 pl3 x1 x2 x3 x4 x5 vs3 i3 e f1 f2' f4 f5 f6 f7
        exact Y11_3 a3' d3 x1 x2 x3 x4 x5 tn3 vo3 cn3 pl3 e (s4 _ f1) (s4 _ f2')
      · rintro _ n5 zz; refine X0_3 zz ?_; clear zz; rintro rfl mtab zz; obtain ⟨D2, j2, m1, m2, m3, m4⟩ := zz
        refine Go.xq <| .nil <| hI.nxt _ _ <| kk _ _ (Y0_4 rfl mtab ?_ (fun q hq hb h9 => ?_))
        · rw [hC]
          unfold Tree.forget
          rw [← hZs]
          have f4 : ∀ q ∈ k2, @Ne Nat q.1 d → @Ne Nat q.1 189 → q ∈ n5 := fun q hq h1 h2 => m4 q (s4 q hq) h1 h2
          have keep := a6.keep (k := n5) (bad := [d, 189]) f2 (fun q hq hb => f4 q hq (fun e => hb (by rw [e]; exact .head _)) fun e => hb (by rw [e]; exact .tail _ (.head _))) (fun a ha => ?_) fun a ha => ?_
          · exact J.put N (f4 _ a3 (ne_kind f2 a3 M.mem inst_dict) (ne_kind f2 a3 a5 (tab_kind.1 _ _).symm)) m2 m1 (in_zip fun z hz => zip_in keep.trees z (hZm z hz)) (by rw [List.length_map]; have := N.sz; lia) fun q hq hb h9 => f4 q (a7 q hq hb) (fun e => hb (by rw [e]; exact .head _)) h9
          · rcases List.mem_cons.mp ha with rfl | ha
            · exact a1
            · rw [List.mem_singleton.mp ha]
              intro he
              obtain ⟨es', hd⟩ := dicts_mem.2 a6 _ he
              exact tab_kind.2.1 _ _ (f2 _ _ _ a5 hd)
          · rcases List.mem_cons.mp ha with rfl | ha
            · exact Y2_1 _ 4 (.inl M.mem)
            · rw [List.mem_singleton.mp ha]
              exact Y2_1 [] 0 (.inr (Y1_2 _ a5 tab_kind))
        · exact m4 q (s4 q (a7 q (J.keep q hq hb) fun he => hb (J.inn _ he))) (fun e => hb (J.inn _ (by rw [e]; exact .head _))) h9
end
section
section
variable {w : World} {c : Cx w} {n : Led} {l : Fm} {sc : Scope} {d u : Nat}
theorem walks_mono {prog : Program} {A : Around} {I : Addr} {fp wr : List Addr} {cnt : Nat} {Pt Pt' : Nat → Array Value → Prop} {St : Nat → Heap → Prop} {Mid : Nat → Addr → Heap → Prop} (W : WalksU prog w A I fp wr cnt Pt St Mid) (h : ∀ i vals, Pt i vals → Pt' i vals) : WalksU prog w A I fp wr cnt Pt' St Mid :=
  { sub := W.sub, frame := W.frame, item := fun i s Q E hi st hQ => W.item i s Q E hi st fun T vals h' tk hP hT hM hk => hQ T vals h' tk (h _ _ hP) hT hM hk, go := W.go, apart := W.apart, done := W.done, self := W.self }
theorem PSrc.of {I : Addr} {fp wr io : List Addr} {cnt : Nat} {Pt : Nat → Array Value → Prop} {St : Nat → Heap → Prop} {Mid : Nat → Addr → Heap → Prop} {h h' : Heap} {tk : Tok} {m : Str → Option Value} {hid : Led} {val : Nat → Value → Value → Prop} {Sk : Heap → Prop} {R : Led → Prop} (W : WalksU PR w c.A I fp wr cnt Pt St Mid) (hPt : ∀ i vals, Pt i vals → ∃ a b, val i a b ∧ vals = #[a, b])
    (hV : c.V l m hid) (F : Fr c.g c.L h m) (N : News c.g c.L h (hid ++ n)) (O : Off hid n) (h0 : R n) (hk : ∀ b o, h.get? b = some o → h'.get? b = some o) (hcnt : cnt ≤ sizeLine) (hwr : ∀ b ∈ wr, b ∈ io) (hio : ∀ b ∈ io, @LE.le Nat _ h.objs.size b ∧ @LT.lt Nat _ b h'.objs.size) (hfp : ∀ b ∈ fp, @LT.lt Nat _ b h'.objs.size) (hst : St 0 h')
    (h1 : ∀ i h, St i h → ∀ b ∈ io, ∃ o, h.get? b = some o) (h2 : ∀ i h h', St i h → (∀ b ∈ io, ∀ o, h.get? b = some o → h'.get? b = some o) → Sk h' → St i h') : wpAny (model PR w) c.A (pyIter (.ref I)) (PSrc c l cnt val Sk R) c.E { c.s with heap := h', toks := tk } :=
  W.self 0 { c.s with heap := h', toks := tk } _ _ hst (CSrc.of ⟨Mid, walks_mono W hPt⟩ hV F N O h0 hk hcnt hwr hio hfp hst h1 h2)
theorem mem5 {a b c d e x : Nat} : x ∈ [a, b, c, d, e] ↔ x = a ∨ x = b ∨ x = c ∨ x = d ∨ x = e := by simp
theorem At.srcZip {l1 l2 : Addr} {xs ys : List Value} {k1 k2 : Nat} {R : Led → Prop} (h1 : (l1, lstN xs k1) ∈ n) (h2 : (l2, lstN ys k2) ∈ n) (h0 : R n) (hz : xs.length ≤ 100000) :
    At c n l (call (.type "zip") [.ref l1, .ref l2]) fun xv s₁ => wpAny (model PR w) c.A (pyIter xv) (PSrc c l (min xs.length ys.length) (fun i a b => xs[i]? = some a ∧ ys[i]? = some b) (fun h => h.IsList l1 xs.toArray ∧ h.IsList l2 ys.toArray) R) c.E s₁ := fun h tk H => by
  obtain ⟨m, hid, hV, F, N, O⟩ := H
  have n1 := N _ (List.mem_append_right _ h1)
  have n2 := N _ (List.mem_append_right _ h2)
  have lt1 := Heap.lt_size n1.1
  have lt2 := Heap.lt_size n2.1
  have i1 := News.isList N (List.mem_append_right _ h1)
  have i2 := News.isList N (List.mem_append_right _ h2)
  have D := ktu_apart h.objs.size l1 l2 lt1 lt2
  have W := (WalksT.zip2 (prog := PR) (w := w) (A := c.A) rfl _ _ _ _ _ _ _ D xs.toArray ys.toArray).toU
  have small : ∀ k : Nat, k < 5 → @LE.le Nat _ h.objs.size (h.objs.size + k) ∧ @LT.lt Nat _ (h.objs.size + k) (h.objs.size + 5) := fun k hk => ⟨Nat.le_add_right _ _, Nat.add_lt_add_left hk _⟩
  refine call_zip_2 i1 i2 fun h' hz' hTI hTO hi1 hi2 hsz hk => ?_
  refine PSrc.of (io := [h.objs.size + 4, h.objs.size + 2, h.objs.size + 3, h.objs.size, h.objs.size + 1]) W ?_ hV F N O h0 hk ?_ ?_ ?_ ?_ (Y0_7 hz' hTI (Y2_1 _ _ hTO) hi1 hi2 (i1.at fun o e => hk _ o e) (i2.at fun o e => hk _ o e)) ?_ ?_
  · rintro i vals zz; refine X2_3 zz ?_; clear zz; rintro x y hx hy rfl
    exact Y2_2 x y ⟨by simpa using hx, by simpa using hy⟩ rfl
  · show min xs.length ys.length ≤ sizeLine
    rw [sizeLine_eq]
    lia
  · intro b hb
    simp only [List.mem_cons, List.not_mem_nil, or_false] at hb ⊢
    rcases hb with rfl | rfl | rfl | rfl <;> simp
  · intro b hb
    rw [hsz]
    rcases mem5.mp hb with rfl | rfl | rfl | rfl | rfl
    · exact small 4 (by decide)
    · exact small 2 (by decide)
    · exact small 3 (by decide)
    · exact small 0 (by decide)
    · exact small 1 (by decide)
  · intro b hb
    rw [hsz]
    simp only [List.mem_cons, List.not_mem_nil, or_false] at hb
    rcases hb with rfl | rfl | rfl | rfl | rfl | rfl | rfl
    · exact (small 4 (by decide)).2
    · exact (small 2 (by decide)).2
    · exact (small 3 (by decide)).2
    · exact (small 0 (by decide)).2
    · exact (small 1 (by decide)).2
    · exact Nat.lt_of_lt_of_le lt1 (Nat.le_add_right _ _)
    · exact Nat.lt_of_lt_of_le lt2 (Nat.le_add_right _ _)
  · rintro i g zz; refine X0_7 zz ?_; clear zz; rintro a1 a2 ⟨_, _, a3⟩ zz; obtain ⟨o4, a4, _⟩ := zz; rintro zz; obtain ⟨o5, a5, _⟩ := zz; rintro _ _; rintro b hb
    rcases mem5.mp hb with rfl | rfl | rfl | rfl | rfl
    · exact ⟨_, a1⟩
    · exact ⟨_, a2⟩
    · exact ⟨_, a3⟩
    · exact ⟨_, a4⟩
    · exact ⟨_, a5⟩
  · rintro i g g' zz; refine X0_7 zz ?_; clear zz; rintro a1 a2 ⟨_, _, a3⟩ a4 a5 _ _; rintro hg ⟨s1, s2⟩
    exact Y0_7 (hg _ (by simp) _ a1) (hg _ (by simp) _ a2) (Y2_1 _ _ (hg _ (by simp) _ a3)) (a4.at fun o e => hg _ (by simp) o e) (a5.at fun o e => hg _ (by simp) o e) s1 s2
theorem At.srcEnum {l1 : Addr} {xs : List Value} {k1 : Nat} {R : Led → Prop} (h1 : (l1, lstN xs k1) ∈ n) (h0 : R n) (hz : xs.length ≤ 100000) :
    At c n l (call (.type "enumerate") [.ref l1]) fun xv s₁ => wpAny (model PR w) c.A (pyIter xv) (PSrc c l xs.length (fun i a b => IV i a ∧ xs[i]? = some b) (fun h => h.IsList l1 xs.toArray) R) c.E s₁ := fun h tk H => by
  obtain ⟨m, hid, hV, F, N, O⟩ := H
  have n1 := N _ (List.mem_append_right _ h1)
  have lt1 := Heap.lt_size n1.1
  have i1 := News.isList N (List.mem_append_right _ h1)
  have W := (WalksT.enumerate (prog := PR) (w := w) (A := c.A) rfl (h.objs.size + 1) h.objs.size l1 (Nat.succ_ne_self _) (ktu_ne 1 lt1) (Nat.ne_of_lt lt1) xs.toArray).toU
  have small : ∀ k : Nat, k < 2 → @LE.le Nat _ h.objs.size (h.objs.size + k) ∧ @LT.lt Nat _ (h.objs.size + k) (h.objs.size + 2) := fun k hk => ⟨Nat.le_add_right _ _, Nat.add_lt_add_left hk _⟩
  refine call_enumerate_list i1 fun h' hE hI hsz hk => ?_
  refine PSrc.of (io := [h.objs.size + 1, h.objs.size]) (cnt := xs.length) W ?_ hV F N O h0 hk ?_ ?_ ?_ ?_ (Y0_3 ⟨.none, hE⟩ hI (i1.at fun o e => hk _ o e)) ?_ ?_
  · rintro i vals zz; refine X2_2 zz ?_; clear zz; rintro t x hx rfl
    exact Y2_2 _ x ⟨⟨t, rfl⟩, by simpa using hx⟩ rfl
  · rw [sizeLine_eq]; lia
  · exact fun b hb => hb
  · intro b hb
    rw [hsz]
    simp only [List.mem_cons, List.not_mem_nil, or_false] at hb
    rcases hb with rfl | rfl
    · exact small 1 (by decide)
    · exact small 0 (by decide)
  · intro b hb
    rw [hsz]
    simp only [List.mem_cons, List.not_mem_nil, or_false] at hb
    rcases hb with rfl | rfl | rfl
    · exact (small 1 (by decide)).2
    · exact (small 0 (by decide)).2
    · exact Nat.lt_of_lt_of_le lt1 (Nat.le_add_right _ _)
  · rintro i g zz; refine X0_3 zz ?_; clear zz; rintro ⟨_, a1⟩ zz; obtain ⟨o2, a2, _⟩ := zz; rintro _; rintro b hb
    simp only [List.mem_cons, List.not_mem_nil, or_false] at hb
    rcases hb with rfl | rfl
    · exact ⟨_, a1⟩
    · exact ⟨_, a2⟩
  · rintro i g g' zz; refine X0_3 zz ?_; clear zz; rintro ⟨_, a1⟩ a2 _; rintro hg s1
    exact Y0_3 ⟨_, hg _ (by simp) _ a1⟩ (a2.at fun o e => hg _ (by simp) o e) s1
theorem At.srcEx {α : Type} {t : Sem Value} {cnt : Nat} {val : α → Nat → Value → Value → Prop} {Sk : α → Heap → Prop} {R : α → Led → Prop} (z : α) (h : At c n l t fun xv s₁ => wpAny (model PR w) c.A (pyIter xv) (PSrc c l cnt (val z) (Sk z) (R z)) c.E s₁) :
    At c n l t fun xv s₁ => wpAny (model PR w) c.A (pyIter xv) (fun itv s₂ => ∃ z, PSrc c l cnt (val z) (Sk z) (R z) itv s₂) c.E s₁ := h.mono fun _ _ h => wpAny_mono h (fun _ _ h => ⟨z, h⟩) fun _ _ x => x
theorem pick_from1 (vs : List Value) : kms_pick vs (some 1) none = vs.drop 1 := by
  unfold kms_pick kms_lo kms_hi
  cases vs <;> simp
end
end
section
section
open Builtin
theorem slot_bytes_ge : Slot "bytes" "__ge__" "bytes.__ge__" :=
  .of (owner := "bytes") (n := "__ge__") (by rw [typeLookup_type, builtinLookup_eq_fast]; kernel_rfl) (by decide +kernel) (by decide +kernel) (by decide +kernel)
    (by first | exact .inl (by decide +kernel) | exact .inr (by decide +kernel)) (by rw [isSubtype_type]; kernel_rfl)
theorem entry_bytes_ge : entryFor table "bytes.__ge__" = some Builtin.«bytes.__ge__» := entryFor_of_tree (by kernel_rfl)
theorem args_bytes_ge (a b : Value) : argsOk "bytes.__ge__" ⟨[a, b], []⟩ := by
  unfold argsOk; rw [signature?_of (id := "bytes.__ge__") (n := ['_', '_', 'e', 'g', '_', '_']) (o := ['s', 'e', 't', 'y', 'b']) (by kernel_rfl) FB.owner_bytes]; kernel_rfl
theorem gives_bytes_ge (b c : Array UInt8) (t u : Tok) : Gives (Builtin.«bytes.__ge__» ⟨[.bytes b t, .bytes c u], []⟩) (.val (.bool (Bytes.order b.toList c.toList != .lt))) := by
  refine .of_wp fun M A E s Q hq => ?_
  show wpAny M A (isInstance (.bytes c u) (.type "bytes") >>= fun r => _) _ E s
  refine wpAny_bind (wpAny_isInstance (typeIs_bytes s c u) F.sub_bytes_bytes ?_)
  exact wpAny_pure (Y1_2 _ rfl hq)
end
theorem ge_bytes {prog : Program} {w : World} {A : Around} {E : Value → Shared → Prop} {s : Shared} {x y : Bs} {t u : Tok} {Q : Value → Shared → Prop} (hlt : x.map (·.toNat) < y.map (·.toNat)) (h : Q (.bool false) s) : wpAny (model prog w) A (richCompare .GtE (.bytes x.toArray t) (.bytes y.toArray u)) Q E s := by
  refine richCompare_gives (op := .GtE) (typeIs_bytes s _ t) (typeIs_bytes s _ u) slot_bytes_ge entry_bytes_ge (args_bytes_ge _ _) (gives_bytes_ge _ _ t u) (fun e => nomatch e) ?_
  have e := order_lt x y
  rw [decide_eq_true hlt] at e
  show Q (.bool (Builtin.Bytes.order x y != .lt)) s
  rw [bne, e]
  exact h
theorem ge_tree {prog : Program} {w : World} {A : Around} {E : Value → Shared → Prop} {s : Shared} {X Y : Addr} {x y : Bs} {t1 t2 t3 t4 : Tok} {P : PySem.Fin → Shared → Prop} (hX : s.heap.get? X = some (tup [.int x.length t1, .bytes x.toArray t2])) (hY : s.heap.get? Y = some (tup [.int y.length t3, .bytes y.toArray t4]))
    (h : KLt x y) (q : P (.done (.ret (.bool false))) s) : wpAny (model prog w) A (Builtin.«tuple.__ge__» ⟨[.ref X, .ref Y], []⟩) P E s := by
  show wpAny _ _ (isInstance (.ref Y) (.type "tuple") >>= _) _ _ s
  refine wpAny_bind (wpAny_isInstance (T := "tuple") (Y1_2 _ hY rfl) isSubtype_tuple_tuple ?_)
  simp only [Bool.not_true, Bool.false_eq_true, if_false]
  refine wpAny_bind (wpAny_tupleItemsOf hX rfl ?_)
  refine wpAny_bind (wpAny_tupleItemsOf hY rfl ?_)
  refine wpAny_bind ?_
  rw [List.toList_toArray, List.toList_toArray, List.zip_cons_cons, List.zip_cons_cons, List.zip_nil_left, List.forIn_cons]
  refine wpAny_bind (wpAny_bind (wpAny_eqBool_int ?_))
  rcases h with h | ⟨h1, h2⟩
  · rw [show ((x.length : Int) == (y.length : Int)) = false by simp; lia]
    simp only [Bool.not_false, if_true]
    refine wpAny_bind (wpAny_rule (wpAny_bind (PySem.P.ge_int (E := E) ?_)))
    rw [show decide ((x.length : Int) ≥ (y.length : Int)) = false by simp; omega]
    exact wpAny_bind (wpAny_pure (wpAny_pure (wpAny_pure (wpAny_pure q))))
  · rw [show ((x.length : Int) == (y.length : Int)) = true by simp; lia]
    simp only [Bool.not_true, Bool.false_eq_true, if_false]
    refine wpAny_pure ?_
    dsimp only
    rw [List.forIn_cons]
    refine wpAny_bind (wpAny_bind (eqBool_bytes ?_))
    have ne : ¬ x = y := fun e => by subst e; exact List.lt_irrefl _ h2
    rw [show decide (x.toArray.toList = y.toArray.toList) = false by simpa using ne]
    simp only [Bool.not_false, if_true]
    refine wpAny_bind (wpAny_rule (wpAny_bind (ge_bytes h2 ?_)))
    exact wpAny_bind (wpAny_pure (wpAny_pure (wpAny_pure (wpAny_pure q))))
theorem Cmp.keys {w : World} {c : Cx w} {n : Led} {l : Fm} {e1 e2 : PySem.Expr} {pos : Pos} {X Y : Addr} {x y : Bs} {t1 t2 t3 t4 : Tok} (h1 : EvP c n l e1 (.ref X)) (h2 : EvP c n l e2 (.ref Y)) (hX : (X, tup [.int x.length t1, .bytes x.toArray t2]) ∈ n) (hY : (Y, tup [.int y.length t3, .bytes y.toArray t4]) ∈ n) (hk : KLt x y) (hu : c.un < cLine)
    (hm : behindInMarks .GtE e2 = false := by with_unfolding_all rfl) : Tst c n l (.Compare e1 [.GtE] [e2] pos) False := fun Q _ k2 h tk H => by
  refine wpAny_isTrue_Compare1 (h1 _ (fun h tk H => h2 _ (fun h tk H => ?_) h tk H) h tk H) hm
  show wpAny _ _ (richCompare .GtE _ _) _ _ _
  refine wpAny_richCompare_same_or (T := "tuple") (Y1_2 _ (H.get hX) rfl) (Y1_2 _ (H.get hY) rfl) F.slot_tuple_ge (wpAny_call_entry F.slot_tuple_ge (Y1_2 _ (H.get hX) rfl) F.entry_tuple_ge (ge_tree (H.get hX) (H.get hY) hk (Y1_3 _ rfl (fun e => (nomatch e)) (wpAny_truthy_bool (k2 (fun e => e) h tk H)))) (F.args_tuple_ge_2 _ _)) (.inr hu)
end
section
section
open PySem
variable {prog : Program} {w : World} {A : Around} {E : Value → Shared → Prop} {s : Shared}
noncomputable abbrev IsZip2 (h : Heap) (z TI TO T : Addr) (b : Bool) : Prop :=
  h.get? z = some { cls := .type "zip", dict := none, data := .fields #[rawInt T, .bool b, .bool false, .ref TI, .ref TO], slots := #[] }
theorem wpAny_loadIfAlive {M : Model} {A : Around} {E : Value → Shared → Prop} {s : Shared} {a : Addr} {o : Obj} {Q : Option Obj → Shared → Prop} (ho : s.heap.get? a = some o) (h : Q (some o) s) : wpAny M A (loadIfAlive a) Q E s := fun Γ p _ => by
  show Sem.wp M Γ (loadIfAlive a) _ _ p s
  unfold loadIfAlive
  rw [Sem.wp_loadIfAlive, ho]
  exact h
theorem owned_no {z TI TO T : Addr} {b : Bool} {oT : Obj} {Q : Bool → Shared → Prop} (hz : IsZip2 s.heap z TI TO T b) (hT : s.heap.get? T = some oT)
    (hQ : ∀ h', IsZip2 h' z TI TO T true → Heap.SameBut z s.heap h' → Q false { s with heap := h' }) : wpAny (model prog w) A (Builtin.SmallTypes.ownedTupleIsFree (.ref z)) Q E s := by
  unfold Builtin.SmallTypes.ownedTupleIsFree
  refine wpAny_bind (wpAny_field hz rfl (x := rawInt T) rfl ?_)
  show wpAny _ _ (loadIfAlive T >>= _) _ _ _
  refine wpAny_bind (wpAny_loadIfAlive hT ?_)
  show wpAny _ _ (field (.ref z) 1 >>= _) _ _ _
  refine wpAny_bind (wpAny_field hz rfl (x := .bool b) rfl ?_)
  cases b with
  | false =>
    show wpAny _ _ (setField (.ref z) 1 (.bool true) >>= _) _ _ _
    refine wpAny_bind (wpAny_setField_rec hz (by simp) fun h₁ hz₁ hs₁ => wpAny_pure (hQ h₁ hz₁ hs₁))
  | true =>
    exact wpAny_pure (hQ s.heap hz ⟨rfl, fun _ _ => rfl⟩)
theorem zip_next_item2 {z TI TO T i1 i2 l1 l2 : Addr} {b : Bool} {oT : Obj} {k1 k2 : Nat} {xs ys : Array Value} {x y : Value} {Q : Value → Shared → Prop} (D : ZipApart z TI TO i1 i2 l1 l2)
    (hz : IsZip2 s.heap z TI TO T b) (hT : s.heap.get? T = some oT) (hTI : IsPair s.heap TI (.ref i1) (.ref i2))
    (h1 : s.heap.IsListIter i1 l1 k1) (h2 : s.heap.IsListIter i2 l2 k2) (hl1 : s.heap.IsList l1 xs) (hl2 : s.heap.IsList l2 ys) (hx : xs[k1]? = some x) (hy : ys[k2]? = some y)
    (hQ : ∀ h', IsZip2 h' z TI TO T true → h'.IsListIter i1 l1 (k1 + 1) → h'.IsListIter i2 l2 (k2 + 1) → IsPair h' s.heap.objs.size x y → h'.objs.size = s.heap.objs.size + 1 →
      (∀ c o, c ≠ z → c ≠ i1 → c ≠ i2 → s.heap.get? c = some o → h'.get? c = some o) → Q (.ref s.heap.objs.size) { s with heap := h' }) :
    wpAny (model prog w) A (Builtin.«zip.__next__» ⟨[.ref z], []⟩) (fun fin s' => ∃ v, fin = .done (.ret v) ∧ Q v s') E s := by
  show wpAny _ _ (field (.ref z) 2 >>= _) _ _ _
  refine wpAny_bind (wpAny_field hz rfl (x := .bool false) rfl ?_)
  show wpAny _ _ (field (.ref z) 3 >>= _) _ _ _
  refine wpAny_bind (wpAny_field hz rfl (x := .ref TI) rfl ?_)
  refine wpAny_bind (wpAny_seqItems hTI rfl ?_)
  show wpAny _ _ (Builtin.SmallTypes.ownedTupleIsFree (.ref z) >>= _) _ _ _
  refine wpAny_bind (owned_no hz hT fun h₁ hz₁ hs₁ => ?_)
  simp only [Bool.false_eq_true, if_false]
  refine wpAny_bind ?_
  simp only [← Array.forIn_toList, List.forIn_cons, List.forIn_nil]
  refine wpAny_bind (wpAny_bind (wpAny_holding ?_))
  show wpAny _ _ (Builtin.SmallTypes.nextOf (.ref i1) >>= _) _ _ _
  refine wpAny_bind (wpAny_nextOf_list_item (h1.extBut hs₁.extBut D.i1z) (hl1.extBut hs₁.extBut D.l1z) hx fun h₂ h1₂ hs₂ => wpAny_pure ?_)
  refine wpAny_pure ?_
  refine wpAny_bind (wpAny_bind (wpAny_holding ?_))
  show wpAny _ _ (Builtin.SmallTypes.nextOf (.ref i2) >>= _) _ _ _
  refine wpAny_bind (wpAny_nextOf_list_item ((h2.extBut hs₁.extBut D.i2z).extBut hs₂.extBut D.i12.symm) ((hl2.extBut hs₁.extBut D.l2z).extBut hs₂.extBut D.l2i1) hy fun h₃ h2₃ hs₃ => wpAny_pure ?_)
  refine wpAny_pure (wpAny_pure ?_)
  have hsz : h₃.objs.size = s.heap.objs.size := by rw [hs₃.1, hs₂.1, hs₁.1]
  have hz₃ : IsZip2 h₃ z TI TO T true := hs₃.extBut _ _ D.i2z.symm (hs₂.extBut _ _ D.i1z.symm hz₁)
  have hk₃ : ∀ c o, c ≠ z → c ≠ i1 → c ≠ i2 → s.heap.get? c = some o → h₃.get? c = some o := fun c o c1 c3 c4 e =>
    hs₃.extBut _ _ c4 (hs₂.extBut _ _ c3 (hs₁.extBut _ _ c1 e))
  refine wpAny_bind (wpAny_newTuple (hsz := by exact Nat.le_of_ble_eq_true rfl) ?_)
  refine wpAny_pure (Y1_2 _ rfl ?_)
  show Q (.ref h₃.objs.size) _
  have hT' : IsPair (h₃.push { cls := .type "tuple", data := .seq #[x, y] }) h₃.objs.size x y := Heap.get?_push_size _ rfl
  rw [hsz] at hT' ⊢
  exact hQ (h₃.push { cls := .type "tuple", data := .seq #[x, y] }) (Heap.get?_push_of_some _ hz₃) ((h1₂.extBut hs₃.extBut D.i12).at fun o e => Heap.get?_push_of_some _ e) (h2₃.at fun o e => Heap.get?_push_of_some _ e) hT' (by rw [Heap.size_push, hsz]) fun c o c1 c2 c3 e => Heap.get?_push_of_some _ (hk₃ c o c1 c2 c3 e)
theorem zip_next_end2 {z TI TO T i1 i2 l1 l2 : Addr} {b : Bool} {oT : Obj} {k1 : Nat} {xs : Array Value} {Q : Fin → Shared → Prop} (hh : A.handled = none) (D : ZipApart z TI TO i1 i2 l1 l2)
    (hz : IsZip2 s.heap z TI TO T b) (hT : s.heap.get? T = some oT) (hTI : IsPair s.heap TI (.ref i1) (.ref i2))
    (h1 : s.heap.IsListIter i1 l1 k1) (hl1 : s.heap.IsList l1 xs) (hend : xs[k1]? = none)
    (hE : ∀ h' e, (∀ c o, c ≠ z → c ≠ i1 → s.heap.get? c = some o → h'.get? c = some o) → (∃ o, h'.get? e = some o ∧ o.cls = .type "StopIteration") → E (.ref e) { s with heap := h' }) :
    wpAny (model prog w) A (Builtin.«zip.__next__» ⟨[.ref z], []⟩) Q E s := by
  show wpAny _ _ (field (.ref z) 2 >>= _) _ _ _
  refine wpAny_bind (wpAny_field hz rfl (x := .bool false) rfl ?_)
  show wpAny _ _ (field (.ref z) 3 >>= _) _ _ _
  refine wpAny_bind (wpAny_field hz rfl (x := .ref TI) rfl ?_)
  refine wpAny_bind (wpAny_seqItems hTI rfl ?_)
  show wpAny _ _ (Builtin.SmallTypes.ownedTupleIsFree (.ref z) >>= _) _ _ _
  refine wpAny_bind (owned_no hz hT fun h₁ hz₁ hs₁ => ?_)
  simp only [Bool.false_eq_true, if_false]
  refine wpAny_bind ?_
  simp only [← Array.forIn_toList, List.forIn_cons, List.forIn_nil]
  refine wpAny_bind (wpAny_bind (wpAny_holding ?_))
  show wpAny _ _ (Builtin.SmallTypes.nextOf (.ref i1) >>= _) _ _ _
  refine wpAny_bind (wpAny_nextOf_list_end hh (h1.extBut hs₁.extBut D.i1z) (hl1.extBut hs₁.extBut D.l1z) hend fun h₂ e hs₂ he => ?_)
  exact hE h₂ e (fun c o c1 c3 x => hs₂ _ _ c3 (hs₁.extBut _ _ c1 x)) he
structure ZSt (h : Heap) (z TI TO i1 i2 l1 l2 : Addr) (xs ys : Array Value) (i : Nat) : Prop where
  hI : IsPair h TI (.ref i1) (.ref i2)
  hO : ∃ a b, IsPair h TO a b
  j1 : h.IsListIter i1 l1 i
  j2 : h.IsListIter i2 l2 i
  k1 : h.IsList l1 xs
  k2 : h.IsList l2 ys
  hz : IsZip h z TI TO .none ∨ ∃ T b oT, IsZip2 h z TI TO T b ∧ h.get? T = some oT ∧ T ≠ z ∧ T ≠ TO ∧ T ≠ i1 ∧ T ≠ i2
theorem ZSt.frame {h h' : Heap} {z TI TO i1 i2 l1 l2 : Addr} {xs ys : Array Value} {i : Nat} {S : Addr} (x : ZSt h z TI TO i1 i2 l1 l2 xs ys i) (hS : S ≠ z ∧ S ≠ TI ∧ S ≠ TO ∧ S ≠ i1 ∧ S ≠ i2 ∧ S ≠ l1 ∧ S ≠ l2) (oS : Obj) (hk : ∀ c o, c ≠ S → h.get? c = some o → h'.get? c = some o) (hSo : h'.get? S = some oS) : ZSt h' z TI TO i1 i2 l1 l2 xs ys i := by
  refine X0_7 hS ?_; clear hS; rintro a b c d e f g1
  have a := Ne.symm a; have b := Ne.symm b; have c := Ne.symm c; have d := Ne.symm d; have e := Ne.symm e; have f := Ne.symm f; have g1 := Ne.symm g1
  refine X2_1 x.hO fun u v hTO => ?_
  refine ⟨hk _ _ b x.hI, Y2_1 u v (hk _ _ c hTO), x.j1.at fun o q => hk _ _ d q, x.j2.at fun o q => hk _ _ e q, x.k1.at fun o q => hk _ _ f q, x.k2.at fun o q => hk _ _ g1 q, ?_⟩
  rcases x.hz with hz | ⟨T, bb, oT, hz, hT, n1, n2, n3, n4⟩
  · exact .inl (hk _ _ a hz)
  · by_cases hTS : T = S
    · subst hTS
      exact .inr (Y3_6 T bb oS (hk _ _ a hz) hSo n1 n2 n3 n4)
    · exact .inr (Y3_6 T bb oT (hk _ _ a hz) (hk _ _ hTS hT) n1 n2 n3 n4)
theorem zst_item {z TI TO i1 i2 l1 l2 : Addr} {i : Nat} {xs ys : Array Value} {x y : Value} {Q : Option Value → Shared → Prop} (D : ZipApart z TI TO i1 i2 l1 l2) (Z : ZSt s.heap z TI TO i1 i2 l1 l2 xs ys i) (hx : xs[i]? = some x) (hy : ys[i]? = some y)
    (hQ : ∀ h', ZSt h' z TI TO i1 i2 l1 l2 xs ys (i + 1) → IsPair h' s.heap.objs.size x y → h'.objs.size = s.heap.objs.size + 1 → (∀ c o, c ≠ z → c ≠ TO → c ≠ i1 → c ≠ i2 → s.heap.get? c = some o → h'.get? c = some o) → Q (some (.ref s.heap.objs.size)) { s with heap := h' }) :
    wpAny (model prog w) A (pyNext (.ref z)) Q E s := by
  refine X2_1 Z.hO fun u v hTO => ?_
  have lz : z < s.heap.objs.size := by
    rcases Z.hz with hz | ⟨T, bb, oT, hz, _⟩
    · exact Heap.lt_size hz
    · exact Heap.lt_size hz
  have lTO : TO < s.heap.objs.size := Heap.lt_size hTO
  have li1 : i1 < s.heap.objs.size := by refine X1_2 Z.j1 fun _ e _ => ?_; exact Heap.lt_size e
  have li2 : i2 < s.heap.objs.size := by refine X1_2 Z.j2 fun _ e _ => ?_; exact Heap.lt_size e
  rcases Z.hz with hz | ⟨T, bb, oT, hz, hT, n1, n2, n3, n4⟩
  · refine wpAny_pyNext_zip_item D hz Z.hI hTO Z.j1 Z.j2 Z.k1 Z.k2 hx hy fun h' a1 a2 a3 a4 a5 a6 a7 => hQ h' ⟨a7 _ _ D.TIz D.TITO D.TIi1 D.TIi2 Z.hI, Y2_1 _ _ a2, a3, a4, Z.k1.at fun o q => a7 _ _ D.l1z D.l1TO D.l1i1 D.l1i2 q, Z.k2.at fun o q => a7 _ _ D.l2z D.l2TO D.l2i1 D.l2i2 q, .inr (Y3_6 _ _ _ a1 a5 ?_ ?_ ?_ ?_)⟩ a5 a6 a7
    · exact Nat.ne_of_gt lz
    · exact Nat.ne_of_gt lTO
    · exact Nat.ne_of_gt li1
    · exact Nat.ne_of_gt li2
  · have hTy : s.TypeIs (.ref z) "zip" := Y1_2 _ hz rfl
    unfold pyNext
    exact wpAny_bind (wpAny_attempt (wpAny_callSpecial?_slot (name := Str.ofString "__next__") hTy F.slot_zip_next
      (wpAny_call_entry F.slot_zip_next hTy F.entry_zip_next
        (zip_next_item2 D hz hT Z.hI Z.j1 Z.j2 Z.k1 Z.k2 hx hy fun h' a1 a3 a4 a5 a6 a7 => wpAny_pure (hQ h' ⟨a7 _ _ D.TIz D.TIi1 D.TIi2 Z.hI, Y2_1 u v (a7 _ _ D.TOz D.TOi1 D.TOi2 hTO), a3, a4, Z.k1.at fun o q => a7 _ _ D.l1z D.l1i1 D.l1i2 q, Z.k2.at fun o q => a7 _ _ D.l2z D.l2i1 D.l2i2 q, .inr (Y3_6 T _ oT a1 (a7 _ _ n1 n3 n4 hT) n1 n2 n3 n4)⟩ a5 a6 fun c o c1 _ c3 c4 e => a7 c o c1 c3 c4 e)) (F.args_zip_next_1 _))))
theorem zst_end {z TI TO i1 i2 l1 l2 : Addr} {i : Nat} {xs ys : Array Value} {Q : Option Value → Shared → Prop} (hh : A.handled = none) (D : ZipApart z TI TO i1 i2 l1 l2) (Z : ZSt s.heap z TI TO i1 i2 l1 l2 xs ys i) (hx : xs[i]? = none)
    (hQ : ∀ h', (∀ c o, c ≠ z → c ≠ TO → c ≠ i1 → c ≠ i2 → s.heap.get? c = some o → h'.get? c = some o) → Q none { s with heap := h' }) : wpAny (model prog w) A (pyNext (.ref z)) Q E s := by
  refine X2_1 Z.hO fun u v hTO => ?_
  rcases Z.hz with hz | ⟨T, bb, oT, hz, hT, n1, n2, n3, n4⟩
  · exact wpAny_pyNext_zip_end hh D hz Z.hI hTO Z.j1 Z.j2 Z.k1 Z.k2 (.inl hx) hQ
  · have hTy : s.TypeIs (.ref z) "zip" := Y1_2 _ hz rfl
    unfold pyNext
    refine wpAny_bind (wpAny_attempt (wpAny_callSpecial?_slot (name := Str.ofString "__next__") hTy F.slot_zip_next
      (wpAny_call_entry F.slot_zip_next hTy F.entry_zip_next (zip_next_end2 hh D hz hT Z.hI Z.j1 Z.k1 hx fun h' e hk he => ?_) (F.args_zip_next_1 _))))
    refine X1_2 he ?_; clear he; rintro o ho hc
    refine wpAny_bind (wpAny_isInstance (T := "StopIteration") (b := true) (Y1_2 o ho hc) isSubtype_stop ?_)
    exact wpAny_pure (hQ _ fun c o c1 _ c3 _ x => hk c o c1 c3 x)
theorem zip_no_len : typeLookup (.type "zip") "__len__" = pure none := by rw [typeLookup_type, builtinLookup_eq_fast]; kernel_rfl
theorem zip_no_hint : typeLookup (.type "zip") "__length_hint__" = pure none := by rw [typeLookup_type, builtinLookup_eq_fast]; kernel_rfl
noncomputable def Prs (T : Led) (xs ys : List Value) : Prop := T.length = xs.length ∧ ∀ (j : Nat) (p : Addr × Obj), T[j]? = some p → ∃ x y, xs[j]? = some x ∧ ys[j]? = some y ∧ p.2 = tup [x, y]
noncomputable abbrev refs (T : Led) : List Value := T.map fun p => .ref p.1
theorem push_lst (vs : List Value) (v : Value) (k : Nat) : ∃ k', Obj.mapSeq (·.push v) (lstN vs k) = lstN (vs ++ [v]) k' := by
  refine ⟨k + 1, ?_⟩
  unfold Obj.mapSeq
  simp
theorem ext_loop {S z TI TO i1 i2 l1 l2 : Addr} {xs ys : List Value} {items : List Value} {R : Result → Shared → Prop} (hh : A.handled = none) (D : ZipApart z TI TO i1 i2 l1 l2) (hS : S ≠ z ∧ S ≠ TI ∧ S ≠ TO ∧ S ≠ i1 ∧ S ≠ i2 ∧ S ≠ l1 ∧ S ≠ l2) (hlen : xs.length = ys.length) (hsz : items.length + xs.length ≤ 200000) (b0 : Nat) :
    ∀ (k i : Nat) (s : Shared) (T : Led) (cc : Nat), xs.length - i = k → i ≤ xs.length → T.length = i → ZSt s.heap z TI TO i1 i2 l1 l2 xs.toArray ys.toArray i → s.heap.get? S = some (lstN (items ++ refs T) cc) →
    (∀ (j : Nat) (p : Addr × Obj), T[j]? = some p → ∃ x y, xs[j]? = some x ∧ ys[j]? = some y ∧ p.2 = tup [x, y]) → (∀ p ∈ T, s.heap.get? p.1 = some p.2 ∧ p.1 ≠ S ∧ p.1 ≠ z ∧ p.1 ≠ TO ∧ p.1 ≠ i1 ∧ p.1 ≠ i2 ∧ @LE.le Nat _ b0 p.1) → @LE.le Nat _ b0 s.heap.objs.size →
    (∀ h' T cc, Prs T xs ys → h'.get? S = some (lstN (items ++ refs T) cc) → (∀ p ∈ T, h'.get? p.1 = some p.2 ∧ p.1 ≠ S ∧ @LE.le Nat _ b0 p.1) → (∀ c o, c ≠ S → c ≠ z → c ≠ TO → c ≠ i1 → c ≠ i2 → s.heap.get? c = some o → h'.get? c = some o) → R (.ok (.ret .none)) { s with heap := h' }) →
    codeAny (model prog w) A (.builtin "list.extend.loop" ⟨[.ref S, .ref z, .none], []⟩) R s := by
  intro k
  induction k with
  | zero =>
    intro i s T cc hk hi hT Z hSo hp hTs hb hR
    have hin : i = xs.length := by lia
    subst hin
    refine codeAny_builtin F.entry_extend_loop ?_
    rw [Around.under_plainId F.plain_extend_loop _]
    show wpAny _ A.in1 (pyNext (.ref z) >>= _) _ _ s
    refine wpAny_bind (zst_end hh D Z (by simp) fun h' hk' => ?_)
    exact wpAny_pure (hR h' T cc ⟨hT, hp⟩ (hk' _ _ hS.1 hS.2.2.1 hS.2.2.2.1 hS.2.2.2.2.1 hSo) (fun p hp => Y0_3 (hk' _ _ (hTs p hp).2.2.1 (hTs p hp).2.2.2.1 (hTs p hp).2.2.2.2.1 (hTs p hp).2.2.2.2.2.1 (hTs p hp).1) ((hTs p hp).2.1) ((hTs p hp).2.2.2.2.2.2)) fun c o _ c1 c2 c3 c4 e => hk' c o c1 c2 c3 c4 e)
  | succ k ih =>
    intro i s T cc hk hi hT Z hSo hp hTs hb hR
    have hlt : i < xs.length := by lia
    obtain ⟨x, hx⟩ : ∃ x, xs[i]? = some x := ⟨_, List.getElem?_eq_getElem hlt⟩
    obtain ⟨y, hy⟩ : ∃ y, ys[i]? = some y := ⟨_, List.getElem?_eq_getElem (hlen ▸ hlt)⟩
    refine codeAny_builtin F.entry_extend_loop ?_
    rw [Around.under_plainId F.plain_extend_loop _]
    show wpAny _ A.in1 (pyNext (.ref z) >>= _) _ _ s
    have lS := Heap.lt_size hSo
    have lz : z < s.heap.objs.size := by
      rcases Z.hz with hz | ⟨T, bb, oT, hz, _⟩
      · exact Heap.lt_size hz
      · exact Heap.lt_size hz
    have lTO : TO < s.heap.objs.size := by refine X2_1 Z.hO fun u v hTO => ?_; exact Heap.lt_size hTO
    have li1 : i1 < s.heap.objs.size := by refine X1_2 Z.j1 fun _ e _ => ?_; exact Heap.lt_size e
    have li2 : i2 < s.heap.objs.size := by refine X1_2 Z.j2 fun _ e _ => ?_; exact Heap.lt_size e
    refine wpAny_bind (zst_item D Z (x := x) (y := y) (by simpa using hx) (by simpa using hy) fun h' Z' hP hsz' hk' => ?_)
    have hS' := hk' _ _ hS.1 hS.2.2.1 hS.2.2.2.1 hS.2.2.2.2.1 hSo
    show wpAny _ A.in1 (updateSeq S (·.push (.ref s.heap.objs.size)) >>= _) _ _ _
    refine wpAny_bind ?_
    have hlT : (items ++ refs T).length ≤ sizeLine := by rw [List.length_append, List.length_map, sizeLine_eq]; lia
    refine wpAny_updateSeq hS' rfl (wpAny_pure ⟨plainId_quiet F.plain_extend_loop _, ?_⟩) (by rw [List.size_toArray]; exact hlT) (by rw [Array.size_push, List.size_toArray]; exact Nat.succ_le_succ hlT)
    have oth : ∀ c o, c ≠ S → h'.get? c = some o → (h'.update S (Obj.mapSeq (·.push (.ref s.heap.objs.size)))).get? c = some o := fun c o hc e => (Heap.get?_update_other _ _ (Ne.symm hc)).trans e
    have hS₂ := Heap.get?_update_self (Obj.mapSeq (·.push (Value.ref s.heap.objs.size))) hS' rfl
    obtain ⟨c2, hc2⟩ := push_lst (items ++ refs T) (.ref s.heap.objs.size) cc
    rw [hc2, List.append_assoc, show refs T ++ [Value.ref s.heap.objs.size] = refs (T ++ [(s.heap.objs.size, tup [x, y])]) by simp] at hS₂
    refine ih (i + 1) _ (T ++ [(s.heap.objs.size, tup [x, y])]) c2 (by lia) hlt (by simp [hT]) (Z'.frame hS _ oth hS₂) hS₂ ?_ ?_ ?_ ?_
    · intro j p hj
      rw [List.getElem?_append] at hj
      split at hj
      · exact hp j p hj
      · rename_i h1
        have : j = i := by
          rcases Nat.lt_or_ge (j - T.length) 1 with q | q
          · lia
          · rw [List.getElem?_eq_none (by simpa using q)] at hj; cases hj
        subst this
        rw [hT, Nat.sub_self] at hj
        cases hj
        exact Y2_3 x y hx hy rfl
    · intro p hp'
      rcases List.mem_append.mp hp' with hp' | hp'
      · have q := hTs p hp'
        exact ⟨oth _ _ q.2.1 (hk' _ _ q.2.2.1 q.2.2.2.1 q.2.2.2.2.1 q.2.2.2.2.2.1 q.1), q.2⟩
      · rw [List.mem_singleton.mp hp']
        exact Y0_7 (oth _ _ (Nat.ne_of_gt lS) hP) (Nat.ne_of_gt lS) (Nat.ne_of_gt lz) (Nat.ne_of_gt lTO) (Nat.ne_of_gt li1) (Nat.ne_of_gt li2) hb
    · show @LE.le Nat _ b0 (h'.update S _).objs.size
      rw [Heap.size_update, hsz']
      exact Nat.le_succ_of_le hb
    · intro h'' T' cc' q1 q2 q3 q4
      exact hR h'' T' cc' q1 q2 q3 fun c o c0 c1 c2 c3 c4 e => q4 c o c0 c1 c2 c3 c4 (oth c o c0 (hk' c o c1 c2 c3 c4 e))
end
section
variable {w : World} {c : Cx w} {n : Led} {l : Fm} {Q : Value → Shared → Prop}
theorem At.extZip {S l1 l2 : Addr} {vs xs ys : List Value} {k k1 k2 : Nat} {pos : Pos} (hS : (S, lstN vs k) ∈ n) (h1 : (l1, lstN xs k1) ∈ n) (h2 : (l2, lstN ys k2) ∈ n) (n1 : @Ne Nat S l1) (n2 : @Ne Nat S l2) (hlen : xs.length = ys.length) (hz : vs.length ≤ 90000) (hz2 : xs.length ≤ 1000)
    (kk : ∀ T n' k', Prs T xs ys → Apart n T → (S, lstN (vs ++ refs T) k') ∈ n' → (∀ q ∈ n, @Ne Nat q.1 S → q ∈ n') → (∀ q ∈ T, q ∈ n') → Go c n' l Q .none) :
    At c n l (call (.type "zip") [.ref l1, .ref l2]) fun v s' => wpAny (model PR w) c.A (spliced (backTo pos (starEach [] c.env))) (fun vs => Cq c (.builtin "list.extend") [.ref S] Q (v :: vs)) c.E s' := fun h tk H => by
  have gX := H.X
  obtain ⟨m, hid, hV, F, N, O⟩ := H
  have a1 := N.isList (List.mem_append_right _ h1)
  have a2 := N.isList (List.mem_append_right _ h2)
  have g1 := Heap.lt_size (N _ (List.mem_append_right _ h1)).1
  have g2 := Heap.lt_size (N _ (List.mem_append_right _ h2)).1
  have gS := N _ (List.mem_append_right _ hS)
  have gSl := Heap.lt_size gS.1
  refine call_zip_2 a1 a2 fun h₁ hz₁ hTI hTO hi1 hi2 hsz hk => ?_
  refine spliced_nil ⟨fun a o e => hk _ _ (gX a o e), ?_⟩
  have Z : ZSt h₁ (h.objs.size + 4) (h.objs.size + 2) (h.objs.size + 3) h.objs.size (h.objs.size + 1) l1 l2 xs.toArray ys.toArray 0 := ⟨hTI, Y2_1 _ _ hTO, hi1, hi2, a1.at fun o e => hk _ _ e, a2.at fun o e => hk _ _ e, .inl hz₁⟩
  have D : ZipApart (h.objs.size + 4) (h.objs.size + 2) (h.objs.size + 3) h.objs.size (h.objs.size + 1) l1 l2 := ktu_apart _ _ _ g1 g2
  have hn : ∀ j, S ≠ h.objs.size + j := fun j => Nat.ne_of_lt (Nat.lt_of_lt_of_le gSl (Nat.le_add_right _ j))
  have hSne : S ≠ h.objs.size + 4 ∧ S ≠ h.objs.size + 2 ∧ S ≠ h.objs.size + 3 ∧ S ≠ h.objs.size ∧ S ≠ h.objs.size + 1 ∧ S ≠ l1 ∧ S ≠ l2 := Y0_7 (hn 4) (hn 2) (hn 3) (hn 0) (hn 1) n1 n2
  have hS₁ := hk _ _ gS.1
  have hTy : Shared.TypeIs { c.s with heap := h₁, toks := tk } (.ref (h.objs.size + 4)) "zip" := Y1_2 _ hz₁ rfl
  show wpAny _ c.A (call (.builtin "list.extend") [.ref S, .ref (h.objs.size + 4)]) _ _ _
  refine wpAny_call (codeAny_call_builtin PySem.F.slot_list_extend.plain PySem.F.entry_list_extend (PySem.F.slot_list_extend.check _ _ _ _ _ _ _ _ (Y1_2 _ hS₁ rfl) (PySem.F.args_list_extend_2 _ _) ?_))
  show wpAny _ c.A.in1 (Builtin.List.listExtendWith (.ref S) (.ref (h.objs.size + 4)) .none) _ _ _
  unfold Builtin.List.listExtendWith
  refine wpAny_bind (wpAny_typeOf hTy ?_)
  have e1 : Builtin.List.listSameRef (.ref S) (.ref (h.objs.size + 4)) = false := by simp only [Builtin.List.listSameRef]; exact decide_eq_false (hn 4)
  have e2 : (Value.type "zip" == Value.type "list") = false := by decide
  have e3 : (Value.type "zip" == Value.type "tuple") = false := by decide
  simp only [e1, e2, e3, Bool.or_false, Bool.false_eq_true, if_false]
  refine wpAny_bind (wpAny_pyIter_zip hz₁ ?_)
  refine wpAny_bind (wpAny_holding ?_)
  unfold Builtin.List.listLengthHint
  refine wpAny_bind (wpAny_specialOf hTy zip_no_len ?_)
  show wpAny _ c.A.in1 (specialOf (Value.ref (h.objs.size + 4)) (Str.ofString "__length_hint__") >>= _) _ _ _
  refine wpAny_bind (wpAny_specialOf hTy zip_no_hint ?_)
  refine wpAny_pure ?_
  show wpAny _ c.A.in1 (rule "list.extend.makes-room" >>= fun _ => Builtin.List.listTouch (.ref S) >>= fun _ =>
    again (.builtin "list.extend.loop" ⟨[.ref S, .ref (h.objs.size + 4), .none], []⟩)) _ _ _
  refine wpAny_bind (wpAny_rule ?_)
  refine wpAny_bind ?_
  show wpAny _ c.A.in1 (updateSeq S (·.push .none) >>= fun _ => updateSeq S (·.pop)) _ _ _
  have hvl : vs.toArray.size ≤ sizeLine := by rw [List.size_toArray, sizeLine_eq]; lia
  refine wpAny_bind (wpAny_updateSeq hS₁ rfl ?_ hvl (by rw [Array.size_push]; exact Nat.succ_le_succ hvl))
  have hS₂ := Heap.get?_update_self (Obj.mapSeq (·.push Value.none)) hS₁ rfl
  obtain ⟨c2, hc2⟩ := push_lst vs .none k
  rw [hc2] at hS₂
  refine wpAny_updateSeq hS₂ rfl ?_ (by simp [sizeLine_eq]; lia) (by simp [sizeLine_eq]; lia)
  have hS₃ := Heap.get?_update_self (Obj.mapSeq (·.pop)) hS₂ rfl
  obtain ⟨c3, hc3⟩ : ∃ c3, Obj.mapSeq (·.pop) (lstN (vs ++ [Value.none]) c2) = lstN vs c3 := by
    unfold Obj.mapSeq
    simp
  rw [hc3] at hS₃
  generalize hU : (h₁.update S (Obj.mapSeq (·.push Value.none))).update S (Obj.mapSeq (·.pop)) = h₂ at hS₃
  have oth : ∀ b o, b ≠ S → h₁.get? b = some o → h₂.get? b = some o := fun b o hb e => by
    rw [← hU]
    exact (Heap.get?_update_other _ _ (Ne.symm hb)).trans ((Heap.get?_update_other _ _ (Ne.symm hb)).trans e)
  have hsz₂ : h₂.objs.size = h.objs.size + 5 := by rw [← hU, Heap.size_update, Heap.size_update, hsz]
  refine wpAny_pure ⟨plainId_quiet PySem.F.plain_extend_loop _, ?_⟩
  refine ext_loop (items := vs) rfl D hSne hlen (by lia) h.objs.size xs.length 0 { c.s with heap := h₂, toks := tk } [] c3 rfl (Nat.zero_le _) rfl (Z.frame hSne _ oth hS₃) (by simpa using hS₃) (fun j p e => by simp at e) (fun p hp => nomatch hp) (by show _ ≤ h₂.objs.size; rw [hsz₂]; exact Nat.le_add_right _ _) fun h' T cc hP hSo hTs hk' => ?_
  have hk2 : ∀ b o, b ≠ S → h.get? b = some o → h'.get? b = some o := fun b o hb e => by
    have lb := Heap.lt_size e
    have g : ∀ j, b ≠ h.objs.size + j := fun j => Nat.ne_of_lt (Nat.lt_of_lt_of_le lb (Nat.le_add_right _ j))
    exact hk' b o hb (g 4) (g 3) (g 0) (g 1) (oth b o hb (hk b o e))
  have F' : Fr c.g c.L h' m := LCg.fr_but F (fun b o hb e => hk2 b o (by simpa using hb) e) (Ne.symm gS.2.1) gS.2.2
  have gT : ∀ p ∈ T, c.g.get? p.1 = none := fun p hp => by
    cases e : c.g.get? p.1 with
    | none => rfl
    | some o => exact absurd (Heap.lt_size (F.keep _ _ e)) (Nat.not_lt.mpr (hTs p hp).2.2)
  refine kk T ((S, lstN (vs ++ refs T) cc) :: (T ++ n.filter fun p => decide (@Ne Nat p.1 S))) cc hP (fun q hq p hp => ?_) (.head _) (fun q hq hn => .tail _ (List.mem_append_right _ (List.mem_filter.mpr ⟨hq, by simpa using hn⟩))) (fun q hq => .tail _ (List.mem_append_left _ hq)) h' tk ⟨m, hid, hV, F', fun p hp => ?_, fun p hp q hq => ?_⟩
  · exact Nat.ne_of_lt (Nat.lt_of_lt_of_le (Heap.lt_size (N q (List.mem_append_right _ hq)).1) (hTs p hp).2.2)
  · rcases List.mem_append.mp hp with hp | hp
    · exact ⟨hk2 _ _ (fun e => O p hp _ hS e) (N p (List.mem_append_left _ hp)).1, (N p (List.mem_append_left _ hp)).2⟩
    · rcases List.mem_cons.mp hp with rfl | hp
      · exact ⟨hSo, gS.2⟩
      · rcases List.mem_append.mp hp with hp | hp
        · exact Y0_3 ((hTs p hp).1) (fun e => absurd F.ns.lt (Nat.not_lt.mpr (e ▸ (hTs p hp).2.2))) (gT p hp)
        · have hm := List.mem_filter.mp hp
          exact ⟨hk2 _ _ (by simpa using hm.2) (N p (List.mem_append_right _ hm.1)).1, (N p (List.mem_append_right _ hm.1)).2⟩
  · rcases List.mem_cons.mp hq with rfl | hq
    · exact fun e => O p hp _ hS e
    · rcases List.mem_append.mp hq with hq | hq
      · exact Nat.ne_of_lt (Nat.lt_of_lt_of_le (Heap.lt_size (N p (List.mem_append_left _ hp)).1) (hTs q hq).2.2)
      · exact O p hp q (List.mem_filter.mp hq).1
end
end
section
noncomputable def NodeOf (w : World) (k : Led) (x d : Addr) (t : Tree) : Prop := ∃ pl vo tn t1 t2 t3 t4 t5, (x, instObj 207 d) ∈ k ∧ (d, dictOf (treeEs w t1 t2 t3 t4 t5 (.bytes t.nm.toArray tn) vo t.cn pl) 4) ∈ k ∧ OV vo t.od
theorem NodeOf.sub {w : World} {k k' : Led} {x d : Addr} {t : Tree} (h : NodeOf w k x d t) (hs : ∀ q ∈ k, q.1 = x ∨ q.1 = d → q ∈ k') : NodeOf w k' x d t := by
  refine X8_3 h ?_; clear h; rintro pl vo tn t1 t2 t3 t4 t5 a b e
  exact Y8_3 pl vo tn t1 t2 t3 t4 t5 (hs _ a (.inl rfl)) (hs _ b (.inr rfl)) e
structure Pd where
  tp : Addr
  v : Value
  x : Addr
  d : Addr
  t : Tree
structure PdIn (w : World) (n k : Led) (p : Pd) : Prop where
  tp : (p.tp, tup [p.v, .ref p.x]) ∈ k
  old : TreeIn w n p.v p.t
  node : NodeOf w k p.x p.d p.t
  nx : ∀ q ∈ n, @Ne Nat q.1 p.x
  nd : ∀ q ∈ n, @Ne Nat q.1 p.d
  nt : ∀ q ∈ n, @Ne Nat q.1 p.tp
structure CpI (w : World) (n : Led) (wl : Addr) (r : Value) (t : Tree) (P : List Pd) (tl : Led) (fin : List Addr) (k : Led) : Prop where
  sub : ∀ q ∈ n, q ∈ k
  st : ∃ j, (wl, lstN (P.map fun p => .ref p.tp) j) ∈ k
  nw : ∀ q ∈ n, @Ne Nat q.1 wl
  pd : ∀ p ∈ P, PdIn w n k p
  ap : P.Pairwise fun p q => @Ne Nat p.d q.d
  new : ∀ q ∈ tl, q ∈ k
  off : Apart n tl
  od : ∀ q ∈ tl, ∀ p ∈ P, @Ne Nat q.1 p.d
  ow : ∀ q ∈ tl, @Ne Nat q.1 wl
  nod : fin.Nodup
  fit : ∀ a ∈ fin, ∃ o, (a, o) ∈ tl
  hole : ∀ (big : Led) (f : Addr → List Addr), (∀ q ∈ tl, q ∈ big) → (∀ p ∈ P, TreeU w big (.ref p.x) p.t (f p.d)) → ∃ ds, TreeU w big r t ds ∧ ds.Perm (fin ++ (P.map fun p => f p.d).flatten)
structure CpJ (w : World) (base : Led) (vs : List Value) (ps : List Tree) (i : Nat) (PN : List Pd) (k : Led) : Prop where
  sub : ∀ q ∈ base, q ∈ k
  len : PN.length = i
  hat : ∀ (j : Nat) (p : Pd), PN[j]? = some p → vs[j]? = some p.v ∧ ps[j]? = some p.t
  node : ∀ p ∈ PN, NodeOf w k p.x p.d p.t
  nx : ∀ p ∈ PN, ∀ q ∈ base, @Ne Nat q.1 p.x
  nd : ∀ p ∈ PN, ∀ q ∈ base, @Ne Nat q.1 p.d
  ap : PN.Pairwise fun p q => @Ne Nat p.d q.d
theorem cp_step {w : World} {base k kb k' : Led} {vs : List Value} {ps : List Tree} {i : Nat} {PN : List Pd} {v : Value} {b x d : Addr} {t : Tree} {t1 t2 t3 t4 t5 tn : Tok} {vo : Value} (J : CpJ w base vs ps i PN k) (hv : vs[i]? = some v) (ht : ps[i]? = some t)
    (hb : New k kb b (lstN [] 0)) (hN : NewN w kb k' x d (dictOf (treeEs w t1 t2 t3 t4 t5 (.bytes t.nm.toArray tn) vo t.cn b) 4)) (ho : OV vo t.od) : CpJ w base vs ps (i + 1) (PN ++ [⟨0, v, x, d, t⟩]) k' := by
  refine ⟨fun q hq => hN.sub q (hb.sub q (J.sub q hq)), by simp [J.len], fun j p hj => ?_, fun p hp => ?_, fun p hp q hq => ?_, fun p hp q hq => ?_, List.pairwise_append.mpr (Y0_3 J.ap (List.pairwise_singleton _ _) (fun p hp q hq => ?_))⟩
  · by_cases hlt : j < PN.length
    · rw [List.getElem?_append_left hlt] at hj
      exact J.hat j p hj
    · rw [List.getElem?_append_right (by lia)] at hj
      have e : j = i := by
        have := J.len
        rcases Nat.lt_or_ge (j - PN.length) 1 with q | q
        · lia
        · rw [List.getElem?_eq_none (by simpa using q)] at hj; cases hj
      subst e
      rw [J.len, Nat.sub_self] at hj
      cases hj
      exact ⟨hv, ht⟩
  · rcases List.mem_append.mp hp with hp | hp
    · exact (J.node p hp).sub fun q hq _ => hN.sub q (hb.sub q hq)
    · rw [List.mem_singleton.mp hp]
      exact Y8_3 _ _ _ _ _ _ _ _ hN.m1 hN.m2 ho
  · rcases List.mem_append.mp hp with hp | hp
    · exact J.nx p hp q hq
    · rw [List.mem_singleton.mp hp]
      exact hN.nx q (hb.sub q (J.sub q hq))
  · rcases List.mem_append.mp hp with hp | hp
    · exact J.nd p hp q hq
    · rw [List.mem_singleton.mp hp]
      exact hN.nd q (hb.sub q (J.sub q hq))
  · rw [List.mem_singleton.mp hq]
    refine X8_3 (J.node p hp) fun _ _ _ _ _ _ _ _ _ m2 _ => ?_
    exact hN.nd _ (hb.sub _ m2)
theorem cp_start {w : World} {n nb n1 n2 n3 : Led} {b x d tp wl : Addr} {t : Tree} {v : Value} {t1 t2 t3 t4 t5 tn : Tok} {vo : Value} (ht : TreeIn w n v t) (hb : New n nb b (lstN [] 0)) (hN : NewN w nb n1 x d (dictOf (treeEs w t1 t2 t3 t4 t5 (.bytes t.nm.toArray tn) vo t.cn b) 4)) (ho : OV vo t.od)
    (hT : New n1 n2 tp (tup [v, .ref x])) (hW : New n2 n3 wl (lstN [.ref tp] 0)) : CpI w n wl (.ref x) t [⟨tp, v, x, d, t⟩] [] [] n3 := by
  have s1 : ∀ q ∈ n, q ∈ n1 := fun q hq => hN.sub q (hb.sub q hq)
  have s2 : ∀ q ∈ n, q ∈ n2 := fun q hq => hT.sub q (s1 q hq)
  refine ⟨fun q hq => hW.sub q (s2 q hq), ⟨0, hW.mem⟩, fun q hq => hW.ne q (s2 q hq), fun p hp => ?_, List.pairwise_singleton _ _, fun q hq => (nomatch hq), Apart.nil, fun q hq => (nomatch hq), fun q hq => (nomatch hq), .nil, fun a ha => (nomatch ha), fun big f _ h => (Y1_2 (f d) (h _ (.head _)) (by simp))⟩
  rw [List.mem_singleton.mp hp]
  exact ⟨hW.sub _ hT.mem, ht, Y8_3 _ _ _ _ _ _ _ _ (hW.sub _ (hT.sub _ hN.m1)) (hW.sub _ (hT.sub _ hN.m2)) ho, fun q hq => hN.nx q (hb.sub q hq), fun q hq => hN.nd q (hb.sub q hq), fun q hq => hT.ne q (s1 q hq)⟩
noncomputable def setTp (T : Led) (PN : List Pd) : List Pd := (T.zip PN).map fun x => { x.2 with tp := x.1.1 }
theorem setTp_mem {T : Led} {PN : List Pd} {p : Pd} (h : p ∈ setTp T PN) : ∃ (j : Nat) (q : Addr × Obj) (p0 : Pd), T[j]? = some q ∧ PN[j]? = some p0 ∧ p = { p0 with tp := q.1 } := by
  refine X1_2 (List.mem_map.mp h) ?_; rintro x hx rfl
  refine X1_1 (List.mem_iff_getElem.mp hx) ?_; rintro j ⟨hj, e⟩
  rw [List.length_zip] at hj
  rw [List.getElem_zip] at e
  refine Y3_3 j x.1 x.2 ?_ ?_ rfl
  · rw [← e]; exact List.getElem?_eq_getElem _
  · rw [← e]; exact List.getElem?_eq_getElem _
theorem setTp_t {T : Led} {PN : List Pd} (h : T.length = PN.length) : (setTp T PN).map Pd.t = PN.map Pd.t ∧ (setTp T PN).map (fun p => Value.ref p.tp) = refs T ∧ (setTp T PN).map Pd.d = PN.map Pd.d ∧ (setTp T PN).map (fun p => Value.ref p.x) = PN.map (fun p => Value.ref p.x) := by
  unfold setTp
  rw [List.map_map, List.map_map, List.map_map, List.map_map]
  refine Y0_4 ?_ ?_ ?_ ?_
  · exact (List.map_map (f := Prod.snd) (g := Pd.t) (l := T.zip PN)).symm.trans (congrArg (List.map Pd.t) (List.map_snd_zip (by lia)))
  · exact (List.map_map (f := Prod.fst) (g := fun p : Addr × Obj => Value.ref p.1) (l := T.zip PN)).symm.trans (congrArg (List.map fun p : Addr × Obj => Value.ref p.1) (List.map_fst_zip (by lia)))
  · exact (List.map_map (f := Prod.snd) (g := Pd.d) (l := T.zip PN)).symm.trans (congrArg (List.map Pd.d) (List.map_snd_zip (by omega)))
  · exact (List.map_map (f := Prod.snd) (g := fun p : Pd => Value.ref p.x) (l := T.zip PN)).symm.trans (congrArg (List.map fun p : Pd => Value.ref p.x) (List.map_snd_zip (by omega)))
theorem treesU_mk {w : World} {big : Led} {f : Addr → List Addr} : ∀ {PN : List Pd}, (∀ p ∈ PN, TreeU w big (.ref p.x) p.t (f p.d)) → TreesU w big (PN.map fun p => Value.ref p.x) (PN.map Pd.t) (PN.map fun p => f p.d).flatten
  | [], _ => .nil
  | p :: r, h => by
    rw [List.map_cons, List.map_cons, List.map_cons, List.flatten_cons]
    exact .cons (h p (.head _)) (treesU_mk fun q hq => h q (.tail _ hq))
theorem cp_end {w : World} {n k k1 k2 k3 k4 k5 tl T : Led} {wl D : Addr} {r : Value} {t0 : Tree} {P PN : List Pd} {tp x d : Addr} {v : Value} {nm : Bs} {cn : Int} {od : Option Bs} {ps : List Tree} {vs : List Value} {j1 j2 : Nat} {t1 t2 t3 t4 t5 tn : Tok} {vo : Value}
    {fin : List Addr} (H : CpI w n wl r t0 (P ++ [⟨tp, v, x, d, .mk nm cn od ps⟩]) tl fin k) (fk : Fn k) (f3 : Fn k3) (f4 : Fn k4) (f5 : Fn k5) (M1 : Mut k k1 wl (lstN (P.map fun p => .ref p.tp) j1)) (J : CpJ w k1 vs ps vs.length PN k2) (h6 : TreesIn w n vs ps) (hz : vs.length ≤ 1000)
    (N3 : New k2 k3 D (lstN (PN.map fun p => .ref p.x) (PN.map fun p => Value.ref p.x).length)) (ho : OV vo od) (M4 : Mut k3 k4 d (dictOf (treeEs w t1 t2 t3 t4 t5 (.bytes nm.toArray tn) vo cn D) 4))
    (hT : Prs T vs (PN.map fun p => .ref p.x)) (aT : Apart k4 T) (hW : (wl, lstN ((P.map fun p => .ref p.tp) ++ refs T) j2) ∈ k5) (s5 : ∀ q ∈ k4, @Ne Nat q.1 wl → q ∈ k5) (n5 : ∀ q ∈ T, q ∈ k5) :
    ∃ P' tl' fin', CpI w n wl r t0 P' tl' fin' k5 ∧ Tree.szs (P'.map Pd.t) < Tree.szs ((P ++ [(⟨tp, v, x, d, .mk nm cn od ps⟩ : Pd)]).map Pd.t) := by
  have hp : PdIn w n k ⟨tp, v, x, d, .mk nm cn od ps⟩ := H.pd _ (List.mem_append_right _ (.head _))
  obtain ⟨jw, hw⟩ := H.st
  have hTl : T.length = PN.length := by rw [hT.1, J.len]
  refine X0_4 (setTp_t hTl) fun z1 z2 z3 z4 => ?_
  have ePN : PN.map Pd.t = ps := List.ext_getElem? fun j => by
    rw [List.getElem?_map]
    cases g : PN[j]? with
    | some p0 => exact (J.hat j p0 g).2.symm
    | none =>
      have := List.getElem?_eq_none_iff.mp g
      rw [J.len, trees_len h6] at this
      exact (List.getElem?_eq_none this).symm
  have c1 : ∀ q ∈ n, q ∈ k1 := fun q hq => M1.sub q (H.sub q hq) (H.nw q hq)
  have c3 : ∀ q ∈ k1, q ∈ k3 := fun q hq => N3.sub q (J.sub q hq)
  have c4 : ∀ q ∈ n, q ∈ k4 := fun q hq => M4.sub q (c3 q (c1 q hq)) (hp.nd q hq)
  have c5 : ∀ q ∈ n, q ∈ k5 := fun q hq => s5 q (c4 q hq) (H.nw q hq)
  refine X8_3 hp.node fun pl0 vo0 tn0 y1 y2 y3 y4 y5 px pd0 _ => ?_
  have hw4 : (wl, lstN (P.map fun p => Value.ref p.tp) j1) ∈ k4 := M4.sub _ (c3 _ M1.mem) (ne_kind f3 (c3 _ M1.mem) (c3 _ (M1.sub _ pd0 (ne_kind fk pd0 hw dict_lst))) dict_lst.symm)
  have pd1 : (d, dictOf (treeEs w y1 y2 y3 y4 y5 (.bytes nm.toArray tn0) vo0 cn pl0) 4) ∈ k1 := M1.sub _ pd0 (ne_kind fk pd0 hw dict_lst)
  have up : ∀ {a : Addr} {o : Obj}, (a, o) ∈ k1 → @Ne Nat a d → (∀ b j, o ≠ lstN b j) → (a, o) ∈ k5 := fun {a o} h1 h2 h3 => s5 _ (M4.sub _ (c3 _ h1) h2) (ne_kind f4 (M4.sub _ (c3 _ h1) h2) hw4 (h3 _ _))
  have px5 : (x, instObj 207 d) ∈ k5 := up (M1.sub _ px (ne_kind fk px hw inst_lst)) (ne_kind f3 (c3 _ (M1.sub _ px (ne_kind fk px hw inst_lst))) (c3 _ pd1) inst_dict) fun _ _ => inst_lst
  have pd5 : (d, dictOf (treeEs w t1 t2 t3 t4 t5 (.bytes nm.toArray tn) vo cn D) 4) ∈ k5 := s5 _ M4.mem (ne_kind f4 M4.mem hw4 dict_lst)
  have hD5 : (D, lstN (PN.map fun p => Value.ref p.x) (PN.map fun p => Value.ref p.x).length) ∈ k5 := by
    refine s5 _ (M4.sub _ N3.mem (ne_kind f3 N3.mem (c3 _ pd1) dict_lst.symm)) ?_
    exact Ne.symm (N3.ne _ (J.sub _ M1.mem))
  have nodeP : ∀ p ∈ P, NodeOf w k5 p.x p.d p.t ∧ @Ne Nat p.d d := fun p hq => by
    have h := H.pd p (List.mem_append_left _ hq)
    have hne : @Ne Nat p.d d := (List.pairwise_append.mp H.ap).2.2 p hq _ (.head _)
    refine X8_3 h.node fun a1 a2 a3 b1 b2 b3 b4 b5 m1 m2 ho' => ?_
    have e1 := M1.sub _ m1 (ne_kind fk m1 hw inst_lst)
    exact ⟨Y8_3 a1 a2 a3 b1 b2 b3 b4 b5 (up e1 (ne_kind f3 (c3 _ e1) (c3 _ pd1) inst_dict) fun _ _ => inst_lst) (up (M1.sub _ m2 (ne_kind fk m2 hw dict_lst)) hne fun _ _ => dict_lst) ho', hne⟩
  have nodeN : ∀ p ∈ PN, NodeOf w k5 p.x p.d p.t ∧ @Ne Nat p.d d := fun p hq => by
    have hne : @Ne Nat p.d d := Ne.symm (J.nd p hq _ pd1)
    refine X8_3 (J.node p hq) fun a1 a2 a3 b1 b2 b3 b4 b5 m1 m2 ho' => ?_
    have m1' := N3.sub _ m1
    have m2' := N3.sub _ m2
    have e1 := M4.sub _ m1' (ne_kind f3 m1' (c3 _ pd1) inst_dict)
    have e2 := M4.sub _ m2' hne
    exact ⟨Y8_3 a1 a2 a3 b1 b2 b3 b4 b5 (s5 _ e1 (ne_kind f4 e1 hw4 inst_lst)) (s5 _ e2 (ne_kind f4 e2 hw4 dict_lst)) ho', hne⟩
  refine Y3_2 (P ++ setTp T PN) ((x, instObj 207 d) :: (d, dictOf (treeEs w t1 t2 t3 t4 t5 (.bytes nm.toArray tn) vo cn D) 4) :: (D, lstN (PN.map fun p => Value.ref p.x) (PN.map fun p => Value.ref p.x).length) :: tl) (d :: fin) ⟨c5, ⟨j2, ?_⟩, H.nw, fun p hq => ?_, ?_, ?_, ?_, ?_, ?_, ?_, ?_, ?_⟩ ?_
  · rw [List.map_append, z2]; exact hW
  · rcases List.mem_append.mp hq with hq | hq
    · have h := H.pd p (List.mem_append_left _ hq)
      have e1 := M1.sub _ h.tp (ne_kind fk h.tp hw tup_lst)
      exact ⟨up e1 (ne_kind f3 (c3 _ e1) (c3 _ pd1) tup_dict) fun _ _ => tup_lst, h.old, (nodeP p hq).1, h.nx, h.nd, h.nt⟩
    · refine X3_3 (setTp_mem hq) ?_; rintro j q p0 g1 g2 rfl
      have hm : p0 ∈ PN := List.mem_of_getElem? g2
      have hqT : q ∈ T := List.mem_of_getElem? g1
      refine X2_3 (hT.2 j q g1) fun x0 y0 e1 e2 e3 => ?_
      obtain ⟨e4, e5⟩ := J.hat j p0 g2
      have : x0 = p0.v := Option.some.inj (e1.symm.trans e4)
      subst this
      have : y0 = .ref p0.x := by rw [List.getElem?_map, g2] at e2; exact (Option.some.inj e2).symm
      subst this
      refine X1_2 (trees_get h6 e4) fun ti g3 g4 => ?_
      have : ti = p0.t := Option.some.inj (g3.symm.trans e5)
      subst this
      have hq5 := n5 q hqT
      exact ⟨by rw [← e3]; exact hq5, g4, (nodeN p0 hm).1, fun z hz => J.nx p0 hm z (c1 z hz), fun z hz => J.nd p0 hm z (c1 z hz), fun z hz => aT z (c4 z hz) q hqT⟩
  · refine List.pairwise_append.mpr (Y0_3 ((List.pairwise_append.mp H.ap).1) ?_ (fun p hq q hq' => ?_))
    · have := J.ap
      rw [← List.pairwise_map (f := Pd.d) (R := fun a b => @Ne Nat a b)] at this ⊢
      rw [z3]; exact this
    · refine X3_3 (setTp_mem hq') ?_; rintro j q0 p0 g1 g2 rfl
      refine X8_3 ((H.pd p (List.mem_append_left _ hq)).node) fun a1 a2 a3 b1 b2 b3 b4 b5 m1 m2 ho' => ?_
      exact J.nd p0 (List.mem_of_getElem? g2) _ (M1.sub _ m2 (ne_kind fk m2 hw dict_lst))
  · intro q hq
    rcases List.mem_cons.mp hq with rfl | hq
    · exact px5
    rcases List.mem_cons.mp hq with rfl | hq
    · exact pd5
    rcases List.mem_cons.mp hq with rfl | hq
    · exact hD5
    · exact s5 _ (M4.sub _ (c3 _ (M1.sub _ (H.new q hq) (H.ow q hq))) (H.od q hq _ (List.mem_append_right _ (.head _)))) (H.ow q hq)
  · exact ((H.off.cons fun q hq => N3.ne q (J.sub q (c1 q hq))).cons hp.nd).cons hp.nx
  · intro q hq p hp'
    have hnode : NodeOf w k5 p.x p.d p.t := by
      rcases List.mem_append.mp hp' with hp' | hp'
      · exact (nodeP p hp').1
      · refine X3_3 (setTp_mem hp') ?_; rintro j q p0 g1 g2 rfl
        exact (nodeN p0 (List.mem_of_getElem? g2)).1
    refine X8_3 hnode ?_; clear hnode; rintro a1 a2 a3 b1 b2 b3 b4 b5 m1 m2 ho'
    rcases List.mem_cons.mp hq with rfl | hq
    · exact ne_kind f5 px5 m2 inst_dict
    rcases List.mem_cons.mp hq with rfl | hq
    · rcases List.mem_append.mp hp' with hp' | hp'
      · exact Ne.symm (nodeP p hp').2
      · refine X3_3 (setTp_mem hp') ?_; rintro j q p0 g1 g2 rfl
        exact Ne.symm (nodeN p0 (List.mem_of_getElem? g2)).2
    rcases List.mem_cons.mp hq with rfl | hq
    · exact ne_kind f5 hD5 m2 dict_lst.symm
    · rcases List.mem_append.mp hp' with hp' | hp'
      · exact H.od q hq p (List.mem_append_left _ hp')
      · refine X3_3 (setTp_mem hp') ?_; rintro j q' p0 g1 g2 rfl
        exact J.nd p0 (List.mem_of_getElem? g2) q (M1.sub q (H.new q hq) (H.ow q hq))
  · intro q hq
    rcases List.mem_cons.mp hq with rfl | hq
    · exact ne_kind f5 px5 hW inst_lst
    rcases List.mem_cons.mp hq with rfl | hq
    · exact ne_kind f5 pd5 hW dict_lst
    rcases List.mem_cons.mp hq with rfl | hq
    · exact Ne.symm (N3.ne _ (J.sub _ M1.mem))
    · exact H.ow q hq
  · exact List.nodup_cons.mpr ⟨fun h => by
      obtain ⟨o, ho⟩ := H.fit d h
      exact H.od _ ho _ (List.mem_append_right _ (.head _)) rfl, H.nod⟩
  · intro a ha
    rcases List.mem_cons.mp ha with rfl | ha
    · exact ⟨_, .tail _ (.head _)⟩
    · obtain ⟨o, ho⟩ := H.fit a ha
      exact ⟨o, .tail _ (.tail _ (.tail _ ho))⟩
  · intro big f h1 h2
    have hTs := treesU_mk (w := w) (big := big) (f := f) (PN := setTp T PN) fun p hp => h2 p (List.mem_append_right _ hp)
    rw [z4, z1, ePN] at hTs
    refine X1_2 (H.hole big (fun a => if a = d then d :: ((setTp T PN).map fun p => f p.d).flatten else f a) (fun q hq => h1 q (.tail _ (.tail _ (.tail _ hq)))) fun p hp' => by
      rcases List.mem_append.mp hp' with hp' | hp'
      · show TreeU w big (.ref p.x) p.t (if p.d = d then _ else f p.d)
        rw [if_neg (nodeP p hp').2]
        exact h2 p (List.mem_append_left _ hp')
      · rw [List.mem_singleton.mp hp']
        show TreeU w big (.ref x) (.mk nm cn od ps) (if d = d then _ else f d)
        rw [if_pos rfl]
        show Exists _
        exact Y13_8 x d tn vo D t1 t2 t3 t4 t5 (PN.map fun p => Value.ref p.x) _ _ rfl (h1 _ (.head _)) (h1 _ (.tail _ (.head _))) ho (h1 _ (.tail _ (.tail _ (.head _)))) hTs (by rw [List.length_map, J.len]; exact hz) rfl) fun ds hds hperm => ?_
    refine Y1_2 ds hds (hperm.trans ?_)
    rw [List.map_append, List.flatten_append, List.map_append, List.flatten_append, List.map_congr_left (g := fun p : Pd => f p.d) (l := P) fun p hp => if_neg (nodeP p hp).2, show (List.map (fun p : Pd => if p.d = d then d :: ((setTp T PN).map fun p => f p.d).flatten else f p.d) [⟨tp, v, x, d, .mk nm cn od ps⟩]).flatten = d :: ((setTp T PN).map fun p => f p.d).flatten by simp, ← List.append_assoc]
    refine List.perm_middle.trans ?_
    rw [List.append_assoc]
    exact .refl _
  · rw [List.map_append, List.map_append, szs_app, szs_app, z1]
    have e2 : Tree.szs (List.map Pd.t [(⟨tp, v, x, d, .mk nm cn od ps⟩ : Pd)]) = Tree.szs ps + 1 := by simp [Tree.szs, Tree.sz]
    rw [ePN, e2]
    lia
noncomputable abbrev frC (s f a o r : Option Value) : Fm := [(Str.ofString "self", s), (Str.ofString "found", f), (Str.ofString "waiting", a), (Str.ofString "one", o), (Str.ofString "other", r)]
theorem szs_len (ps : List Tree) : ps.length ≤ Tree.szs ps := by
  induction ps with
  | nil => exact Nat.le_refl _
  | cons t r ih =>
    have : 1 ≤ t.sz := by obtain ⟨_, _, _, _⟩ := t; unfold Tree.sz; lia
    unfold Tree.szs
    rw [List.length_cons]
    lia
theorem copy_L {t : Tree} {w : World} {c : Cx w} {n : Led} {l : Fm} {v : Value} (hroom : c.dp + 4 < recursionLimit) (hu : c.un + 10 < cLine) (hsz : t.sz ≤ 1000) (ht : TreeIn w n v t) : CaG c n l (.ref 204) [v] fun r n' => ∃ tl ds, Ext n n' tl ∧ TreeU w tl r t ds ∧ ds.Nodup := by
  intro Q kk
  obtain ⟨nm, cn, od, ps⟩ := t
  refine ht.open ?_
  rintro a d tn vo pl t1 t2 t3 t4 t5 vs i rfl h1 h2 h4 h5 h6 h7
  refine At.enter (by exact rfl) (by lia) [Str.ofString "self"] [Str.ofString "found", Str.ofString "waiting", Str.ofString "one", Str.ofString "other"] (frC (some (.ref a)) none none none none) fun c' RQ hI => ?_
  have hw := hI.wk
  refine .assignQ <| .eCall (.glob hw rfl) (.ref rfl) <| .argP (.nm (.name rfl) h1 h2 rfl) <| .argP (.cn (.name rfl) h1 h2) <| .argP (.od (.name rfl) h1 h2 h4.handed) <| .argQ <| .eList <| .arg0 <| At.newLst fun b nb hb => At.arg0 <| Go.cq <| At.mk (by rw [hw.dp]; lia) fun x d' q1 q2 q3 q4 n1 hN => Go.aq hw ?_
  refine .assignQ <| .eList <| .argQ <| .eTup <| .argP (.name rfl) <| .argP (.name rfl) <| .arg0 <| At.newTup fun tp n2 hT => At.arg0 <| At.newLst fun wl n3 hW => Go.aq hw ?_
  refine .while_ hw (fun m k l => ∃ P tl fin o r, l = frC (some (.ref a)) (some (.ref x)) (some (.ref wl)) o r ∧ CpI w n wl (.ref x) (.mk nm cn od ps) P tl fin k ∧ m = Tree.szs (P.map Pd.t) ∧ m ≤ 1000) (k₀ := (Tree.mk nm cn od ps).sz) (Y5_4 _ [] [] none none rfl (cp_start ht hb hN h4 hT hW) (by simp [Tree.szs]) hsz) ?_
  rintro m k _ TQ zz; refine X5_4 zz ?_; clear zz; rintro P tl fin oo rr rfl H rfl hm; rintro next _
  obtain ⟨j, hst⟩ := H.st
  refine Y1_3 _ (.neNil (.name rfl) hst (by rw [hw.un]; lia)) (fun hP => ?_) (fun hP => ?_)
  · rcases List.eq_nil_or_concat P with rfl | ⟨P, ⟨tp, v, x2, d2, t⟩, eP⟩
    · exact absurd rfl hP
    rw [List.concat_eq_append] at eP
    subst eP
    have hp : PdIn w n k ⟨tp, v, x2, d2, t⟩ := H.pd _ (List.mem_append_right _ (.head _))
    obtain ⟨nm2, cn2, od2, ps2⟩ := t
    refine At.fn fun fk => ?_
    refine hp.old.open ?_
    intro a2 d3 tn2 vo2 pl2 y1 y2 y3 y4 y5 vs2 i2 e g1 g2 g4 g5 g6 g7
    have e : v = .ref a2 := e
    subst e
    refine X8_3 hp.node fun pl0 vo0 tn0 z1 z2 z3 z4 z5 px pd0 ho0 => ?_
    rw [List.map_append] at hst
    refine .tupQ <| .eMeth0 (.name rfl) (.list hst PySem.F.slot_list_pop PySem.F.type_list_pop) .blt <| Hp.pop (v := .ref tp) hst (by have := szs_len (P.map Pd.t); rw [List.map_append, szs_app] at hm; rw [List.length_map] at this ⊢; lia) _ fun r k1 hr => ?_
    refine X0_2 hr ?_; clear hr; rintro rfl ⟨j1, M1⟩
    refine Go.tup2 hw (M1.sub _ hp.tp (ne_kind fk hp.tp hst tup_lst)) ?_
    have c1 : ∀ q ∈ n, q ∈ k1 := fun q hq => M1.sub q (H.sub q hq) (H.nw q hq)
    refine .setA <| .eComp hw (.pt (.name rfl) (c1 _ g1) (c1 _ g2)) (c1 _ g5) g7 (fun i ys k2 => ∃ PN, CpJ w k1 vs2 ps2 i PN k2 ∧ ys = PN.map fun p => .ref p.x) (Y1_2 [] ⟨fun _ h => h, rfl, fun j p h => by simp at h, fun p h => (nomatch h), fun p h => (nomatch h), fun p h => (nomatch h), .nil⟩ rfl) (fun i ys k2 h => ?_) (fun i v ys k2 c2 hv hj hw2 Q2 kk2 => ?_) fun D ys k2 k3 hj N3 => Go.setA rfl ?_
    · refine X1_2 h ?_; clear h; rintro PN J _
      exact J.sub _ (c1 _ g5)
    · refine X1_2 hj ?_; clear hj; rintro PN J rfl
      refine X1_2 (trees_get g6 hv) ?_; rintro ⟨nm3, cn3, od3, ps3⟩ hti htin
      refine htin.open ?_
      intro a4 d4 tn4 vo4 pl4 x1 x2 x3 x4 x5 vs4 i4 e f1 f2 f4 f5 f6 f7
      have e : v = .ref a4 := e
      subst e
      have f1 := J.sub _ (c1 _ f1)
      have f2 := J.sub _ (c1 _ f2)
      exact .eCall (.glob hw2 rfl) (.ref rfl) <| .argP (.nm (.name rfl) f1 f2 rfl) <| .argP (.cn (.name rfl) f1 f2) <| .argP (.od (.name rfl) f1 f2 f4.handed) <| .argQ <| .eList <| .arg0 <| At.newLst fun b nb hb => At.arg0 <| Go.cq <| At.mk (by rw [hw2.dp]; lia) fun x d' q1 q2 q3 q4 n1 hN => kk2 _ _ (Y1_2 _ (cp_step (t := .mk nm3 cn3 od3 ps3) J hv hti hb hN f4) (by simp))
    · refine X1_2 hj ?_; clear hj; rintro PN J rfl
      refine At.fn fun f3 => ?_
      have u1 : ∀ q ∈ k1, q ∈ k3 := fun q hq => N3.sub q (J.sub q hq)
      have px3 := u1 _ (M1.sub _ px (ne_kind fk px hst inst_lst))
      have pd3 := u1 _ (M1.sub _ pd0 (ne_kind fk pd0 hst dict_lst))
      have hne := ne_kind f3 px3 pd3 inst_dict
      refine At.setParts px3 pd3 hne fun k4 M4 => ?_
      refine At.fn fun f4 => ?_
      have hw4 := M4.sub _ (u1 _ M1.mem) (ne_kind f3 (u1 _ M1.mem) pd3 dict_lst.symm)
      have c4 : ∀ q ∈ n, q ∈ k4 := fun q hq => M4.sub q (u1 q (c1 q hq)) (hp.nd q hq)
      refine .exprQ <| .eMeth (.name rfl) (.list hw4 PySem.F.slot_list_extend PySem.F.type_list_extend) .blt <| .argQ <| .eCall (.blt hw rfl (by boot_fast)) .typ <| .argP (.pt (.name rfl) (c4 _ g1) (c4 _ g2)) <| .argP (.pt (.name rfl) (M4.sub _ px3 hne) M4.mem) <| .arg0 <| Go.cq <| At.extZip hw4 (c4 _ g5) (M4.sub _ N3.mem (ne_kind f3 N3.mem pd3 dict_lst.symm)) (Ne.symm (H.nw _ g5)) (N3.ne _ (J.sub _ M1.mem)) (by rw [List.length_map, J.len]) (by have := szs_len (P.map Pd.t); rw [List.map_append, szs_app] at hm; rw [List.length_map] at this ⊢; lia) g7 fun T k5 j5 hT aT hW s5 n5 => Go.xq ?_
      refine At.fn fun f5 => ?_
      refine X3_2 (cp_end H fk f3 f4 f5 M1 J g6 g7 N3 ho0 M4 hT aT hW s5 n5) fun P' tl' fin' H' hlt => ?_
      exact .nil (next _ _ _ hlt (Y5_4 P' tl' fin' _ _ rfl H' rfl (by lia)))
  · have hP : P = [] := by simpa using hP
    subst hP
    refine X1_2 (H.hole tl (fun _ => []) (fun _ h => h) fun p hp => nomatch hp) fun ds hds hp => ?_
    exact .retP (.name rfl) (hI.ret _ _ _ (kk _ _ (Y2_3 tl ds ⟨H.sub, H.new, H.off⟩ hds (hp.nodup_iff.mpr (by simpa using H.nod)))))
end
section
section
open Builtin
variable {prog : Program} {w : World} {A : Around} {E : Value → Shared → Prop} {s : Shared}
theorem no_index_bytes : typeLookup (.type "bytes") "__index__" = pure none := by rw [typeLookup_type, builtinLookup_eq_fast]; kernel_rfl
theorem idx_bytes {b : Array UInt8} {t : Tok} {Q : Int → Shared → Prop} (hh : A.handled = none) (h : ∀ h' tk e, Heap.NewExc s.heap h' e "TypeError" → E (.ref e) { s with heap := h', toks := tk }) : wpAny (model prog w) A (asIndex (.bytes b t)) Q E s := by
  unfold asIndex
  refine wpAny_bind (wpAny_of_eq (a := none) rfl ?_)
  refine wpAny_bind (wpAny_callSpecial?_none (typeIs_bytes s b t) no_index_bytes ?_)
  dsimp only
  refine wpAny_bind ?_
  refine wpAny_of_eq (a := "bytes") (by rfl) ?_
  exact wpAny_raiseTypeError hh h
theorem contains_tree {b sub : Array UInt8} {t u : Tok} {P : PySem.Fin → Shared → Prop} (hh : A.handled = none) (h : ∀ h' tk, (∀ a o, s.heap.get? a = some o → h'.get? a = some o) → P (.done (.ret (.bool (Bytes.find? b sub 0 b.size).isSome))) { s with heap := h', toks := tk }) :
    wpAny (model prog w) A (Builtin.«bytes.__contains__» ⟨[.bytes b t, .bytes sub u], []⟩) P E s := by
  show wpAny _ _ (Bytes.containsIn "bytes.__contains__" (.bytes b t) (.bytes sub u) >>= _) _ _ s
  refine wpAny_bind ?_
  unfold Bytes.containsIn
  refine wpAny_bind (wpAny_attempt (idx_bytes hh fun h' tk e he => ?_))
  refine wpAny_bind (wpAny_of_eq KBy.buffer_eq ?_)
  dsimp only
  refine wpAny_bind (wpAny_of_eq KBy.buffer_eq ?_)
  dsimp only
  exact wpAny_bind (wpAny_rule (wpAny_pure (wpAny_pure (h h' tk he.keeps))))
theorem in_bytes {b sub : Array UInt8} {t u : Tok} {Q : Value → Shared → Prop} (hh : A.handled = none) (h : ∀ h' tk, (∀ a o, s.heap.get? a = some o → h'.get? a = some o) → Q (.bool (Bytes.find? b sub 0 b.size).isSome) { s with heap := h', toks := tk }) :
    wpAny (model prog w) A (compareOp .In (.bytes sub u) (.bytes b t)) Q E s := by
  show wpAny _ _ (do return .bool (← contains (.bytes b t) (.bytes sub u))) Q E s
  exact wpAny_bind (wpAny_contains_slot (typeIs_bytes s b t) FB.slot_bytes_contains (wpAny_call_entry FB.slot_bytes_contains (typeIs_bytes s b t) FB.entry_bytes_contains (contains_tree hh fun h' tk hk => Y1_2 _ rfl (wpAny_truthy_bool (wpAny_pure (h h' tk hk)))) (FB.args_bytes_contains_2 _ _)))
theorem starts_tree {b sub : Bs} {t u : Tok} {P : PySem.Fin → Shared → Prop} (h : P (.done (.ret (.bool (decide (b.take sub.length = sub))))) s) :
    wpAny (model prog w) A (Builtin.«bytes.startswith» ⟨[.bytes b.toArray t, .bytes sub.toArray u], []⟩) P E s := by
  unfold Builtin.«bytes.startswith» Bytes.tailMatchM
  refine wpAny_bind (wpAny_of_eq (a := (.bytes b.toArray t, [.bytes sub.toArray u])) rfl ?_)
  refine wpAny_bind (wpAny_of_eq (a := none) rfl ?_)
  refine wpAny_bind (wpAny_of_eq (a := none) rfl ?_)
  dsimp only
  refine wpAny_bind (wpAny_of_eq (a := b.toArray) rfl ?_)
  refine wpAny_bind (wpAny_isInstance (T := "bytes") (b := false) (typeIs_bytes s _ u) F.sub_bytes_tuple ?_)
  simp only [Bool.false_eq_true, if_false]
  refine wpAny_bind (wpAny_of_eq KBy.buffer_eq ?_)
  dsimp only
  refine wpAny_pure ?_
  have e : (if ((Bytes.window b.toArray.size none none).2 - (Bytes.window b.toArray.size none none).1 < sub.toArray.size) then false else if false = true then b.toArray.extract ((Bytes.window b.toArray.size none none).2.toNat - sub.toArray.size) (Bytes.window b.toArray.size none none).2.toNat == sub.toArray else b.toArray.extract (Bytes.window b.toArray.size none none).1.toNat ((Bytes.window b.toArray.size none none).1.toNat + sub.toArray.size) == sub.toArray) = decide (b.take sub.length = sub) := by
    have w : Bytes.window b.toArray.size none none = (0, (b.length : Int)) := by
      unfold Bytes.window
      simp
      rw [if_neg (by lia)]
      lia
    rw [w]
    have e0 : ((0 : Int)).toNat = 0 := rfl
    simp only [Bool.false_eq_true, if_false, e0, Nat.zero_add, List.size_toArray, Int.sub_zero]
    by_cases hl : (b.length : Int) < (sub.length : Int)
    · rw [if_pos hl]
      refine (decide_eq_false fun e => ?_).symm
      have := congrArg List.length e
      rw [List.length_take] at this
      lia
    · rw [if_neg hl]
      have : (b.toArray.extract 0 sub.length == sub.toArray) = decide (b.toArray.extract 0 sub.length = sub.toArray) := by
        cases hd : decide (b.toArray.extract 0 sub.length = sub.toArray) with
        | true => simpa using hd
        | false => simpa using hd
      rw [this]
      refine decide_eq_decide.mpr ⟨fun e => ?_, fun e => ?_⟩
      · have := congrArg Array.toList e
        simpa using this
      · apply Array.toList_inj.mp
        simpa using e
  rw [← e] at h
  exact h
end
section
variable {w : World} {c : Cx w} {n : Led} {l : Fm} {sc : Scope} {d u : Nat}
theorem CaG.starts {b sub : Bs} {t u : Tok} : CaG c n l (.builtin "bytes.startswith") [.bytes b.toArray t, .bytes sub.toArray u] fun r n' => r = .bool (decide (b.take sub.length = sub)) ∧ n' = n := fun Q kk h tk H =>
  wpAny_call_entry FB.slot_bytes_startswith (typeIs_bytes _ _ t) FB.entry_bytes_startswith (starts_tree (Y1_2 _ rfl (kk _ _ ⟨rfl, rfl⟩ h tk H))) (FB.args_bytes_startswith_2 _ _)
theorem Hp.kept {h h' : Heap} (H : Hp c n l h) (hk : ∀ a o, h.get? a = some o → h'.get? a = some o) : Hp c n l h' := by
  obtain ⟨m, hid, hV, F, N, O⟩ := H
  exact ⟨m, hid, hV, F.keeps hk, N.grown hk, O⟩
theorem Tst.inB {e1 e2 : PySem.Expr} {pos : Pos} {x y : Bs} (h1 : EvR c n l e1 (BW x)) (h2 : EvR c n l e2 (BW y)) (hm : behindInMarks .In e2 = false := by with_unfolding_all rfl) : Tst c n l (.Compare e1 [.In] [e2] pos) ((Builtin.Bytes.find? y.toArray x.toArray 0 y.toArray.size).isSome = true) := fun Q k1 k2 h tk H => by
  refine wpAny_isTrue_Compare1 (h1 _ (fun a ha h tk H => h2 _ (fun b hb h tk H => ?_) h tk H) h tk H) hm
  obtain ⟨t, rfl⟩ := ha
  obtain ⟨t', rfl⟩ := hb
  refine in_bytes rfl fun h' tk' hk => wpAny_truthy_bool ?_
  cases e : (Builtin.Bytes.find? y.toArray x.toArray 0 y.toArray.size).isSome with
  | true => exact k1 e h' tk' (H.kept hk)
  | false => exact k2 (by rw [e]; exact fun e => (nomatch e)) h' tk' (H.kept hk)
theorem Tst.val {e : PySem.Expr} {p : Prop} (h : EvR c n l e fun v => ∃ b, v = .bool b ∧ (b = true ↔ p)) (he : ∀ env whole, isTrue e env whole = (do let v ← whole; standAt e.pos; holding [v] (truthy v)) := by intro _ _; rfl) : Tst c n l e p := fun Q k1 k2 h' tk H => by
  refine isTrue_plain (h _ (fun v hv h tk H => ?_) h' tk H) (he _ _)
  refine X1_2 hv ?_; clear hv; rintro b rfl hb
  refine wpAny_truthy_bool ?_
  cases b with
  | true => exact k1 (hb.mp rfl) h tk H
  | false => exact k2 (fun hp => nomatch hb.mpr hp) h tk H
end
end
section
section
variable {w : World} {c : Cx w} {n : Led} {l : Fm} {rest : List Stmt} {sc : Scope} {d u : Nat} {b : Bool}
theorem EvR.str {x : Str} {j : Nat} {pos : Pos} : EvR c n l (.Constant (.str x) j pos) fun v => ∃ t, v = .str x t := fun _ q h tk H => Constant_str (q _ ⟨_, rfl⟩ h _ H)
theorem At.raise {x : Str} {j : Nat} {p0 p1 p2 pos : Pos} {Q : Flow → Shared → Prop} (hw : Wk c sc d u b) (hroom : d + 1 < recursionLimit) (k : ∀ x t d, (∀ p ∈ n, @Ne Nat p.1 x) → ∀ h tk, Hp c ((x, excD t d) :: n) l h → c.E (.ref x) { c.s with heap := h, toks := tk })
    (hx : sc.names.lookup (Str.ofString "BadIndex") = some .globalImplicit := by rfl) (hg : nsIn (KK w) mainGlobals (Str.ofString "BadIndex") = some (some (.ref 64)) := by rfl) :
    At c n l (execs (.Raise (some (.Call (.Name (Str.ofString "BadIndex") p0) [.Constant (.str x) j p1] [] p2)) none pos :: rest) c.env) Q := .cons fun h tk H => by
  refine raise_own rfl ?_
  have key : At c n l (eval (.Call (.Name (Str.ofString "BadIndex") p0) [.Constant (.str x) j p1] [] p2) c.env) (Thrown w c.E) := by
    refine .eCall (.glob hw hg hx) (.ref rfl) (.argR .str fun v hv => .arg0 <| Go.cq ?_)
    obtain ⟨t, rfl⟩ := hv
    exact At.bad (by rw [hw.dp]; exact hroom) fun x t d hne h tk H => Thrown.intro (H.get (.head _)) H.X (k x t d hne h tk H)
  exact key h tk H
end
end
section
section
open PySem.SeqAt
variable {w : World} {c : Cx w} {n : Led} {l : Fm} {rest : List Stmt} {sc : Scope} {d u : Nat} {b : Bool}
theorem eq_nil {prog : Program} {w : World} {A : Around} {s : Shared} {E : Value → Shared → Prop} {Q : Value → Shared → Prop} {h₀ : Heap} {L D l : Addr} {ys : List Value} {k : Nat} {news : Led} (N : News h₀ L s.heap news) (h1 : (D, lstN ys k) ∈ news) (h2 : (l, W.listOf #[] 0) ∈ news) (hu : A.units < cLine)
    (h : Q (.bool ys.isEmpty) s) : wpAny (model prog w) A (compareOp .Eq (.ref D) (.ref l)) Q E s := by
  have a := News.isList N h1
  have b : s.heap.IsList l (#[] : Array Value) := News.isList (items := #[]) N h2
  cases ys with
  | nil => exact RcAt.lists (e := fun _ => true) a b rfl hu (fun j h1 h2 => absurd h1 (Nat.not_lt_zero j)) prog w E Q (by simpa using h)
  | cons c r => exact RcAt.lists_lengths a b (by simp) hu prog w E Q h
noncomputable def LstG {w : World} (c : Cx w) (n : Led) (l : Fm) (e : PySem.Expr) (P : List Value → Prop) : Prop := EvG c n l e fun v n' => ∃ a vs k, v = .ref a ∧ (a, lstN vs k) ∈ n' ∧ (∀ q ∈ n, q ∈ n') ∧ P vs
theorem LstG.of {e : PySem.Expr} {a : Addr} {vs : List Value} {k : Nat} (he : EvP c n l e (.ref a)) (ha : (a, lstN vs k) ∈ n) : LstG c n l e (· = vs) := he.g (Y3_4 a vs k rfl ha (fun _ h => h) rfl)
theorem Tst.neG {e : PySem.Expr} {p1 p2 : Pos} {P : List Value → Prop} {p : Prop} (he : LstG c n l e P) (hu : c.un < cLine) (hp : ∀ vs, P vs → (vs ≠ [] ↔ p)) : Tst c n l (.Compare e [.NotEq] [.List [] p1] p2) p := fun Q k1 k2 h tk H => by
  refine wpAny_isTrue_Compare1 (he _ (fun v n' hv h tk H => ?_) h tk H)
  refine X3_4 hv ?_; clear hv; rintro a vs k rfl ha hs hP
  refine List_ (spliced_nil ?_)
  obtain ⟨m, hid, hV, F, N, O⟩ := H
  refine newList_K F N (fun b h' F' N' lt => ?_) (by decide)
  refine ne_nil N' (.tail _ (List.mem_append_right _ ha)) (.head _) hu ?_
  have H' : Hp c n l h' := Hp.sub ⟨m, hid, hV, F', News.sub N' fun _ h => .tail _ h, O⟩ hs
  refine wpAny_truthy_bool ?_
  have := hp vs hP
  cases vs with
  | nil => exact k2 (fun h => this.mpr h rfl) h' tk H'
  | cons v r => exact k1 (this.mp (by simp)) h' tk H'
theorem Tst.eqG {e : PySem.Expr} {p1 p2 : Pos} {P : List Value → Prop} {p : Prop} (he : LstG c n l e P) (hu : c.un < cLine) (hp : ∀ vs, P vs → (vs = [] ↔ p)) : Tst c n l (.Compare e [.Eq] [.List [] p1] p2) p := fun Q k1 k2 h tk H => by
  refine wpAny_isTrue_Compare1 (he _ (fun v n' hv h tk H => ?_) h tk H)
  refine X3_4 hv ?_; clear hv; rintro a vs k rfl ha hs hP
  refine List_ (spliced_nil ?_)
  obtain ⟨m, hid, hV, F, N, O⟩ := H
  refine newList_K F N (fun b h' F' N' lt => ?_) (by decide)
  refine eq_nil N' (.tail _ (List.mem_append_right _ ha)) (.head _) hu ?_
  have H' : Hp c n l h' := Hp.sub ⟨m, hid, hV, F', News.sub N' fun _ h => .tail _ h, O⟩ hs
  refine wpAny_truthy_bool ?_
  have := hp vs hP
  cases vs with
  | nil => exact k1 (this.mp rfl) h' tk H'
  | cons v r => exact k2 (fun h => by cases this.mpr h) h' tk H'
theorem CaG.lenL {a : Addr} {vs : List Value} {k : Nat} (ha : (a, lstN vs k) ∈ n) (hz : vs.length ≤ 100000) : CaG c n l (.builtin "len") [.ref a] fun r n' => IV vs.length r ∧ n' = n := fun Q kk h tk H => by
  have H' := H
  obtain ⟨m, hid, hV, F, N, O⟩ := H
  refine call_len_list (News.isList N (List.mem_append_right _ ha)) (by rw [List.size_toArray]; omega) ?_
  exact kk _ _ ⟨⟨_, by rw [List.size_toArray]⟩, rfl⟩ h _ H'
theorem EvR.lenL {vs : List Value} {e : PySem.Expr} {p0 p1 : Pos} {a : Addr} {k : Nat} (hw : Wk c sc d u b) (h : EvP c n l e (.ref a)) (ha : (a, lstN vs k) ∈ n) (hz : vs.length ≤ 100000) (hx : sc.names.lookup (Str.ofString "len") = some .globalImplicit := by rfl) (hg : nsIn (KK w) mainGlobals (Str.ofString "len") = some none := by rfl)
    (he : ∀ env, starEach [e] env = (false, eval e env) :: starEach [] env := by intro _; rfl) (hc : ∀ env : Env, eval (.Call (.Name (Str.ofString "len") p0) [e] [] p1) env = (do callWith p1 (← eval (.Name (Str.ofString "len") p0) env) [] (backTo p1 (starEach [e] env)) []) := by intro _; rfl) : EvR c n l (.Call (.Name (Str.ofString "len") p0) [e] [] p1) (IV vs.length) := fun Q kk => by
  refine At.eCall (.blt hw hg (by boot_fast) hx) .blt (At.argP h ?_ he) hc he
  refine .arg0 <| Go.cq <| CaG.lenL ha hz _ ?_
  rintro v _ ⟨hv, rfl⟩
  exact kk v hv
end
noncomputable abbrev entEs (w : World) (t1 t2 t3 t4 t5 t6 t7 t8 : Tok) (vp vm vo vs vt : Value) : List DictEntry :=
  [⟨PyData.keyHash w.params (Str.ofString "path"), .str (Str.ofString "path") t1, vp⟩, ⟨PyData.keyHash w.params (Str.ofString "mode"), .str (Str.ofString "mode") t2, vm⟩,
   ⟨PyData.keyHash w.params (Str.ofString "oid"), .str (Str.ofString "oid") t3, vo⟩, ⟨PyData.keyHash w.params (Str.ofString "stage"), .str (Str.ofString "stage") t4, vs⟩,
   ⟨PyData.keyHash w.params (Str.ofString "stat"), .str (Str.ofString "stat") t5, vt⟩, ⟨PyData.keyHash w.params (Str.ofString "is_assumed"), .str (Str.ofString "is_assumed") t6, .bool false⟩,
   ⟨PyData.keyHash w.params (Str.ofString "is_intent"), .str (Str.ofString "is_intent") t7, .bool false⟩, ⟨PyData.keyHash w.params (Str.ofString "is_skipped"), .str (Str.ofString "is_skipped") t8, .bool false⟩]
noncomputable def EntAt (w : World) (n : Led) (v : Value) (p : Bs) (st : Int) : Prop := ∃ x d xt t1 t2 t3 t4 t5 t6 t7 t8 tb to tm ts o md, v = .ref x ∧ (x, instObj 162 d) ∈ n ∧ (d, dictOf (entEs w t1 t2 t3 t4 t5 t6 t7 t8 (.bytes p.toArray tb) (.int md tm) (.bytes o to) (.int st ts) (.ref xt)) 8) ∈ n
theorem EntAt.sub {w : World} {n k : Led} {v : Value} {p : Bs} {st : Int} (h : EntAt w n v p st) (hs : ∀ q ∈ n, q ∈ k) : EntAt w k v p st := by
  refine X17_3 h ?_; clear h; rintro x d xt t1 t2 t3 t4 t5 t6 t7 t8 tb to tm ts o md h0 h1 h2
  exact Y17_3 x d xt t1 t2 t3 t4 t5 t6 t7 t8 tb to tm ts o md h0 (hs _ h1) (hs _ h2)
section
variable {w : World} {c : Cx w} {n : Led} {l : Fm}
theorem EvR.stage {e : PySem.Expr} {pos : Pos} {v : Value} {p : Bs} {st : Int} (he : EvP c n l e v) (h : EntAt w n v p st)
    (hx : ∀ env : Env, eval (.Attribute e (Str.ofString "stage") pos) env = (do
      let o ← eval e env
      standAt pos.atName
      let r ← holding [o] (getAttr o (Str.ofString "stage") true)
      letTemporaryGo e o r
      pure r) := by intro _; with_unfolding_all rfl) : EvR c n l (.Attribute e (Str.ofString "stage") pos) (IV st) := by
  refine X17_3 h ?_; clear h; rintro x d xt t1 t2 t3 t4 t5 t6 t7 t8 tb to tm ts o md rfl h1 h2
  exact EvP.r (.attr he h1 h2 pl_stage rfl rfl hx) ⟨ts, rfl⟩
end
end
section
noncomputable abbrev Ent := Value × (Bs × Int)
noncomputable def hasS (nm : Bs) : Prop := (Builtin.Bytes.find? nm.toArray [47].toArray 0 nm.toArray.size).isSome = true
noncomputable def under (inner : Bs) (e : Bs × Int) : Bool := decide (e.1.take inner.length = inner)
noncomputable def partOk (p : Tree) (pre : Bs) (es : List (Bs × Int)) : Prop := ¬ (hasS p.nm ∨ (es.filter (under (pre ++ p.nm ++ [47])) = [] ∧ 0 ≤ p.cn))
noncomputable def cntOk (cn : Int) (es : List (Bs × Int)) : Prop := ¬ (0 ≤ cn ∧ (cn ≠ es.length ∨ es.filter (fun e => decide (0 < e.2)) ≠ []))
mutual
noncomputable def Tree.fits : Tree → Bs → List (Bs × Int) → Prop
  | .mk _ cn _ ps, pre, es => cntOk cn es ∧ Tree.fitss ps pre es
noncomputable def Tree.fitss : List Tree → Bs → List (Bs × Int) → Prop
  | [], _, _ => True
  | p :: r, pre, es => (partOk p pre es ∧ p.fits (pre ++ p.nm ++ [47]) (es.filter (under (pre ++ p.nm ++ [47])))) ∧ Tree.fitss r pre es
end
structure Cd where
  tp : Addr
  v : Value
  t : Tree
  pre : Bs
  le : Addr
  Z : List Ent
noncomputable abbrev Cd.es (p : Cd) : List (Bs × Int) := p.Z.map Prod.snd
noncomputable abbrev Cd.ok (p : Cd) : Prop := p.t.fits p.pre p.es
structure CdIn (w : World) (n k : Led) (wl : Addr) (p : Cd) : Prop where
  tp : ∃ tok, (p.tp, tup [p.v, .bytes p.pre.toArray tok, .ref p.le]) ∈ k
  tr : TreeIn w n p.v p.t
  le : ∃ j, (p.le, lstN (p.Z.map Prod.fst) j) ∈ k
  en : ∀ z ∈ p.Z, EntAt w n z.1 z.2.1 z.2.2
  sz : p.Z.length ≤ 1000
  gd : p.t.Good
  ln : p.pre.length + 11 * p.t.ht ≤ 2000
  ne : @Ne Nat p.le wl
structure CkI (w : World) (n : Led) (wl : Addr) (P : List Cd) (k : Led) : Prop where
  sub : ∀ q ∈ n, q ∈ k
  st : ∃ j, (wl, lstN (P.map fun p => .ref p.tp) j) ∈ k
  nw : ∀ q ∈ n, @Ne Nat q.1 wl
  cd : ∀ p ∈ P, CdIn w n k wl p
theorem CdIn.sub {w : World} {n k k' : Led} {wl : Addr} {p : Cd} (h : CdIn w n k wl p) (hs : ∀ q ∈ k, q ∈ k') : CdIn w n k' wl p :=
  ⟨h.tp.imp fun _ h => hs _ h, h.tr, h.le.imp fun _ h => hs _ h, h.en, h.sz, h.gd, h.ln, h.ne⟩
theorem CkI.sub' {w : World} {n k k' : Led} {wl : Addr} {P : List Cd} (h : CkI w n wl P k) (hs : ∀ q ∈ k, q ∈ k') : CkI w n wl P k' :=
  ⟨fun q hq => hs q (h.sub q hq), h.st.imp fun _ h => hs _ h, h.nw, fun p hp => (h.cd p hp).sub hs⟩
theorem CdIn.mut {w : World} {n k k' : Led} {wl : Addr} {p : Cd} {us : List Value} {i : Nat} {o : Obj} (c : CdIn w n k wl p) (hF : Fn k) (hst : (wl, lstN us i) ∈ k) (M : Mut k k' wl o) : CdIn w n k' wl p := by
  obtain ⟨tok, t⟩ := c.tp
  obtain ⟨i, le⟩ := c.le
  exact ⟨⟨tok, M.sub _ t (ne_kind hF t hst tup_lst)⟩, c.tr, ⟨i, M.sub _ le c.ne⟩, c.en, c.sz, c.gd, c.ln, c.ne⟩
theorem CkI.mut {w : World} {n k k' : Led} {wl : Addr} {P P' : List Cd} {j : Nat} (h : CkI w n wl P k) (hF : Fn k) (M : Mut k k' wl (lstN (P'.map fun p => .ref p.tp) j)) (hP : ∀ p ∈ P', CdIn w n k wl p) : CkI w n wl P' k' := by
  obtain ⟨j0, hst⟩ := h.st
  exact ⟨fun q hq => M.sub q (h.sub q hq) (h.nw q hq), ⟨j, M.mem⟩, h.nw, fun p hp => (hP p hp).mut hF hst M⟩
theorem ht_part {ps : List Tree} {p : Tree} (h : p ∈ ps) {nm : Bs} {cn : Int} {od : Option Bs} : p.ht + 1 ≤ (Tree.mk nm cn od ps).ht := by
  have := Tree.ht_le h
  have e : (Tree.mk nm cn od ps).ht = Tree.hts ps + 1 := by rw [Tree.ht]
  lia
theorem fitss_cons {p : Tree} {r : List Tree} {pre : Bs} {es : List (Bs × Int)} : Tree.fitss (p :: r) pre es = ((partOk p pre es ∧ p.fits (pre ++ p.nm ++ [47]) (es.filter (under (pre ++ p.nm ++ [47])))) ∧ Tree.fitss r pre es) := by rw [Tree.fitss]
theorem fitss_drop {ps : List Tree} {i : Nat} {p : Tree} {pre : Bs} {es : List (Bs × Int)} (h : ps[i]? = some p) : Tree.fitss (ps.drop i) pre es ↔ (partOk p pre es ∧ p.fits (pre ++ p.nm ++ [47]) (es.filter (under (pre ++ p.nm ++ [47])))) ∧ Tree.fitss (ps.drop (i + 1)) pre es := by
  rw [List.drop_eq_getElem?_toList_append, h]
  show Tree.fitss (p :: ps.drop (i + 1)) pre es ↔ _
  rw [fitss_cons]
theorem szs_drop {ps : List Tree} {i : Nat} {p : Tree} (h : ps[i]? = some p) : Tree.szs (ps.drop i) = p.sz + Tree.szs (ps.drop (i + 1)) := by
  rw [List.drop_eq_getElem?_toList_append, h]
  rfl
theorem filter_snd {Z : List Ent} {f : Bs × Int → Bool} : (Z.filter fun z => f z.2).map Prod.snd = (Z.map Prod.snd).filter f := by
  rw [List.filter_map]
  rfl
noncomputable abbrev frK (en rt wt on pf sm pt ks nn bl : Option Value) : Fm := [(Str.ofString "entries", en), (Str.ofString "root", rt), (Str.ofString "waiting", wt), (Str.ofString "one", on), (Str.ofString "prefix", pf), (Str.ofString "some", sm), (Str.ofString "part", pt), (Str.ofString "keys", ks), (Str.ofString "inner", nn), (Str.ofString "below", bl)]
end
section
theorem fits_mk {nm : Bs} {cn : Int} {od : Option Bs} {ps : List Tree} {pre : Bs} {es : List (Bs × Int)} : Tree.fits (.mk nm cn od ps) pre es = (cntOk cn es ∧ Tree.fitss ps pre es) := by rw [Tree.fits]
section
variable {w : World} {c : Cx w} {n : Led} {l : Fm} {rest : List Stmt} {sc : Scope} {d u : Nat}
noncomputable def PickJ (w : World) (n : Led) (Z : List Ent) (f : Bs × Int → Bool) (k0 : Led) (i : Nat) (ys : List Value) (k : Led) : Prop := (∀ q ∈ k0, q ∈ k) ∧ ys = ((Z.take i).filter fun z => f z.2).map Prod.fst
theorem pick_step {n : Led} {Z : List Ent} {f : Bs × Int → Bool} {k0 k : Led} {i : Nat} {ys : List Value} {z : Ent} (h : PickJ w n Z f k0 i ys k) (hz : Z[i]? = some z) : (f z.2 = true → PickJ w n Z f k0 (i + 1) (ys ++ [z.1]) k) ∧ (f z.2 = false → PickJ w n Z f k0 (i + 1) ys k) := by
  obtain ⟨h1, rfl⟩ := h
  refine ⟨fun e => ⟨h1, ?_⟩, fun e => ⟨h1, ?_⟩⟩
  · rw [List.take_succ, hz, List.filter_append, List.map_append]
    congr 1
    show _ = List.map Prod.fst (List.filter _ [z])
    rw [List.filter_cons_of_pos (by exact e)]
    rfl
  · rw [List.take_succ, hz, List.filter_append, List.map_append]
    show _ = _ ++ List.map Prod.fst (List.filter _ [z])
    rw [List.filter_cons_of_neg (by simpa using e), List.filter_nil, List.map_nil, List.append_nil]
theorem pick_end {n : Led} {Z : List Ent} {f : Bs × Int → Bool} {k0 k : Led} {ys : List Value} (h : PickJ w n Z f k0 (Z.map Prod.fst).length ys k) : ys = (Z.filter fun z => f z.2).map Prod.fst := by
  rw [h.2, List.length_map, List.take_length]
noncomputable def KeysJ (w : World) (k0 : Led) (ps : List Tree) (i : Nat) (ys : List Value) (k : Led) : Prop := (∀ q ∈ k0, q ∈ k) ∧ ys.length = i ∧ ∀ (j : Nat) (y : Value), ys[j]? = some y → ∃ (T : Addr) (p : Tree) (t1 t2 : Tok), ps[j]? = some p ∧ y = .ref T ∧ (T, tup [.int p.nm.length t1, .bytes p.nm.toArray t2]) ∈ k
end
end
section
theorem meth_eq {v : PySem.Expr} {nm name : Str} {p apos pos : Pos} {args : List PySem.Expr} {env : Env} (hpos : (apos.endLine == pos.line) = true) (hform : methodCallForm (args.length + 0) (backTo pos (starEach args env)) [] = true) :
    eval (.Call (.Attribute (.Attribute v nm p) name apos) args [] pos) env = (do
      let ov ← eval (.Attribute v nm p) env
      standAt apos.atName
      let (f, first) ← holding [ov] (getMethod ov name (do return (← importBound (.Attribute v nm p) env).getD true))
      callWith pos f first (backTo pos (starEach args env)) []) := by
  rw [arm_eval_Call]
  have e : ∀ ov, methodCall (.Attribute v nm p) name apos pos env ov (args.length + 0) (backTo pos (starEach args env)) (backToKw pos (keywordEach [] env)) = (do
      let (f, first) ← holding [ov] (getMethod ov name (do return (← importBound (.Attribute v nm p) env).getD true))
      callWith pos f first (backTo pos (starEach args env)) []) := fun ov => by
    have hp : methodCallPos (methodCallForm (args.length + 0) (backTo pos (starEach args env)) (backToKw pos (keywordEach [] env))) (.Attribute v nm p) env apos pos = pure pos := by
      unfold methodCallPos
      rw [if_pos (by rw [hpos]; simp)]
    unfold methodCall
    rw [hp]
    show (holding [ov] (calleeOf (methodCallForm (args.length + 0) (backTo pos (starEach args env)) []) (.Attribute v nm p) env ov name) >>= fun x => pure pos >>= fun callPos => callWith callPos x.1 x.2 (backTo pos (starEach args env)) []) = _
    rw [hform]
    rfl
  show (eval (.Attribute v nm p) env >>= fun ov => standAt apos.atName >>= fun _ => methodCall (.Attribute v nm p) name apos pos env ov (args.length + 0) (backTo pos (starEach args env)) (backToKw pos (keywordEach [] env))) = _
  simp only [e]
section
variable {w : World} {c : Cx w} {n : Led} {l : Fm}
theorem At.eMethA {v e : PySem.Expr} {es : List PySem.Expr} {p apos pos : Pos} {ov f : Value} {nm name : Str} {first : List Value} {Q : Value → Shared → Prop} (ho : EvP c n l (.Attribute v nm p) ov) (hm : Mt c n l ov name f first) (hc : Cal w f) (k : At c n l (spliced (backTo pos (starEach (e :: es) c.env))) (Cq c f first Q))
    (hpos : (apos.endLine == pos.line) = true := by rfl) (hform : ∀ env, methodCallForm ((e :: es).length + 0) (backTo pos (starEach (e :: es) env)) [] = true := by intro _; rfl)
    (he : ∀ env, starEach (e :: es) env = (false, eval e env) :: starEach es env := by intro _; rfl) (hp : ∀ env pos, (backTo pos (starEach es env)).any (·.1) = false := by intro _ _; rfl) : At c n l (eval (.Call (.Attribute (.Attribute v nm p) name apos) (e :: es) [] pos) c.env) Q :=
  .eMeth ho hm hc k (fun _ => ⟨_, meth_eq hpos (hform _)⟩) he hp
end
end
section
theorem check_L {w : World} {c : Cx w} {n : Led} {l : Fm} {el : Addr} {Z : List Ent} {j : Nat} {v : Value} {t : Tree} (hroom : c.dp + 3 < recursionLimit) (hu : c.un + 20 < cLine) (hEl : (el, lstN (Z.map Prod.fst) j) ∈ n) (hEn : ∀ z ∈ Z, EntAt w n z.1 z.2.1 z.2.2) (hz : Z.length ≤ 1000) (ht : TreeIn w n v t) (hg : t.Good)
    (hh : 11 * t.ht ≤ 2000) (hsz : t.sz ≤ 1000) {Q : Value → Shared → Prop} (k1 : t.fits [] (Z.map Prod.snd) → ∀ n', (∀ q ∈ n, q ∈ n') → Go c n' l Q .none) (k2 : ¬ t.fits [] (Z.map Prod.snd) → ∀ x, Rai c n l x) : At c n l (call (.ref 294) [.ref el, v]) Q := by
  refine At.enter (by exact rfl) (by lia) [Str.ofString "entries", Str.ofString "root"] [Str.ofString "waiting", Str.ofString "one", Str.ofString "prefix", Str.ofString "some", Str.ofString "part", Str.ofString "keys", Str.ofString "inner", Str.ofString "below"] (frK (some (.ref el)) (some v) none none none none none none none none) fun c' RQ hI => ?_
  have hw := hI.wk
  refine .assignQ <| .eList <| .argQ <| .eTup <| .argP (.name rfl) <| .argR .bytes fun pv hpv => .argP (.name rfl) <| .arg0 ?_
  obtain ⟨tok, rfl⟩ := hpv
  refine At.newTup fun tp0 n1 hT => At.arg0 <| At.newLst fun wl n2 hW => Go.aq hw ?_
  refine .while_ hw (fun m k l' => ∃ P o1 o2 o3 o4 o5 o6 o7, l' = frK (some (.ref el)) (some v) (some (.ref wl)) o1 o2 o3 o4 o5 o6 o7 ∧ CkI w n wl P k ∧ (t.fits [] (Z.map Prod.snd) ↔ ∀ p ∈ P, p.ok) ∧ m = Tree.szs (P.map Cd.t) ∧ m ≤ 1000) (k₀ := t.sz) (Y8_5 [⟨tp0, v, t, [], el, Z⟩] none none none none none none none rfl ?_ ?_ (by simp [Tree.szs]) hsz) ?_
  · refine ⟨fun q hq => hW.sub q (hT.sub q hq), ⟨0, hW.mem⟩, fun q hq => hW.ne q (hT.sub q hq), fun p hp => ?_⟩
    rw [List.mem_singleton.mp hp]
    exact ⟨⟨tok, hW.sub _ hT.mem⟩, ht, ⟨j, hW.sub _ (hT.sub _ hEl)⟩, hEn, hz, hg, by simpa using hh, hW.ne _ (hT.sub _ hEl)⟩
  · exact ⟨fun h p hp => by rw [List.mem_singleton.mp hp]; exact h, fun h => h _ (.head _)⟩
  rintro m k _ TQ zz; refine X8_5 zz ?_; clear zz; rintro P o1 o2 o3 o4 o5 o6 o7 rfl H hok rfl hm; rintro next _
  obtain ⟨jw, hst⟩ := H.st
  refine Y1_3 _ (.neNil (.name rfl) hst (by rw [hw.un]; lia)) (fun hP => ?_) (fun hP => ?_)
  · rcases List.eq_nil_or_concat P with rfl | ⟨P, ⟨tp, pv, ⟨nm, cn, od, ps⟩, pre, le, pZ⟩, eP⟩
    · exact absurd rfl hP
    rw [List.concat_eq_append] at eP
    subst eP
    refine At.fn fun fk => ?_
    have hc := H.cd _ (List.mem_append_right _ (.head _))
    rw [List.map_append] at hst
    refine .tupQ <| .eMeth0 (.name rfl) (.list hst PySem.F.slot_list_pop PySem.F.type_list_pop) .blt <| Hp.pop (v := .ref tp) hst (by have := szs_len (P.map Cd.t); rw [List.map_append, szs_app] at hm; rw [List.length_map] at this ⊢; lia) _ fun r k3 hr => ?_
    refine X0_2 hr ?_; clear hr; rintro rfl ⟨j1, M1⟩
    have H1 : CkI w n wl P k3 := H.mut fk M1 fun q hq => H.cd q (List.mem_append_left _ hq)
    have hc1 := hc.mut fk hst M1
    obtain ⟨ptok, htp⟩ := hc1.tp
    refine Go.tup3 hw htp ?_
    obtain ⟨jl, hle⟩ := hc1.le
    have hzl : (pZ.map Prod.fst).length ≤ 1000 := by rw [List.length_map]; exact hc1.sz
    have hgood := hc1.gd
    cases hgood with
    | mk hgp hps64 hpw hpz =>
    refine hc1.tr.open ?_
    intro a d tn vo pl t1 t2 t3 t4 t5 vs iv e g1 g2 g4 g5 g6 g7
    have e : pv = .ref a := e
    subst e
    have s3 := H1.sub
    have hcur : (⟨tp, .ref a, .mk nm cn od ps, pre, le, pZ⟩ : Cd).ok ↔ cntOk cn (pZ.map Prod.snd) ∧ Tree.fitss ps pre (pZ.map Prod.snd) := by rw [← fits_mk (nm := nm) (od := od)]
    have hok' : t.fits [] (Z.map Prod.snd) ↔ (∀ p ∈ P, p.ok) ∧ cntOk cn (pZ.map Prod.snd) ∧ Tree.fitss ps pre (pZ.map Prod.snd) := by
      rw [hok, ← hcur]
      refine ⟨fun h => ⟨fun p hp => h p (List.mem_append_left _ hp), h _ (List.mem_append_right _ (.head _))⟩, fun h p hp => ?_⟩
      rcases List.mem_append.mp hp with hp | hp
      · exact h.1 p hp
      · rw [List.mem_singleton.mp hp]; exact h.2
    have rz : ∀ {k' : Led} {l' : Fm}, (∀ q ∈ n, q ∈ k') → ¬ t.fits [] (Z.map Prod.snd) → ∀ x t d, (∀ p ∈ k', @Ne Nat p.1 x) → ∀ h tk, Hp c' ((x, excD t d) :: k') l' h → c'.E (.ref x) { c'.s with heap := h, toks := tk } := fun {k' l'} hs hno x t d hne h tk Hx =>
      hI.rai (k2 hno x) h tk (Hp.sub Hx fun q hq => (List.mem_cons.mp hq).elim (fun e => by rw [e]; exact .head _) fun hq => .tail _ (hs q hq)) fun p hp => hne p (hs p hp)
    refine .guard (p := ¬ cntOk cn (pZ.map Prod.snd)) (Tst.cast (.and2 (.cmp (EvP.r (P := IV cn) (.cn (.name rfl) (s3 _ g1) (s3 _ g2)) ⟨_, rfl⟩) .int fun a b ha hb => .iGe ha hb) fun _ => .or2 (.cmp (EvP.r (P := IV cn) (.cn (.name rfl) (s3 _ g1) (s3 _ g2)) ⟨_, rfl⟩) (.lenL hw (.name rfl) hle (Nat.le_trans hzl (by decide))) fun a b ha hb => .iNe ha hb) fun _ => Tst.neG (P := fun vs => vs = (pZ.filter fun z => decide (0 < z.2.2)).map Prod.fst) (p := (pZ.map Prod.snd).filter (fun e => decide (0 < e.2)) ≠ []) (fun Q3 kk3 => ?_) (by rw [hw.un]; lia) ?_) ?_) (fun hp => ?_) fun hp => ?_
    · refine At.eCompT hw (.name rfl) hle hzl (PickJ w n pZ (fun e => decide (0 < e.2)) k3) ⟨fun _ h => h, by simp⟩ (fun i ys k h => h.1 _ hle) (fun i v ys k c2 hv hj hw2 => ?_) fun D ys k k' hj hD => kk3 _ _ (Y3_4 D ys _ rfl hD.mem (fun q hq => hD.sub q (hj.1 q hq)) (pick_end hj))
      rw [List.getElem?_map] at hv
      refine X1_2 (Option.map_eq_some_iff.mp hv) ?_; rintro z hz1 rfl
      have hza := (hc1.en z (List.mem_of_getElem? hz1)).sub fun q hq => hj.1 q (s3 q hq)
      obtain ⟨y1, y2⟩ := pick_step hj hz1
      exact Y1_3 (0 < z.2.2) (.cmp (.stage (.name rfl) hza) .int fun a b ha hb => .iGt ha hb) (fun hp Q4 kk4 => (show EvP c2 k _ (.Name (Str.ofString "entry") _) z.1 from .name rfl) Q4 (kk4 _ _ (y1 (by simpa using hp)))) (fun hp => y2 (by simpa using hp))
    · rintro vs rfl
      rw [← filter_snd (f := fun e : Bs × Int => decide (0 < e.2))]
      simp
    · unfold cntOk
      rw [List.length_map, List.length_map]
      exact Classical.not_not.symm
    · exact At.raise hw (by omega) fun x t d hne h tk Hx => rz s3 (fun h => hp (hok'.mp h).2.1) x t d hne h tk Hx
    · have hcnt : cntOk cn (pZ.map Prod.snd) := Classical.byContradiction hp
      have hvp := trees_len g6
      have nmof : ∀ {i : Nat} {v : Value}, vs[i]? = some v → ∃ p : Tree, ps[i]? = some p ∧ TreeIn w n v p ∧ NmAt w n v p.nm := fun {i v} hv => by
        refine X1_2 (trees_get g6 hv) ?_; rintro ⟨nm3, cn3, od3, ps3⟩ hpi hti
        refine Y1_3 _ hpi hti ?_
        exact hti.open fun a3 d3 tn3 vo3 pl3 x1 x2 x3 x4 x5 vs3 i3 e f1 f2 f4 f5 f6 f7 => Y11_3 a3 d3 x1 x2 x3 x4 x5 tn3 vo3 cn3 pl3 e f1 f2
      refine .asgComp hw (.pt (.name rfl) (s3 _ g1) (s3 _ g2)) (s3 _ g5) g7 (KeysJ w k3 ps) (Y0_3 (fun _ h => h) rfl (fun j y h => by simp at h)) (fun i ys k h => h.1 _ (s3 _ g5)) (fun i v ys k c2 hv hj hw2 Q3 kk3 => ?_) fun K kys k4 k5 hj hK => ?_
      · refine X0_3 hj ?_; clear hj; rintro q1 q2 q3
        refine X1_3 (nmof hv) ?_; rintro p hpi _ zz; obtain ⟨x, dx, x1, x2, x3, x4, x5, tn3, vo3, cn3, pl3, rfl, f1, f2⟩ := zz
        have f1' := q1 _ (s3 _ f1)
        have f2' := q1 _ (s3 _ f2)
        refine .eTup <| .argR (.lenB hw2 (EvP.r (P := BW p.nm) (.nm (.name rfl) f1' f2' rfl) ⟨_, rfl⟩) (Nat.le_trans (hpz p (List.mem_of_getElem? hpi)) (by decide))) fun lv hlv => .argP (.nm (.name rfl) f1' f2' rfl) <| .arg0 <| At.newTup fun T k' hT => kk3 _ _ (Y0_3 (fun q hq => hT.sub q (q1 q hq)) (by rw [List.length_append, q2]; rfl) (fun j y hj => ?_))
        obtain ⟨tl, rfl⟩ := hlv
        by_cases hlt : j < ys.length
        · rw [List.getElem?_append_left hlt] at hj
          refine X4_3 (q3 j y hj) fun T' p' u1 u2 z1 z2 z3 => ?_
          exact Y4_3 T' p' u1 u2 z1 z2 (hT.sub _ z3)
        · have ej : j = ys.length := by
            rcases Nat.lt_or_ge j (ys.length + 1) with h | h
            · lia
            · rw [List.getElem?_eq_none (by simp; omega)] at hj; cases hj
          subst ej
          rw [List.getElem?_append_right (Nat.le_refl _), Nat.sub_self] at hj
          cases hj
          exact Y4_3 T p _ _ (by rw [q2]; exact hpi) rfl hT.mem
      · refine X0_3 hj ?_; clear hj; rintro q1 q2 q3
        have s5 : ∀ q ∈ k3, q ∈ k5 := fun q hq => hK.sub q (q1 q hq)
        refine .guard (p := False) (Tst.neG (P := fun vs => vs = []) (fun Q3 kk3 => ?_) (by rw [hw.un]; lia) (fun vs h => by simp [h])) (fun h => h.elim) fun _ => ?_
        · refine At.pairComp (cnt := min kys.length (kys.drop 1).length) (val := fun _ i a b => kys[i]? = some a ∧ (kys.drop 1)[i]? = some b) (Sk := fun D h => h.IsList K kys.toArray ∧ h.IsList D (kys.drop 1).toArray) hw (fun D i ys k => (∀ q ∈ k5, q ∈ k) ∧ ys = [] ∧ (D, lstN (kys.drop 1) 0) ∈ k) ?_ ?_ ?_ ?_
          · refine .eCall (.blt hw rfl (by boot_fast)) .typ <| .argP (.name rfl) <| .argQ <| .cutL (.name rfl) hK.mem (.some .int) .none (by lia) fun D k6 hD => At.arg0 <| Go.cq ?_
            rw [pick_from1] at hD
            exact At.srcEx D (At.srcZip (hD.sub _ hK.mem) hD.mem (Y0_3 hD.sub rfl hD.mem) (by omega))
          · rintro D i ys k m hid h zz; refine X0_3 zz ?_; clear zz; rintro r1 _ r2; rintro F N
            exact ⟨News.isList N (List.mem_append_right _ (r1 _ hK.mem)), News.isList N (List.mem_append_right _ r2)⟩
          · rintro D i x y ys k c2 hi ⟨hx, hy⟩ zz; refine X0_3 zz ?_; clear zz; rintro r1 rfl r2; rintro hw2
            rw [List.getElem?_drop, Nat.add_comm] at hy
            refine X4_3 (q3 _ _ hx) ?_; rintro T1 p1 u1 u2 z1 rfl z3
            refine X4_3 (q3 _ _ hy) ?_; rintro T2 p2 u3 u4 z4 rfl z6
            have hlt := pair_next hpw i p1.nm p2.nm (by rw [List.getElem?_map, z1]; rfl) (by rw [List.getElem?_map, z4]; rfl)
            exact Y1_3 False (.one (Cmp.keys (.name rfl) (.name rfl) (r1 _ (hK.sub _ z3)) (r1 _ (hK.sub _ z6)) hlt (by rw [hw2.un]; lia))) (fun h => h.elim) (fun _ => (Y0_3 r1 rfl r2))
          · rintro D E ys k k' zz; refine X0_3 zz ?_; clear zz; rintro r1 rfl r2; rintro hE
            exact kk3 _ _ (Y3_4 E [] _ rfl hE.mem (fun q hq => hE.sub q (r1 q hq)) rfl)
        · have H5 := H1.sub' s5
          refine .forL hw (.pt (.name rfl) (s5 _ (s3 _ g1)) (s5 _ (s3 _ g2))) (s5 _ (s3 _ g5)) (fun i k l' => ∃ news o5 o7 o8, l' = frK (some (.ref el)) (some v) (some (.ref wl)) (some (.ref a)) (some (.bytes pre.toArray ptok)) (some (.ref le)) o5 (some (.ref K)) o7 o8 ∧ CkI w n wl (P ++ news) k ∧ (le, lstN (pZ.map Prod.fst) jl) ∈ k ∧
            (t.fits [] (Z.map Prod.snd) ↔ (∀ p ∈ P ++ news, p.ok) ∧ Tree.fitss (ps.drop i) pre (pZ.map Prod.snd)) ∧ Tree.szs ((P ++ news).map Cd.t) + Tree.szs (ps.drop i) = Tree.szs (P.map Cd.t) + Tree.szs ps) ?_ ?_ ?_ ?_
          · refine Y4_5 [] _ _ _ rfl (by rw [List.append_nil]; exact H5) (s5 _ hle) ?_ (by simp)
            rw [hok', List.append_nil, List.drop_zero]
            exact ⟨fun h => ⟨h.1, h.2.2⟩, fun h => (Y0_3 h.1 hcnt h.2)⟩
          · rintro i k l' zz; refine X4_3 zz ?_; clear zz; rintro news o5 o7 o8 rfl H6 _
            exact ⟨H6.sub _ g5, rfl⟩
          · rintro i v6 k l' ci TQ2 hv zz; refine X4_5 zz ?_; clear zz; rintro news o5 o7 o8 rfl H6 hle6 hok6 hsz6; rintro hn
            have hw2 := hn.wk
            have s6 := H6.sub
            refine X1_3 (nmof hv) ?_; rintro p hpi htp6 zz; obtain ⟨x, dx, x1, x2, x3, x4, x5, tn3, vo3, cn3, pl3, rfl, f1, f2⟩ := zz
            have hpm := List.mem_of_getElem? hpi
            have hpn := hpz p hpm
            have hln := hc1.ln
            have hht := ht_part hpm (nm := nm) (cn := cn) (od := od)
            have hpc : ∃ y1 y2 y3 y4 y5 vn6 vo6 pl6 dx6, (x, instObj 207 dx6) ∈ n ∧ (dx6, dictOf (treeEs w y1 y2 y3 y4 y5 vn6 vo6 p.cn pl6) 4) ∈ n := by
              obtain ⟨nm7, cn7, od7, ps7⟩ := p
              exact htp6.open fun a3 d3 tn3 vo3 pl3 x1 x2 x3 x4 x5 vs3 i3 e f1 f2 f4 f5 f6 f7 => Y9_2 x1 x2 x3 x4 x5 _ vo3 pl3 d3 (by have e' : Value.ref x = .ref a3 := e; cases e'; exact f1) f2
            refine X9_2 hpc ?_; clear hpc; rintro y1 y2 y3 y4 y5 vn6 vo6 pl6 dx6 g8 g9
            have hpl : pre.length ≤ 2000 := by simp only at hln; lia
            refine .assignR hw2 (.addB (.addB (EvP.r (P := BW pre) (.name rfl) ⟨_, rfl⟩) (EvP.r (P := BW p.nm) (.nm (.name rfl) (s6 _ f1) (s6 _ f2) rfl) ⟨_, rfl⟩) (by lia)) .bytes (by simp; lia)) fun iv hiv => ?_
            obtain ⟨itok, rfl⟩ := hiv
            refine .asgCompT hw2 (.name rfl) hle6 hzl (PickJ w n pZ (under (pre ++ p.nm ++ [47])) k) ⟨fun _ h => h, by simp⟩ (fun i ys k h => h.1 _ hle6) (fun i v ys k c2 hv hj hw3 => ?_) fun D ys k7 k8 hj hD => ?_
            · rw [List.getElem?_map] at hv
              refine X1_2 (Option.map_eq_some_iff.mp hv) ?_; rintro z hz1 rfl
              have hza := (hc1.en z (List.mem_of_getElem? hz1)).sub fun q hq => hj.1 q (s6 q hq)
              obtain ⟨r1, r2⟩ := pick_step hj hz1
              obtain ⟨zv, zp, zst⟩ := z
              refine X17_3 hza ?_; clear hza; rintro xe de xt b1 b2 b3 b4 b5 b6 b7 b8 tb to tm ts oo md rfl e1 e2
              refine Y1_3 (zp.take (pre ++ p.nm ++ [47]).length = pre ++ p.nm ++ [47]) (.val fun Q5 kk5 => At.eMethA (.attr (.name rfl) e1 e2 pl_path rfl rfl) Mt.starts .blt <| .argP (.name rfl) <| .arg0 <| Go.cq <| CaG.starts _ ?_) (fun hp Q4 kk4 => (show EvP c2 k _ (.Name (Str.ofString "entry") _) (.ref xe) from .name rfl) Q4 (kk4 _ _ (r1 (decide_eq_true hp)))) (fun hp => r2 (decide_eq_false hp))
              rintro _ _ ⟨rfl, rfl⟩
              exact kk5 _ (Y1_2 _ rfl (by simp))
            · have hys := pick_end hj
              have s7 : ∀ q ∈ k, q ∈ k8 := fun q hq => hD.sub q (hj.1 q hq)
              have s8 : ∀ q ∈ n, q ∈ k8 := fun q hq => s7 q (s6 q hq)
              have hes : (pZ.filter fun z => under (pre ++ p.nm ++ [47]) z.2).map Prod.snd = (pZ.map Prod.snd).filter (under (pre ++ p.nm ++ [47])) := filter_snd
              refine .guard (p := ¬ partOk p pre (pZ.map Prod.snd)) (Tst.cast (.or2 (.inB .bytes (EvP.r (P := BW p.nm) (.nm (.name rfl) (s8 _ f1) (s8 _ f2) rfl) ⟨_, rfl⟩)) fun _ => .and2 (Tst.eqG (.of (.name rfl) hD.mem) (by rw [hw2.un]; lia) (p := (pZ.map Prod.snd).filter (under (pre ++ p.nm ++ [47])) = []) ?_) fun _ => .cmp (EvP.r (P := IV p.cn) (.cn (.name rfl) (s8 _ g8) (s8 _ g9)) ⟨_, rfl⟩) .int fun a b ha hb => .iGe ha hb) ?_) (fun hp => ?_) fun hp => ?_
              · rintro vs rfl
                rw [← hes, hys]
                simp
              · exact Classical.not_not.symm
              · refine At.raise hw2 (by lia) fun x t d hne h tk Hx => ?_
                rw [hn.err, hn.st]
                exact rz s8 (fun h => hp ((fitss_drop hpi).mp (hok6.mp h).2).1.1) x t d hne h tk (hn.out _ _ _ Hx)
              · have hpo : partOk p pre (pZ.map Prod.snd) := Classical.byContradiction hp
                obtain ⟨jw6, hst6⟩ := H6.st
                refine .exprQ <| .eMeth (.name rfl) (.list (s7 _ hst6) PySem.F.slot_list_append PySem.F.type_list_append) .blt <| .argQ <| .eTup <| .argP (.name rfl) <| .argP (.name rfl) <| .argP (.name rfl) <| .arg0 <| At.newTup fun tpn k9 hTn => At.arg0 <| Go.cq <| At.fn fun fk9 => Hp.app (hTn.sub _ (s7 _ hst6)) ?_ _ ?_
                · have := szs_len ((P ++ news).map Cd.t)
                  rw [List.length_map] at this ⊢
                  rw [List.map_append, szs_app] at hm
                  have e1 : Tree.szs (List.map Cd.t [(⟨tp, .ref a, .mk nm cn od ps, pre, le, pZ⟩ : Cd)]) = Tree.szs ps + 1 := by show Tree.sz (.mk nm cn od ps) + 0 = _; rw [Tree.sz]
                  lia
                · rintro _ ku zz; refine X0_2 zz ?_; clear zz; rintro rfl ⟨ju, Mu⟩
                  refine Go.xq <| .nil <| hn.next _ _ ?_
                  have H10 : CkI w n wl (P ++ (news ++ [⟨tpn, .ref x, p, pre ++ p.nm ++ [47], D, pZ.filter fun z => under (pre ++ p.nm ++ [47]) z.2⟩])) ku := by
                    have H9 : CkI w n wl (P ++ news) k9 := H6.sub' fun q hq => hTn.sub q (s7 q hq)
                    refine H9.mut (P' := P ++ (news ++ [⟨tpn, .ref x, p, pre ++ p.nm ++ [47], D, pZ.filter fun z => under (pre ++ p.nm ++ [47]) z.2⟩])) (j := ju) fk9 (by rw [← List.append_assoc, List.map_append]; exact Mu) fun q hq => ?_
                    rw [← List.append_assoc] at hq
                    rcases List.mem_append.mp hq with hq | hq
                    · exact H9.cd q hq
                    · rw [List.mem_singleton.mp hq]
                      refine ⟨⟨itok, hTn.mem⟩, htp6, ⟨_, hTn.sub _ (by rw [hys] at hD; exact hD.mem)⟩, fun z hz => hc1.en z (List.mem_filter.mp hz).1, Nat.le_trans (List.length_filter_le _ _) hc1.sz, hgp p hpm, ?_, Ne.symm (hD.ne _ (hj.1 _ hst6))⟩
                      simp only [List.length_append, List.length_cons, List.length_nil] at hln ⊢
                      lia
                  refine Y4_5 (news ++ [⟨tpn, .ref x, p, pre ++ p.nm ++ [47], D, pZ.filter fun z => under (pre ++ p.nm ++ [47]) z.2⟩]) _ _ _ rfl H10 (Mu.sub _ (hTn.sub _ (s7 _ hle6)) hc1.ne) ?_ ?_
                  · rw [hok6, fitss_drop hpi, ← hes]
                    refine ⟨fun h => ⟨fun q hq => ?_, h.2.2⟩, fun h => (Y0_3 (fun q hq => h.1 q ?_) ⟨hpo, h.1 _ (List.mem_append_right _ (List.mem_append_right _ (.head _)))⟩ h.2)⟩
                    · rw [← List.append_assoc] at hq
                      rcases List.mem_append.mp hq with hq | hq
                      · exact h.1 q hq
                      · rw [List.mem_singleton.mp hq]
                        exact h.2.1.2
                    · rw [← List.append_assoc]
                      exact List.mem_append_left _ hq
                  · rw [szs_drop hpi] at hsz6
                    rw [← List.append_assoc, List.map_append, szs_app]
                    have : Tree.szs (List.map Cd.t [(⟨tpn, .ref x, p, pre ++ p.nm ++ [47], D, pZ.filter fun z => under (pre ++ p.nm ++ [47]) z.2⟩ : Cd)]) = p.sz := by show Tree.sz p + 0 = _; rfl
                    lia
          · rintro k l' zz; refine X4_5 zz ?_; clear zz; rintro news o5 o7 o8 rfl H6 _ hok6 hsz6
            have e0 : ps.drop vs.length = [] := List.drop_eq_nil_of_le (by lia)
            rw [e0] at hok6 hsz6
            refine .nil (next _ _ _ ?_ (Y8_5 (P ++ news) _ _ _ _ _ _ _ rfl H6 ?_ rfl ?_))
            · rw [Tree.szs, Nat.add_zero] at hsz6
              rw [hsz6, List.map_append, szs_app]
              show _ < _ + (Tree.sz (.mk nm cn od ps) + 0)
              rw [Tree.sz]
              lia
            · rw [hok6]
              exact ⟨fun h => h.1, fun h => ⟨h, by rw [Tree.fitss]; trivial⟩⟩
            · rw [Tree.szs, Nat.add_zero] at hsz6
              rw [hsz6]
              rw [List.map_append, szs_app] at hm
              have : Tree.szs (List.map Cd.t [(⟨tp, .ref a, .mk nm cn od ps, pre, le, pZ⟩ : Cd)]) = Tree.szs ps + 1 := by show Tree.sz (.mk nm cn od ps) + 0 = _; rw [Tree.sz]
              lia
  · have hP : P = [] := by simpa using hP
    subst hP
    exact .nil (hI.nxt _ _ (k1 (hok.mpr fun p hp => (nomatch hp)) _ H.sub))
end
section
section
open LCg LCt
variable {w : World} {c : Cx w} {n : Led} {l : Fm} {rest : List Stmt} {sc : Scope} {d u : Nat} {K : Type} [DecidableEq K]
theorem EvP.dkey {knd : KeyKind PR w K} {value slice : PySem.Expr} {pos : Pos} {a : Addr} {ob : Obj} {kvs : List (K × Value)} {k : K} {v : Value} (hv : EvP c n l value (.ref a)) (ha : (a, ob) ∈ n) (hd : ob.IsDictOf knd kvs) (hi : EvR c n l slice fun x => knd.is k x = true) (hl : valueAt kvs k = some v)
    (hs : ∀ o i, subscripted slice false o i = operate [o, i] (getItem o i) := by intro _ _; rfl) : EvP c n l (.Subscript value slice pos) v := fun Q kk h tk H =>
  Subscript_ (hv _ (fun h tk H => hi _ (fun i hk h tk H => by
    have H' := H
    obtain ⟨m, hid, hV, F, N, O⟩ := H
    have hD := kda_dict (s := { c.s with heap := h, toks := tk }) N (List.mem_append_right _ ha) hd
    exact tail_any hD.typeIs slot_dict_getitem.lookup (wpAny_getItem_of hk hD.mapOf hl (kk h _ H')) (hs _ _)) h tk H) h tk H)
theorem EvP.skey {value : PySem.Expr} {pos pk : Pos} {j : Nat} {a : Addr} {ob : Obj} {kvs : List (Str × Value)} {k : Str} {v : Value} (hv : EvP c n l value (.ref a)) (ha : (a, ob) ∈ n) (hd : ob.IsDictOf (KNd w) kvs) (hl : valueAt kvs k = some v) : EvP c n l (.Subscript value (.Constant (.str k) j pk) pos) v :=
  .dkey hv ha hd (fun Q kk => EvR.str Q fun x hx => kk x (by obtain ⟨t, rfl⟩ := hx; exact strKind_is _ _ _ _)) hl
end
end
section
section
open LCg LCt
variable {w : World} {c : Cx w} {n : Led} {l : Fm} {rest : List Stmt} {sc : Scope} {d u : Nat} {K : Type} [DecidableEq K]
theorem At.asgCompD {Q : Flow → Shared → Prop} {ct elt it : PySem.Expr} {x y : Str} {px py pos spos : Pos} {scope : Scope} {a : Addr} {od : Obj} {knd : KeyKind PR w K} {kvs : List (K × Value)} (hw : Wk c sc d u true) (hit : EvP c n l it (.ref a)) (ha : (a, od) ∈ n) (hd : od.IsDictOf knd kvs) (lo : (a == sysModules) = false) (hz : kvs.length ≤ 1000) (J : Nat → List Value → Led → Prop) (h0 : J 0 [] n)
    (hJ : ∀ i ys n, J i ys n → (a, od) ∈ n)
    (turn : ∀ i k z v ys n (c2 : Cx w), kvs[i]? = some (k, z) → knd.is k v = true → J i ys n → Wk c2 (relS scope sc) d u false → ∃ p, Tst c2 n ((x, some v) :: rst l (freeOf scope)) ct p ∧ (p → EvG c2 n ((x, some v) :: rst l (freeOf scope)) elt fun y n' => J (i + 1) (ys ++ [y]) n') ∧ (¬ p → J (i + 1) ys n))
    (kk : ∀ D ys n₀ n', J kvs.length ys n₀ → New n₀ n' D (lstN ys ys.length) → At c n' (put l y (.ref D)) (execs rest c.env) Q)
    (hs : CsOk scope sc := by (show CsOkB _ _ = true); decide +kernel) (hx : scope.names.lookup x = some .local := by rfl) (hyl : (l.map (·.1)).contains y = true := by rfl) (hyk : sc.names.lookup y = some .local := by rfl)
    (hln : (py.line == pos.line) = true := by rfl) (hn : (scope.names.any fun (n, k) => n == y && (k == .local || k == .cell)) = false := by rfl) (hf : ∀ (env : Env) x, foldedSetIterable it env x = pure x := by intro _ _; rfl) :
    At c n l (execs (.Assign [.Name y py] (.ListComp elt [⟨.Name x px, it, [ct], 0⟩] scope pos) spos :: rest) c.env) Q :=
  .asg1 hw J (.srcD hit ha hd lo h0 hz) (fun i ys n m hid h hj F N => (N _ (List.mem_append_right _ (hJ i ys n hj))).1) (fun i v ys n c2 _ hv hj hw2 => by refine X2_2 hv ?_; clear hv; rintro k z hkz hkv; exact turnT (turn i k z v ys n c2 hkz hkv hj hw2)) kk hs hx hyl hyk hln hn hf
end
end
section
noncomputable def figsL (k : Int) : List Nat := if k < 0 then [45, 49] else if k < 10 then [48 + k.toNat] else [48 + k.toNat / 10, 48 + k.toNat % 10]
noncomputable def figs (k : Int) : Bs := (figsL k).map (·.toUInt8)
theorem figs_all : (List.range 101).all (fun n => (Str.ofString (toString ((n : Int) - 1))).cps.toList == figsL ((n : Int) - 1)) = true := by decide +kernel
theorem figs_of {k : Int} (h : -1 ≤ k) (h2 : k ≤ 99) : (Str.ofString (toString k)).cps.toList = figsL k := by
  have := List.all_eq_true.mp figs_all (k + 1).toNat (List.mem_range.mpr (by lia))
  have e : ((k + 1).toNat : Int) - 1 = k := by lia
  rw [e] at this
  exact eq_of_beq this
theorem ints_snoc : ∀ {vs : List Value} {ns : List Int} {n : Int} {t : Tok}, IntsAre vs ns → IntsAre (vs ++ [.int n t]) (ns ++ [n])
  | _, _, n, t, .nil => .cons n t .nil
  | _, _, n, t, .cons a b r => .cons a b (ints_snoc r)
theorem byteArr_figs (l : List Nat) : byteArr (l.map fun c : Nat => (c : Int)) = (l.map (·.toUInt8)).toArray := by
  unfold byteArr
  rw [List.map_map]
  rfl
theorem figsL_lt {k : Int} (h : -1 ≤ k) (h2 : k ≤ 99) : ∀ c ∈ figsL k, c < 128 := by
  intro c hc
  unfold figsL at hc
  split at hc
  · simp at hc; omega
  · split at hc
    · simp at hc; lia
    · simp at hc; lia
theorem figsL_len (k : Int) : (figsL k).length ≤ 2 := by
  unfold figsL
  split
  · simp
  · split <;> simp
mutual
noncomputable def Fold.row : Fold → Bs
  | .mk n c o ps _ _ => n ++ [0] ++ figs c ++ [32] ++ figs ps.length ++ [10] ++ (o.getD [] ++ Fold.rows ps)
noncomputable def Fold.rows : List Fold → Bs
  | [] => []
  | p :: r => p.row ++ Fold.rows r
end
noncomputable def Fold.name : Fold → Bs | .mk n _ _ _ _ _ => n
noncomputable def Fold.many : Fold → Int | .mk _ _ _ _ _ m => m
noncomputable def nodes : Nat → Nat
  | 0 => 1
  | d + 1 => 1 + 3 * nodes d
noncomputable def Fold.Ok : Nat → Fold → Prop
  | d, .mk n c o ps fs m => n.length ≤ 2 ∧ (0 : UInt8) ∉ n ∧ (47 : UInt8) ∉ n ∧ -1 ≤ c ∧ c ≤ 2 * (nodes d : Int) + 1 ∧ (c < 0 → o = none) ∧ (0 ≤ c → ∃ x, o = some [x, 0, 10, 32]) ∧
      (ps.map Fold.name).Sublist [[97], [99], [97, 98]] ∧ (fs = [] ∨ fs = [[98, 46, 120]] ∨ fs = [[98, 46, 120], [102]]) ∧ 0 ≤ m ∧ m ≤ 2 * (nodes d : Int) ∧
      (match d with | 0 => ps = [] | d + 1 => ∀ p ∈ ps, Fold.Ok d p)
theorem Fold.Ok_eq {d : Nat} {n : Bs} {c : Int} {o : Option Bs} {ps : List Fold} {fs : List Bs} {m : Int} : Fold.Ok d (.mk n c o ps fs m) = (n.length ≤ 2 ∧ (0 : UInt8) ∉ n ∧ (47 : UInt8) ∉ n ∧ -1 ≤ c ∧ c ≤ 2 * (nodes d : Int) + 1 ∧ (c < 0 → o = none) ∧ (0 ≤ c → ∃ x, o = some [x, 0, 10, 32]) ∧
      (ps.map Fold.name).Sublist [[97], [99], [97, 98]] ∧ (fs = [] ∨ fs = [[98, 46, 120]] ∨ fs = [[98, 46, 120], [102]]) ∧ 0 ≤ m ∧ m ≤ 2 * (nodes d : Int) ∧
      (match d with | 0 => ps = [] | d + 1 => ∀ p ∈ ps, Fold.Ok d p)) := by cases d <;> rfl
theorem Fold.Ok.len {d : Nat} {n : Bs} {c : Int} {o : Option Bs} {ps : List Fold} {fs : List Bs} {m : Int} (h : Fold.Ok d (.mk n c o ps fs m)) : ps.length ≤ 3 := by
  rw [Fold.Ok_eq] at h
  have := h.2.2.2.2.2.2.2.1.length_le
  simpa using this
theorem figs_len (k : Int) : (figs k).length ≤ 2 := by
  unfold figs
  rw [List.length_map]
  exact figsL_len k
theorem Fold.Ok.part {d : Nat} {n : Bs} {c : Int} {o : Option Bs} {ps : List Fold} {fs : List Bs} {m : Int} (h : Fold.Ok d (.mk n c o ps fs m)) {p : Fold} (hp : p ∈ ps) : ∃ e, d = e + 1 ∧ Fold.Ok e p := by
  rw [Fold.Ok_eq] at h
  cases d with
  | zero =>
    have := h.2.2.2.2.2.2.2.2.2.2.2
    simp at this
    subst this
    cases hp
  | succ e => exact Y1_2 e rfl (h.2.2.2.2.2.2.2.2.2.2.2 p hp)
theorem rows_len {k : Nat} : ∀ {ps : List Fold}, (∀ p ∈ ps, p.row.length ≤ k) → (Fold.rows ps).length ≤ ps.length * k
  | [], _ => by simp [Fold.rows]
  | p :: r, h => by
    unfold Fold.rows
    rw [List.length_append, List.length_cons, Nat.succ_mul]
    have := h p (.head _)
    have := rows_len (ps := r) fun q hq => h q (.tail _ hq)
    lia
theorem row_len : ∀ (d : Nat) (f : Fold), Fold.Ok d f → f.row.length ≤ 13 * nodes d := by
  intro d
  induction d with
  | zero =>
    rintro ⟨n, c, o, ps, fs, m⟩ h
    have hl := h
    rw [Fold.Ok_eq] at h
    refine X0_12 h ?_; clear h; rintro h1 _ _ h4 _ h6 h7 _ _ _ _ h12
    simp at h12
    subst h12
    unfold Fold.row nodes
    have := figs_len c
    have := figs_len (([] : List Fold).length : Int)
    have ho : (o.getD []).length ≤ 4 := by
      by_cases hc : c < 0
      · rw [h6 hc]; simp
      · obtain ⟨x, rfl⟩ := h7 (by omega); simp
    simp only [List.length_append, List.length_cons, List.length_nil, Fold.rows] at *
    lia
  | succ d ih =>
    rintro ⟨n, c, o, ps, fs, m⟩ h
    have hl := h.len
    rw [Fold.Ok_eq] at h
    refine X0_12 h ?_; clear h; rintro h1 _ _ h4 _ h6 h7 _ _ _ _ h12
    have := rows_len (k := 13 * nodes d) fun p hp => ih p (h12 p hp)
    have hm : ps.length * (13 * nodes d) ≤ 3 * (13 * nodes d) := Nat.mul_le_mul_right _ hl
    unfold Fold.row nodes
    have := figs_len c
    have := figs_len (ps.length : Int)
    have ho : (o.getD []).length ≤ 4 := by
      by_cases hc : c < 0
      · rw [h6 hc]; simp
      · obtain ⟨x, rfl⟩ := h7 (by lia); simp
    simp only [List.length_append, List.length_cons, List.length_nil] at *
    lia
theorem Fold.ht_le : ∀ (d : Nat) (f : Fold), Fold.Ok d f → f.tree.ht ≤ d + 1 := by
  have key : ∀ (k : Nat) (ps : List Fold), (∀ p ∈ ps, p.tree.ht ≤ k) → Tree.hts (Fold.trees ps) ≤ k := by
    intro k ps
    induction ps with
    | nil => intro _; simp [Fold.trees, Tree.hts]
    | cons p r ih =>
      intro h
      unfold Fold.trees Tree.hts
      exact Nat.max_le.mpr ⟨h p (.head _), ih fun q hq => h q (.tail _ hq)⟩
  intro d
  induction d with
  | zero =>
    rintro ⟨n, c, o, ps, fs, m⟩ h
    rw [Fold.Ok_eq] at h
    have := h.2.2.2.2.2.2.2.2.2.2.2
    simp at this
    subst this
    simp [Fold.tree, Tree.ht, Fold.trees, Tree.hts]
  | succ d ih =>
    rintro ⟨n, c, o, ps, fs, m⟩ h
    rw [Fold.Ok_eq] at h
    unfold Fold.tree Tree.ht
    have := key (d + 1) ps fun p hp => ih p (h.2.2.2.2.2.2.2.2.2.2.2 p hp)
    lia
end
section
section
variable {w : World} {c : Cx w} {n : Led} {l : Fm} {rest : List Stmt} {sc : Scope} {d u : Nat}
theorem Tst.valG {e : PySem.Expr} {p : Prop} (h : EvG c n l e fun v n' => (∀ q ∈ n, q ∈ n') ∧ ∃ b, v = .bool b ∧ (b = true ↔ p)) (he : ∀ env whole, isTrue e env whole = (do let v ← whole; standAt e.pos; holding [v] (truthy v)) := by intro _ _; rfl) : Tst c n l e p := fun Q k1 k2 h' tk H => by
  refine isTrue_plain (h _ (fun v n' hv h tk H => ?_) h' tk H) (he _ _)
  refine X0_2 hv ?_; clear hv; rintro hs zz; obtain ⟨b, rfl, hb⟩ := zz
  refine wpAny_truthy_bool ?_
  cases b with
  | true => exact k1 (hb.mp rfl) h tk (H.sub hs)
  | false => exact k2 (fun hp => nomatch hb.mpr hp) h tk (H.sub hs)
theorem At.if2 {t1 t2 : PySem.Expr} {body : List Stmt} {p1 p2 : Pos} {p q : Prop} {Q : Flow → Shared → Prop} (h1 : Tst c n l t1 p) (h2 : p → Tst c n l t2 q) (k1 : p → q → At c n l (execs body c.env) (Th c [] (Th c rest Q))) (k2 : ¬ (p ∧ q) → At c n l (execs rest c.env) Q) :
    At c n l (execs (.If t1 [.If t2 body [] p2] [] p1 :: rest) c.env) Q :=
  .if_ h1 (fun hp => .guard (h2 hp) (k1 hp) fun hq => .nil (k2 fun h => hq h.2)) fun hp => .nil (k2 fun h => hp h.1)
end
theorem bvs_add {x : Bs} {v : Value} (hv : BW x v) : ∀ {vs : List Value} {bs : List Bs}, BVs vs bs → BVs (vs ++ [v]) (bs ++ [x])
  | [], [], _ => by
    show BVs [v] [x]
    show _ ∧ _
    exact ⟨hv, trivial⟩
  | [], _ :: _, h => False.elim h
  | _ :: _, [], h => False.elim h
  | _ :: _, _ :: _, h => by
    change _ ∧ _ at h
    rw [List.cons_append, List.cons_append]
    show _ ∧ _
    exact ⟨h.1, bvs_add hv h.2⟩
structure StG (kvs : List (List UInt8 × Value)) (es : List (Bs × Int)) : Prop where
  len : kvs.length = es.length
  at_ : ∀ (i : Nat) k z, kvs[i]? = some (k, z) → ∃ st, es[i]? = some (k, st) ∧ IV st z
  nd : (kvs.map (·.1)).Nodup
theorem StG.get {kvs : List (List UInt8 × Value)} {es : List (Bs × Int)} (h : StG kvs es) {e : Bs × Int} (he : e ∈ es) : ∃ z, valueAt kvs e.1 = some z ∧ IV e.2 z := by
  obtain ⟨i, hi⟩ := List.getElem?_of_mem he
  have hlt : i < kvs.length := by rw [h.len]; exact (List.getElem?_eq_some_iff.mp hi).1
  refine X1_2 (h.at_ i kvs[i].1 kvs[i].2 (List.getElem?_eq_getElem hlt)) fun st h1 h2 => ?_
  have e1 : e = (kvs[i].1, st) := Option.some.inj (hi.symm.trans h1)
  subst e1
  exact Y1_2 (kvs[i].2) (valueAt_of_get h.nd (List.getElem?_eq_getElem hlt)) h2
noncomputable def Fold.cn : Fold → Int | .mk _ c _ _ _ _ => c
mutual
noncomputable def Fold.known : Fold → Bs → List (Bs × Int) → Prop
  | .mk _ cn _ ps _ _, ah, es => cntOk cn (es.filter (under ah)) ∧ Fold.knowns ps ah es
noncomputable def Fold.knowns : List Fold → Bs → List (Bs × Int) → Prop
  | [], _, _ => True
  | p :: r, ah, es => (¬ (0 ≤ p.cn ∧ (es.filter (under ah)).filter (under (ah ++ p.name ++ [47])) = []) ∧ p.known (ah ++ p.name ++ [47]) es) ∧ Fold.knowns r ah es
end
theorem knowns_cons {p : Fold} {r : List Fold} {ah : Bs} {es : List (Bs × Int)} : Fold.knowns (p :: r) ah es = ((¬ (0 ≤ p.cn ∧ (es.filter (under ah)).filter (under (ah ++ p.name ++ [47])) = []) ∧ p.known (ah ++ p.name ++ [47]) es) ∧ Fold.knowns r ah es) := by rw [Fold.knowns]
theorem known_mk {nm : Bs} {cn : Int} {od : Option Bs} {ps : List Fold} {fs : List Bs} {m : Int} {ah : Bs} {es : List (Bs × Int)} : Fold.known (.mk nm cn od ps fs m) ah es = (cntOk cn (es.filter (under ah)) ∧ Fold.knowns ps ah es) := by rw [Fold.known]
theorem knowns_drop {ps : List Fold} {i : Nat} {p : Fold} {ah : Bs} {es : List (Bs × Int)} (h : ps[i]? = some p) : Fold.knowns (ps.drop i) ah es ↔ (¬ (0 ≤ p.cn ∧ (es.filter (under ah)).filter (under (ah ++ p.name ++ [47])) = []) ∧ p.known (ah ++ p.name ++ [47]) es) ∧ Fold.knowns (ps.drop (i + 1)) ah es := by
  rw [List.drop_eq_getElem?_toList_append, h]
  show Fold.knowns (p :: ps.drop (i + 1)) ah es ↔ _
  rw [knowns_cons]
noncomputable def PathJ (es : List (Bs × Int)) (f : Bs × Int → Bool) (k0 : Led) (i : Nat) (ys : List Value) (k : Led) : Prop := (∀ q ∈ k0, q ∈ k) ∧ BVs ys (((es.take i).filter f).map Prod.fst)
theorem path_step {es : List (Bs × Int)} {f : Bs × Int → Bool} {k0 k : Led} {i : Nat} {ys : List Value} {e : Bs × Int} {v : Value} (h : PathJ es f k0 i ys k) (hz : es[i]? = some e) (hv : BW e.1 v) : (f e = true → PathJ es f k0 (i + 1) (ys ++ [v]) k) ∧ (f e = false → PathJ es f k0 (i + 1) ys k) := by
  obtain ⟨h1, h2⟩ := h
  refine ⟨fun g => ⟨h1, ?_⟩, fun g => ⟨h1, ?_⟩⟩
  · rw [List.take_succ, hz, List.filter_append, List.map_append]
    show BVs _ (_ ++ List.map Prod.fst (List.filter f [e]))
    rw [List.filter_cons_of_pos g]
    exact bvs_add hv h2
  · rw [List.take_succ, hz, List.filter_append, List.map_append]
    show BVs _ (_ ++ List.map Prod.fst (List.filter f [e]))
    rw [List.filter_cons_of_neg (by simpa using g), List.filter_nil, List.map_nil, List.append_nil]
    exact h2
theorem path_end {es : List (Bs × Int)} {f : Bs × Int → Bool} {k0 k : Led} {ys : List Value} {m : Nat} (hm : m = es.length) (h : PathJ es f k0 m ys k) : BVs ys ((es.filter f).map Prod.fst) := by
  have := h.2
  rw [hm, List.take_length] at this
  exact this
theorem bvs_empty {vs : List Value} {bs : List Bs} (h : BVs vs bs) : vs = [] ↔ bs = [] := by
  have := bvs_len h
  constructor
  · rintro rfl; exact List.eq_nil_of_length_eq_zero this.symm
  · rintro rfl; exact List.eq_nil_of_length_eq_zero this
end
section
theorem slc_take (b : Bs) (k : Nat) : slc b none (some (k : Int)) = b.take k := by
  have e : clipAt b.length (k : Int) = min k b.length := by
    have := clipAt_cast b.length (k : Int)
    rw [if_neg (by lia)] at this
    omega
  show (b.drop 0).take (clipAt b.length (k : Int) - 0) = b.take k
  rw [e, List.drop_zero, Nat.sub_zero]
  rcases Nat.le_total k b.length with h | h
  · rw [Nat.min_eq_left h]
  · rw [Nat.min_eq_right h, List.take_length, List.take_of_length_le h]
noncomputable abbrev frN (f s a b p i : Option Value) : Fm := [(Str.ofString "folder", f), (Str.ofString "stages", s), (Str.ofString "ahead", a), (Str.ofString "below", b), (Str.ofString "part", p), (Str.ofString "inner", i)]
theorem known_L : ∀ (k : Nat) {t : Fold} {w : World} {c : Cx w} {n : Led} {l : Fm} {v : Value} {sd : Addr} {od : Obj} {kvs : List (List UInt8 × Value)} {es : List (Bs × Int)} {ah : Bs} {tah : Tok} (_ : t.tree.ht ≤ k) (_ : c.dp + k < recursionLimit) (_ : c.un + 3 * k + 20 < cLine) (_ : FoldIn w n v t) (_ : (sd, od) ∈ n) (_ : od.IsDictOf (bytesKind PR w) kvs) (_ : (sd == sysModules) = false) (_ : StG kvs es) (_ : es.length ≤ 1000) (_ : ∀ e ∈ es, e.1.length ≤ 1000) (_ : ah.length + 11 * t.tree.ht ≤ 2000) (_ : t.tree.Good),
    CaG c n l (.ref 367) [v, .ref sd, .bytes ah.toArray tah] fun r n' => (∀ q ∈ n, q ∈ n') ∧ ∃ b, r = .bool b ∧ (b = true ↔ t.known ah es) := by
  intro k
  induction k with
  | zero => intro t w c n l v sd od kvs es ah tah hk; obtain ⟨_, _, _, _, _, _⟩ := t; rw [Fold.tree, Tree.ht] at hk; omega
  | succ k ih =>
    intro t w c n l v sd od kvs es ah tah hk hroom hu ht hsd hod lo hS hz hpl hlen hg Q kk
    obtain ⟨nm, cn, oo, ps, fs, mm⟩ := t
    refine ht.open ?_
    intro a ob tn vo pl fl t1 t2 vs ws i j e g1 g2 g3 g4 g5 g6 g7 g8 g9 g10
    subst e
    rw [Fold.tree] at hg hlen hk
    cases hg with
    | mk hgp hps64 hpw hpz =>
    have hzk : kvs.length ≤ 1000 := by rw [hS.len]; exact hz
    have hal : ah.length ≤ 2000 := by lia
    refine At.enter (by exact rfl) (by lia) [Str.ofString "folder", Str.ofString "stages", Str.ofString "ahead"] [Str.ofString "below", Str.ofString "part", Str.ofString "inner"] (frN (some (.ref a)) (some (.ref sd)) (some (.bytes ah.toArray tah)) none none none) fun c' RQ hI => ?_
    have hw := hI.wk
    refine .asgCompD hw (.name rfl) hsd hod lo hzk (PathJ es (under ah) n) ⟨fun _ h => h, by show BVs [] []; trivial⟩ (fun i ys k h => h.1 _ hsd) (fun i k z v ys n1 c2 hkz hkv hj hw2 => ?_) fun D bl n1 n2 hj hD => ?_
    · obtain ⟨tv, rfl⟩ := isBytes_shape hkv
      refine X1_2 (hS.at_ i k z hkz) fun st e1 _ => ?_
      obtain ⟨r1, r2⟩ := path_step hj e1 ⟨tv, rfl⟩
      refine Y1_3 _ (.cmp (.cutB (EvP.r (P := BW k) (.name rfl) ⟨_, rfl⟩) .none (.some (.lenB hw2 (EvP.r (P := BW ah) (.name rfl) ⟨_, rfl⟩) (by lia))) ?_) (EvP.r (P := BW ah) (.name rfl) ⟨_, rfl⟩) fun a b ha hb => .bEq ha hb) (fun hp Q4 kk4 => (show EvP c2 n1 _ (.Name (Str.ofString "path") _) (.bytes k.toArray tv) from .name rfl) Q4 (kk4 _ _ (r1 ?_))) (fun hp => r2 ?_)
      · exact Nat.le_trans (hpl _ (List.mem_of_getElem? e1)) (by decide)
      · rw [slc_take] at hp
        exact decide_eq_true hp
      · rw [slc_take] at hp
        exact decide_eq_false hp
    · have hbl := path_end hS.len hj
      have s2 : ∀ q ∈ n, q ∈ n2 := fun q hq => hD.sub q (hj.1 q hq)
      have hbn := bvs_len hbl
      rw [List.length_map] at hbn
      have hbz : bl.length ≤ 1000 := by rw [hbn]; exact Nat.le_trans (List.length_filter_le _ _) hz
      have hbe : ∀ {i : Nat} {v : Value}, bl[i]? = some v → ∃ e tv, (es.filter (under ah))[i]? = some e ∧ v = .bytes e.1.toArray tv ∧ e ∈ es := fun {i v} hv => by
        refine X1_2 (bvs_get hbl hv) ?_; rintro x h1 ⟨tv, rfl⟩
        rw [List.getElem?_map] at h1
        refine X1_2 (Option.map_eq_some_iff.mp h1) ?_; rintro e h2 rfl
        exact Y2_3 e tv h2 rfl ((List.mem_filter.mp (List.mem_of_getElem? h2)).1)
      have out : ∀ {k : Led} {l' : Fm} {b : Bool}, (∀ q ∈ n, q ∈ k) → (b = true ↔ (Fold.mk nm cn oo ps fs mm).known ah es) → Go c' k l' RQ (.ret (.bool b)) := fun hs hb => hI.ret _ _ _ (kk _ _ ⟨hs, Y1_2 _ rfl hb⟩)
      refine At.if2 (p := 0 ≤ cn) (q := cn ≠ (es.filter (under ah)).length ∨ (es.filter (under ah)).filter (fun e => decide (0 < e.2)) ≠ []) (.cmp (EvP.r (P := IV cn) (.skey (.name rfl) (s2 _ g1) g3 rfl) ⟨_, rfl⟩) .int fun a b ha hb => .iGe ha hb) (fun _ => .or2 (Tst.cast (.cmp (EvP.r (P := IV cn) (.skey (.name rfl) (s2 _ g1) g3 rfl) ⟨_, rfl⟩) (.lenL hw (.name rfl) hD.mem (Nat.le_trans hbz (by decide))) fun a b ha hb => .iNe ha hb) (by rw [hbn])) fun _ => Tst.neG (P := fun vs => BVs vs (((es.filter (under ah)).filter fun e => decide (0 < e.2)).map Prod.fst)) (fun Q3 kk3 => ?_) (by rw [hw.un]; lia) fun vs hvs => by rw [ne_eq, bvs_empty hvs, List.map_eq_nil_iff]) (fun hp hq => .retP .bool (Go.ret (Go.ret (out (b := false) s2 ⟨fun h => (nomatch h), fun h => by rw [known_mk] at h; exact absurd ⟨hp, hq⟩ h.1⟩)))) fun hcnt => ?_
      · refine At.eCompT hw (.name rfl) hD.mem hbz (PathJ (es.filter (under ah)) (fun e => decide (0 < e.2)) n2) ⟨fun _ h => h, by show BVs [] []; trivial⟩ (fun i ys k h => h.1 _ hD.mem) (fun i v ys k c2 hv hj3 hw2 => ?_) fun D ys k k' hj3 hD3 => kk3 _ _ (Y3_4 D ys _ rfl hD3.mem (fun q hq => hD3.sub q (hj3.1 q hq)) (path_end hbn hj3))
        refine X2_3 (hbe hv) ?_; rintro e tv h1 rfl h2
        obtain ⟨r1, r2⟩ := path_step hj3 h1 ⟨tv, rfl⟩
        refine X1_2 (hS.get h2) fun z hz1 hz2 => ?_
        exact Y1_3 (0 < e.2) (.cmp (EvP.r (P := IV e.2) (.dkey (.name rfl) (hj3.1 _ (s2 _ hsd)) hod (EvP.r (.name rfl) (by show isBytes e.1 (.bytes e.1.toArray tv) = true; simp [isBytes])) hz1) hz2) .int fun a b ha hb => .iGt ha hb) (fun hp Q4 kk4 => (show EvP c2 k _ (.Name (Str.ofString "path") _) (.bytes e.1.toArray tv) from .name rfl) Q4 (kk4 _ _ (r1 (decide_eq_true hp)))) (fun hp => r2 (decide_eq_false hp))
      · have hcn : cntOk cn (es.filter (under ah)) := hcnt
        refine .forL hw (.skey (.name rfl) (s2 _ g1) g3 rfl) (s2 _ g5) (fun i k l' => (∀ q ∈ n2, q ∈ k) ∧ (∃ o5 o6, l' = frN (some (.ref a)) (some (.ref sd)) (some (.bytes ah.toArray tah)) (some (.ref D)) o5 o6) ∧ ((Fold.mk nm cn oo ps fs mm).known ah es ↔ Fold.knowns (ps.drop i) ah es)) (Y0_3 (fun _ h => h) (Y2_1 none none rfl) (by rw [known_mk, List.drop_zero]; exact ⟨fun h => h.2, fun h => ⟨hcn, h⟩⟩)) (fun i k l' h => ?_) (fun i v k l' ci TQ hv hj3 hn => ?_) fun k l' h => ?_
        · refine X0_3 h ?_; clear h; rintro h1 zz; obtain ⟨o5, o6, rfl⟩ := zz; rintro _
          exact ⟨h1 _ (s2 _ g5), rfl⟩
        · refine X0_3 hj3 ?_; clear hj3; rintro s3 zz; obtain ⟨o5, o6, rfl⟩ := zz; rintro hkn
          have hw2 := hn.wk
          refine X1_2 (folds_get g7 hv) ?_; rintro ⟨nm3, cn3, od3, ps3, fs3, m3⟩ hpi hpf
          have hpm : Fold.tree (.mk nm3 cn3 od3 ps3 fs3 m3) ∈ Fold.trees ps := trees_mem (List.mem_of_getElem? hpi)
          have hht := ht_part hpm (nm := nm) (cn := cn) (od := oo)
          have hgp3 := hgp _ hpm
          have hn3 : nm3.length ≤ 10 := by have := hpz _ hpm; rw [Fold.tree] at this; exact this
          refine hpf.open ?_
          intro a3 ob3 tn3 vo3 pl3 fl3 t3 t4 vs3 ws3 i3 j3 e f1 f2 f3 f4 f5 f6 f7 f8 f9 f10
          subst e
          refine .assignR hw2 (.addB (.addB (EvP.r (P := BW ah) (.name rfl) ⟨_, rfl⟩) (EvP.r (P := BW nm3) (.skey (.name rfl) (s3 _ (s2 _ f1)) f3 rfl) ⟨_, rfl⟩) (by lia)) .bytes (by simp; lia)) fun iv hiv => ?_
          obtain ⟨itok, rfl⟩ := hiv
          rw [knowns_drop hpi] at hkn
          refine .guard (p := 0 ≤ cn3 ∧ (es.filter (under ah)).filter (under (ah ++ nm3 ++ [47])) = []) (.and2 (.cmp (EvP.r (P := IV cn3) (.skey (.name rfl) (s3 _ (s2 _ f1)) f3 rfl) ⟨_, rfl⟩) .int fun a b ha hb => .iGe ha hb) fun _ => Tst.eqG (P := fun vs => BVs vs (((es.filter (under ah)).filter (under (ah ++ nm3 ++ [47]))).map Prod.fst)) (fun Q3 kk3 => ?_) (by rw [hw2.un]; lia) fun vs hvs => by rw [bvs_empty hvs, List.map_eq_nil_iff]) (fun hp => .retP .bool (hn.ret _ _ _ (Go.ret (out (b := false) (fun q hq => s3 q (s2 q hq)) ⟨fun h => (nomatch h), fun h => absurd hp (hkn.mp h).1.1⟩)))) fun hp => ?_
          · refine At.eCompT hw2 (.name rfl) (s3 _ hD.mem) hbz (PathJ (es.filter (under ah)) (under (ah ++ nm3 ++ [47])) k) ⟨fun _ h => h, by show BVs [] []; trivial⟩ (fun i ys k h => h.1 _ (s3 _ hD.mem)) (fun i v ys k c2 hv hj5 hw3 => ?_) fun D ys k k' hj5 hD5 => kk3 _ _ (Y3_4 D ys _ rfl hD5.mem (fun q hq => hD5.sub q (hj5.1 q hq)) (path_end hbn hj5))
            refine X2_3 (hbe hv) ?_; rintro e tv h1 rfl h2
            obtain ⟨r1, r2⟩ := path_step hj5 h1 ⟨tv, rfl⟩
            refine Y1_3 _ (.cmp (.cutB (EvP.r (P := BW e.1) (.name rfl) ⟨_, rfl⟩) .none (.some (.lenB hw3 (EvP.r (P := BW (ah ++ nm3 ++ [47])) (.name rfl) ⟨_, rfl⟩) (by simp; lia))) (Nat.le_trans (hpl _ h2) (by decide))) (EvP.r (P := BW (ah ++ nm3 ++ [47])) (.name rfl) ⟨_, rfl⟩) fun a b ha hb => .bEq ha hb) (fun hp Q4 kk4 => (show EvP c2 k _ (.Name (Str.ofString "path") _) (.bytes e.1.toArray tv) from .name rfl) Q4 (kk4 _ _ (r1 ?_))) (fun hp => r2 ?_)
            · rw [slc_take] at hp
              exact decide_eq_true hp
            · rw [slc_take] at hp
              exact decide_eq_false hp
          · refine .guard (p := ¬ (Fold.mk nm3 cn3 od3 ps3 fs3 m3).known (ah ++ nm3 ++ [47]) es) (.not (.valG fun Q3 kk3 => .eCall (.glob hw2 rfl) (.ref rfl) <| .argP (.name rfl) <| .argP (.name rfl) <| .argP (.name rfl) <| .arg0 <| Go.cq <| ih (t := .mk nm3 cn3 od3 ps3 fs3 m3) ?_ ?_ ?_ (hpf.mono fun q hq => s3 q (s2 q hq)) (s3 _ (s2 _ hsd)) hod lo hS hz hpl ?_ hgp3 _ fun r n' hr => kk3 _ _ hr)) (fun hp => .retP .bool (hn.ret _ _ _ (Go.ret (out (b := false) (fun q hq => s3 q (s2 q hq)) ⟨fun h => (nomatch h), fun h => absurd (hkn.mp h).1.2 hp⟩)))) fun hp2 => .nil <| hn.next _ _ (Y0_3 s3 (Y2_1 _ _ rfl) ?_)
            · lia
            · rw [hw2.dp]; lia
            · rw [hw2.un]; lia
            · simp only [List.length_append, List.length_cons, List.length_nil]; lia
            · rw [hkn]
              exact ⟨fun h => h.2, fun h => ⟨⟨hp, Classical.byContradiction hp2⟩, h⟩⟩
        · refine X0_3 h ?_; clear h; rintro s3 zz; obtain ⟨o5, o6, rfl⟩ := zz; rintro hkn
          refine .retP .bool (out (b := true) (fun q hq => s3 q (s2 q hq)) ⟨fun _ => hkn.mpr ?_, fun _ => rfl⟩)
          rw [List.drop_eq_nil_of_le (by have := folds_len g7; lia)]
          rw [Fold.knowns]
          trivial
end
section
section
variable {w : World} {c : Cx w} {n : Led} {l : Fm} {rest : List Stmt} {sc : Scope} {d u : Nat}
theorem EvR.iadd {e1 e2 : PySem.Expr} {pos : Pos} {x y : Int} (h1 : EvR c n l e1 (IV x)) (h2 : EvR c n l e2 (IV y)) : EvR c n l (.BinOp e1 .Add e2 pos) (IV (x + y)) := fun Q kk h tk H =>
  wpAny_BinOp (h1 _ (fun a ha h tk H => h2 _ (fun b hb h tk H => by
    obtain ⟨t, rfl⟩ := ha
    obtain ⟨t', rfl⟩ := hb
    exact P.add_int (kk _ ⟨_, rfl⟩ h _ H)) h tk H) h tk H)
theorem EvR.isub {e1 e2 : PySem.Expr} {pos : Pos} {x y : Int} (h1 : EvR c n l e1 (IV x)) (h2 : EvR c n l e2 (IV y)) : EvR c n l (.BinOp e1 .Sub e2 pos) (IV (x - y)) := fun Q kk h tk H =>
  wpAny_BinOp (h1 _ (fun a ha h tk H => h2 _ (fun b hb h tk H => by
    obtain ⟨t, rfl⟩ := ha
    obtain ⟨t', rfl⟩ := hb
    exact P.sub_int (kk _ ⟨_, rfl⟩ h _ H)) h tk H) h tk H)
theorem EvR.imul {e1 e2 : PySem.Expr} {pos : Pos} {x y : Int} (h1 : EvR c n l e1 (IV x)) (h2 : EvR c n l e2 (IV y)) (hm : IntMulOk x y) : EvR c n l (.BinOp e1 .Mult e2 pos) (IV (x * y)) := fun Q kk h tk H =>
  wpAny_BinOp (h1 _ (fun a ha h tk H => h2 _ (fun b hb h tk H => by
    obtain ⟨t, rfl⟩ := ha
    obtain ⟨t', rfl⟩ := hb
    exact P.mul_int (kk _ ⟨_, rfl⟩ h _ H) hm) h tk H) h tk H)
theorem At.ifE {test body orelse : PySem.Expr} {pos : Pos} {p : Prop} {Q : Value → Shared → Prop} (h : Tst c n l test p) (k1 : p → At c n l (eval body c.env) Q) (k2 : ¬ p → At c n l (eval orelse c.env) Q) : At c n l (eval (.IfExp test body orelse pos) c.env) Q := fun h' tk H =>
  IfExp_ (h (fun b s₂ => if b = true then wpAny (model PR w) c.A (eval body c.env) Q c.E s₂ else wpAny (model PR w) c.A (eval orelse c.env) Q c.E s₂) (fun hp h tk H => ite_tt (k1 hp h tk H)) (fun hp h tk H => ite_ff (k2 hp h tk H)) h' tk H)
theorem EvR.ifE {test body orelse : PySem.Expr} {pos : Pos} {p : Prop} {P : Value → Prop} (h : Tst c n l test p) (k1 : p → EvR c n l body P) (k2 : ¬ p → EvR c n l orelse P) : EvR c n l (.IfExp test body orelse pos) P := fun Q kk => At.ifE h (fun hp => k1 hp Q kk) fun hp => k2 hp Q kk
end
end
section
section
variable {w : World} {c : Cx w} {n : Led} {l : Fm} {rest : List Stmt} {sc : Scope} {d u : Nat} {b : Bool}
theorem At.eBin {e1 e2 : PySem.Expr} {op : Operator} {pos : Pos} {Q : Value → Shared → Prop} (k : At c n l (eval e1 c.env) fun a s' => wpAny (model PR w) c.A (eval e2 c.env) (fun b s'' => wpAny (model PR w) c.A (binaryOp op a b) Q c.E s'') c.E s') : At c n l (eval (.BinOp e1 op e2 pos) c.env) Q := fun h tk H => wpAny_BinOp (k h tk H)
theorem Go.iadd {x y : Int} {a b' : Value} {Q : Value → Shared → Prop} (ha : IV x a) (hb : IV y b') (k : ∀ v, IV (x + y) v → Go c n l Q v) : At c n l (binaryOp .Add a b') Q := fun h tk H => by
  obtain ⟨t, rfl⟩ := ha
  obtain ⟨t', rfl⟩ := hb
  exact P.add_int (k _ ⟨_, rfl⟩ h _ H)
theorem EvR.ifdiv {e1 e2 : PySem.Expr} {pos : Pos} {x y : Int} (h1 : EvR c n l e1 (IV x)) (h2 : EvR c n l e2 (IV y)) (hy : y ≠ 0) (hs : y.natAbs < 1073741824) : EvR c n l (.BinOp e1 .FloorDiv e2 pos) (IV (x.fdiv y)) := fun Q kk h tk H =>
  wpAny_BinOp (h1 _ (fun a ha h tk H => h2 _ (fun b hb h tk H => by
    obtain ⟨t, rfl⟩ := ha
    obtain ⟨t', rfl⟩ := hb
    exact floordiv_int hy (kk _ ⟨_, rfl⟩ h _ H) (.inl (PyProof.noPylong_small hs))) h tk H) h tk H)
theorem EvR.ifmod {e1 e2 : PySem.Expr} {pos : Pos} {x y : Int} (h1 : EvR c n l e1 (IV x)) (h2 : EvR c n l e2 (IV y)) (hy : y ≠ 0) : EvR c n l (.BinOp e1 .Mod e2 pos) (IV (x.fmod y)) := fun Q kk h tk H =>
  wpAny_BinOp (h1 _ (fun a ha h tk H => h2 _ (fun b hb h tk H => by
    obtain ⟨t, rfl⟩ := ha
    obtain ⟨t', rfl⟩ := hb
    exact PyProof.Rows.mod_int hy (kk _ ⟨_, rfl⟩ h _ H)) h tk H) h tk H)
theorem EvR.ipow {e1 e2 : PySem.Expr} {pos : Pos} {x y : Int} (h1 : EvR c n l e1 (IV x)) (h2 : EvR c n l e2 (IV y)) (hy : 0 ≤ y) (hy2 : y ≤ 1000000) (hx : x.natAbs < 2 ^ 64) : EvR c n l (.BinOp e1 .Pow e2 pos) (IV (x ^ y.toNat)) := fun Q kk h tk H =>
  wpAny_BinOp (h1 _ (fun a ha h tk H => h2 _ (fun b hb h tk H => by
    obtain ⟨t, rfl⟩ := ha
    obtain ⟨t', rfl⟩ := hb
    exact pow_int_small hy hy2 hx (kk _ ⟨_, rfl⟩ h _ H)) h tk H) h tk H)
noncomputable def CutQ {w : World} (c : Cx w) (value : PySem.Expr) (lo up : Option PySem.Expr) (p : Pos) (Q : Value → Shared → Prop) (o vl vu : Value) (s : Shared) : Prop :=
  wpAny (model PR w) c.A (subscriptTail value (.Slice lo up none p) o (.ref s.heap.objs.size)) Q c.E { s with heap := s.heap.push { cls := .type "slice", data := .fields #[vl, vu, .none] } }
theorem At.cutG {value : PySem.Expr} {lower upper : Option PySem.Expr} {p pos : Pos} {Q : Value → Shared → Prop}
    (k : At c n l (eval value c.env) fun o s₁ => wpAny (model PR w) c.A (evalPart lower c.env) (fun vl s₂ => wpAny (model PR w) c.A (evalPart upper c.env) (fun vu s₃ => CutQ c value lower upper p Q o vl vu s₃) c.E s₂) c.E s₁) :
    At c n l (eval (.Subscript value (.Slice lower upper none p) pos) c.env) Q := fun h tk H =>
  Subscript_ (wpAny_mono (k h tk H) (fun o s₁ h₁ => wpAny_Slice (wpAny_mono h₁ (fun vl s₂ h₂ => wpAny_mono h₂ (fun vu s₃ h₃ => wpAny_pure h₃) fun _ _ x => x) fun _ _ x => x)) fun _ _ x => x)
theorem Go.cut {value : PySem.Expr} {lower upper : Option PySem.Expr} {p : Pos} {Q : Value → Shared → Prop} {a : Addr} {vs : List Value} {k : Nat} {lo hi : Option Int} {vl vu : Value} (ha : (a, lstN vs k) ∈ n) (pl : IsPart vl lo) (pu : IsPart vu hi) (hz : vs.length ≤ 100000)
    (kk : ∀ D n', New n n' D (lstN (kms_pick vs lo hi) 0) → Go c n' l Q (.ref D)) : Go c n l (CutQ c value lower upper p Q (.ref a) vl) vu := fun h tk H => by
  obtain ⟨m, hid, hV, F, N, O⟩ := H
  refine sliceL (s := { c.s with heap := h, toks := tk }) F N (News.isList N (List.mem_append_right _ ha)) pl pu .none (fun e => nomatch e) (by rw [List.size_toArray, sizeLine_eq]; lia) (fun D h' F' N' lt => ?_) (hs := rfl)
  rw [kms_pick_eq] at N'
  exact kk D _ (New.of fun p hp => lt p (List.mem_append_right _ hp)) h' tk (Hp.new hV O F' N' lt)
noncomputable def Wq {w : World} (c : Cx w) (xs : List Str) (rest : List Stmt) (Q : Flow → Shared → Prop) (v : Value) (s' : Shared) : Prop :=
  wpAny (model PR w) c.A (unpackItems v xs.length none) (fun items s₂ => wpAny (model PR w) c.A (assignInOrder (xs.reverse.map fun n => bindName c.env n) items.reverse) (fun _ => Th c rest Q .next) c.E s₂) c.E s'
theorem At.swapQ {ts : List PySem.Expr} {tp pos : Pos} {j : Nat} {e : PySem.Expr} {xs : List Str} {Q : Flow → Shared → Prop} (hw : Wk c sc d u true) (k : At c n l (eval e c.env) (Wq c xs rest Q))
    (hsw : ∀ env : Env, env.scope = sc → swappedStores [.Tuple ts j tp] e env = pure (some xs) := by intro env h; cases env; cases h; rfl) (hs : ∀ env, swapsWithSole [.Tuple ts j tp] e pos.line env = pure false := by intro _; rfl) :
    At c n l (execs (.Assign [.Tuple ts j tp] e pos :: rest) c.env) Q := .cons fun h' tk H => Assign_Tuple_swapped (k h' tk H) (hs _) (hsw _ hw.sc)
theorem At.bindN {x : Str} {v : Value} {ts : List (Value → Sem Unit)} {vs : List Value} {Q : Unit → Shared → Prop} (hw : Wk c sc d u true) (hx : (l.map (·.1)).contains x = true) (k : At c n (put l x v) (assignInOrder ts vs) Q) : At c n l (assignInOrder ((fun v => bindName c.env x v) :: ts) (v :: vs)) Q := fun h tk H =>
  assignInOrder_cons (wpAny_bindName (bind_name (Q := fun _ s' => wpAny (model PR w) c.A (assignInOrder ts vs) Q c.E s') hw hx k h tk H))
theorem Go.swp {a : Addr} {vs : List Value} {xs : List Str} {Q : Flow → Shared → Prop} (ha : (a, tup vs) ∈ n) (hl : vs.length = xs.length) (k : At c n l (assignInOrder (xs.reverse.map fun n => bindName c.env n) vs.reverse) fun _ => Th c rest Q .next) : Go c n l (Wq c xs rest Q) (.ref a) := fun h tk H => by
  obtain ⟨m, hid, hV, F, N, O⟩ := H
  have ht := (N _ (List.mem_append_right _ ha)).1
  have key : ∀ (k : Nat) (Q' : List Value → Shared → Prop), k = vs.toArray.size → (∀ h', Heap.ExtBut h.objs.size h h' → Q' vs { c.s with heap := h', toks := tk }) → wpAny (model PR w) c.A (unpackItems (.ref a) k none) Q' c.E { c.s with heap := h, toks := tk } := by
    rintro _ Q' rfl hq
    exact unpackItems_tuple (items := vs.toArray) rfl (Y1_3 _ ht rfl ⟨_, rfl⟩) fun h' he => hq h' he
  exact key _ _ (by rw [List.size_toArray, hl]) fun h' he => k h' tk ⟨m, hid, hV, F.extBut he (Nat.le_refl _), N.extBut he (Nat.le_refl _), O⟩
theorem Go.swp2 {x y : Str} {a : Addr} {v1 v2 : Value} {Q : Flow → Shared → Prop} (hw : Wk c sc d u true) (ha : (a, tup [v1, v2]) ∈ n) (k : At c n (put (put l y v2) x v1) (execs rest c.env) Q)
    (hy : (l.map (·.1)).contains y = true := by rfl) (hx : ((put l y v2).map (·.1)).contains x = true := by rfl) : Go c n l (Wq c [x, y] rest Q) (.ref a) :=
  Go.swp ha rfl (At.bindN hw hy (At.bindN hw hx (.ord0 k)))
theorem Go.swp3 {x y z : Str} {a : Addr} {v1 v2 v3 : Value} {Q : Flow → Shared → Prop} (hw : Wk c sc d u true) (ha : (a, tup [v1, v2, v3]) ∈ n) (k : At c n (put (put (put l z v3) y v2) x v1) (execs rest c.env) Q)
    (hz : (l.map (·.1)).contains z = true := by rfl) (hy : ((put l z v3).map (·.1)).contains y = true := by rfl) (hx : ((put (put l z v3) y v2).map (·.1)).contains x = true := by rfl) : Go c n l (Wq c [x, y, z] rest Q) (.ref a) :=
  Go.swp ha rfl (At.bindN hw hz (At.bindN hw hy (At.bindN hw hx (.ord0 k))))
end
end
section
section
variable {w : World} {c : Cx w} {n : Led} {l : Fm} {rest : List Stmt} {sc : Scope} {d u : Nat}
theorem At.setKey {x y : Str} {j : Nat} {py pk pos' pos : Pos} {e : PySem.Expr} {P : Value → Prop} {a : Addr} {o : Obj} {kvs : List (Str × Value)} {Q : Flow → Shared → Prop} (he : EvR c n l e P) (hy : frm l y = some (.ref a)) (ha : (a, o) ∈ n) (hd : o.IsDictOf (KNd w) kvs) (hz : kvs.length ≤ 1000)
    (k : ∀ v, P v → ∀ n' o', Mut n n' a o' → o'.IsDictOf (KNd w) (stored kvs x v) → At c n' l (execs rest c.env) Q)
    (hs : ∀ env, swapsWith e (some (.Subscript (.Name y py) (.Constant (.str x) j pk) pos')) pos.line env = pure false := by intro _; rfl) (hdb : (y == ("__debug__" : Str)) = false := by decide) : At c n l (execs (.Assign [.Subscript (.Name y py) (.Constant (.str x) j pk) pos'] e pos :: rest) c.env) Q :=
  .cons fun h tk H => wpAny_Assign_Subscript (he _ (fun v hv h tk H => (EvP.name hy hdb : EvP c n l (.Name y py) _) _ (fun h tk H => Constant_str (by
    have hN := H.get ha
    obtain ⟨m, hid, hV, F, N, O⟩ := H
    have hN' := N _ (List.mem_append_right _ ha)
    refine wpAny_setItem_pairs (hsz := by rw [sizeLine_eq]; lia) (strKind_is _ _ _ _) (Heap.dictOf_iff.mpr (Y1_2 o hN hd)) fun h' hmm hs => ?_
    refine X1_2 (Heap.dictOf_iff.mp hmm) fun o' ho' hd' => ?_
    refine k v hv (setL n a o') o' Mut.of hd' h' _ (Hp.mut hV O (F.change hs hN'.2.1 hN'.2.2) ha fun p hp => ?_)
    rcases List.mem_cons.mp hp with rfl | hp
    · exact ⟨ho', hN'.2⟩
    · have y := N p (List.mem_filter.mp hp).1
      exact ⟨hs.extBut _ _ (front_ne p hp) y.1, y.2⟩)) h tk H) h tk H) (hs _)
end
section
variable {w : World} {c : Cx w} {n : Led} {l : Fm}
structure DkAt (w : World) (n : Led) (da ca : Addr) (cs : List Value) : Prop where
  dk : ∃ o, (da, o) ∈ n ∧ Deck w o ca
  cl : (ca, LCg.lst cs) ∈ n
  cs : Cells cs
  sy : (da == sysModules) = false
  ne : @Ne Nat da ca
theorem DkAt.sub {n' : Led} {da ca : Addr} {cs : List Value} (h : DkAt w n da ca cs) (hs : ∀ q ∈ n, q ∈ n') : DkAt w n' da ca cs :=
  ⟨h.dk.imp fun _ h => ⟨hs _ h.1, h.2⟩, hs _ h.cl, h.cs, h.sy, h.ne⟩
structure DkT (w : World) (n n' : Led) (da ca : Addr) (cs : List Value) : Prop where
  at_ : DkAt w n' da ca cs
  sub : ∀ q ∈ n, @Ne Nat q.1 da → q ∈ n'
noncomputable abbrev frW (dk bl at_ st ce : Option Value) : Fm := [(Str.ofString "deck", dk), (Str.ofString "below", bl), (Str.ofString "at", at_), (Str.ofString "stir", st), (Str.ofString "cell", ce)]
theorem draw_L {da ca : Addr} {cs : List Value} {k : Int} {tk : Tok} (hroom : c.dp < recursionLimit) (hD : DkAt w n da ca cs) (hk : 0 < k) : CaG c n l (.ref 301) [.ref da, .int k tk] fun r n' => (∃ x, IV x r ∧ 0 ≤ x ∧ x < k) ∧ DkT w n n' da ca cs := fun Q kk => by
  refine X1_2 hD.dk ?_; rintro o ho zz; obtain ⟨i, st, ti, ts, hi, hs0, hs1, hd⟩ := zz
  refine X1_3 hD.cs fun ns hI hcell hlen => ?_
  have hcl : cs.length ≤ 48 := by rw [hI.length]; exact hlen
  refine At.enter (by exact rfl) hroom [Str.ofString "deck", Str.ofString "below"] [Str.ofString "at", Str.ofString "stir", Str.ofString "cell"] (frW (some (.ref da)) (some (.int k tk)) none none none) fun c' RQ hI' => ?_
  have hw := hI'.wk
  refine At.swapQ (xs := [Str.ofString "at", Str.ofString "stir"]) hw <| .eTup <| .argP (.skey (.name rfl) ho hd rfl) <| .argP (.skey (.name rfl) ho hd rfl) <| .arg0 <| At.newTup fun T k1 hT => Go.swp2 hw hT.mem ?_
  have ho1 := hT.sub _ ho
  refine .assignR hw (P := fun v => ∃ x, IV x v ∧ 0 ≤ x) (.ifE (.cmp (EvP.r (P := IV i) (.name rfl) ⟨_, rfl⟩) (.lenL hw (.skey (.name rfl) ho1 hd rfl) (hT.sub _ hD.cl) (by lia)) fun a b ha hb => .iLt ha hb) (fun h => ?_) fun h => EvP.r (.name rfl) (Y1_2 st ⟨_, rfl⟩ hs0)) fun cv hcv => ?_
  · have hlt : i.toNat < ns.length := by rw [← hI.length]; lia
    obtain ⟨t, hg⟩ := hI.get i.toNat ns[i.toNat] (List.getElem?_eq_getElem hlt)
    exact EvP.r (.item (.skey (.name rfl) ho1 hd rfl) (hT.sub _ hD.cl) (EvP.r (P := IV i) (.name rfl) ⟨_, rfl⟩) hi (by lia) hg) (Y1_2 _ ⟨t, rfl⟩ ((hcell _ (List.getElem_mem hlt)).1))
  refine X1_2 hcv ?_; clear hcv; rintro x hx hx0
  refine .setKey (.iadd (EvP.r (P := IV i) (.name rfl) ⟨_, rfl⟩) .int) rfl ho1 hd (Nat.le_of_ble_eq_true rfl) fun v1 h1 k2 o2 M2 hd2 => ?_
  refine .setKey (.ifmod (.iadd (.iadd (.iadd (.imul (EvP.r (P := IV st) (.name rfl) ⟨_, rfl⟩) .int (.of_right (by decide))) (.ifmod (EvP.r (P := IV x) (.name rfl) hx) .int (by decide))) (.imul (EvP.r (P := IV i) (.name rfl) ⟨_, rfl⟩) .int (.of_right (by decide)))) .int) .int (by decide)) rfl M2.mem hd2 (Nat.le_of_ble_eq_true rfl) fun v2 h2 k3 o3 M3 hd3 => ?_
  obtain ⟨t1, rfl⟩ := h1
  obtain ⟨t2, rfl⟩ := h2
  have hd4 : o3.IsDictOf (KNd w) [(Str.ofString "cells", .ref ca), (Str.ofString "at", .int (i + 1) t1), (Str.ofString "stir", .int ((st * 31 + x.fmod 8191 + i * 7 + 5).fmod 8191) t2)] := hd3
  refine .ret (R := fun v k' => IV (x.fmod k) v ∧ k' = k3) (EvR.g (.ifmod (EvP.r (P := IV x) (.name rfl) hx) (EvP.r (P := IV k) (.name rfl) ⟨_, rfl⟩) (by lia)) fun v h => ⟨h, rfl⟩) ?_
  rintro v _ ⟨hv, rfl⟩
  refine hI'.ret _ _ _ (kk _ _ ⟨Y1_3 _ hv (Int.fmod_nonneg_of_pos _ hk) (Int.fmod_lt_of_pos _ hk), ⟨Y1_2 o3 M3.mem (Y4_4 (i + 1) _ _ _ (by lia) (Int.fmod_nonneg_of_pos _ (by decide)) (Int.fmod_lt_of_pos _ (by decide)) hd4), M3.sub _ (M2.sub _ (hT.sub _ hD.cl) (Ne.symm hD.ne)) (Ne.symm hD.ne), hD.cs, hD.sy, hD.ne⟩, fun q hq hn => M3.sub q (M2.sub q (hT.sub q hq) hn) hn⟩)
end
end
section
mutual
noncomputable def Fold.paths (ah : Bs) : Fold → List Bs
  | .mk _ _ _ ps fs _ => fs.map (ah ++ ·) ++ Fold.pathss ah ps
noncomputable def Fold.pathss (ah : Bs) : List Fold → List Bs
  | [] => []
  | p :: r => Fold.paths (ah ++ p.name ++ [47]) p ++ Fold.pathss ah r
end
theorem pathss_snoc {ah : Bs} {p : Fold} : ∀ {ps : List Fold}, Fold.pathss ah (ps ++ [p]) = Fold.pathss ah ps ++ Fold.paths (ah ++ p.name ++ [47]) p
  | [] => by simp [Fold.pathss]
  | q :: r => by simp only [List.cons_append, Fold.pathss, pathss_snoc, List.append_assoc]
theorem Fold.Ok.file {d : Nat} {n : Bs} {c : Int} {o : Option Bs} {ps : List Fold} {fs : List Bs} {m : Int} (h : Fold.Ok d (.mk n c o ps fs m)) : fs = [] ∨ fs = [[98, 46, 120]] ∨ fs = [[98, 46, 120], [102]] := by
  rw [Fold.Ok_eq] at h
  exact h.2.2.2.2.2.2.2.2.1
theorem pathss_len {k : Nat} : ∀ {ps : List Fold} {ah : Bs}, (∀ p ∈ ps, ∀ ah, (Fold.paths ah p).length ≤ k) → (Fold.pathss ah ps).length ≤ ps.length * k
  | [], _, _ => by simp [Fold.pathss]
  | p :: r, ah, h => by
    rw [Fold.pathss, List.length_append, List.length_cons, Nat.succ_mul]
    have := h p (.head _) (ah ++ p.name ++ [47])
    have := pathss_len (ps := r) (ah := ah) fun q hq => h q (.tail _ hq)
    lia
theorem paths_len : ∀ (d : Nat) (t : Fold), Fold.Ok d t → ∀ ah, (Fold.paths ah t).length ≤ 2 * nodes d := by
  intro d
  induction d with
  | zero =>
    rintro ⟨n, c, o, ps, fs, m⟩ hok ah
    have hf := hok.file
    rw [Fold.Ok_eq] at hok
    have h12 := hok.2.2.2.2.2.2.2.2.2.2.2
    simp at h12
    subst h12
    rcases hf with rfl | rfl | rfl <;> simp [Fold.paths, Fold.pathss, nodes]
  | succ d ih =>
    rintro ⟨n, c, o, ps, fs, m⟩ hok ah
    have hf := hok.file
    have hl := hok.len
    rw [Fold.Ok_eq] at hok
    have h12 := hok.2.2.2.2.2.2.2.2.2.2.2
    have h1 := pathss_len (k := 2 * nodes d) (ps := ps) (ah := ah) fun p hp => ih p (h12 p hp)
    have h2 : ps.length * (2 * nodes d) ≤ 3 * (2 * nodes d) := Nat.mul_le_mul_right _ hl
    have h3 : fs.length ≤ 2 := by rcases hf with rfl | rfl | rfl <;> simp
    rw [Fold.paths, List.length_append, List.length_map, nodes]
    lia
theorem pathss_take {ah : Bs} {ps : List Fold} (i : Nat) : (Fold.pathss ah (ps.take i)).length ≤ (Fold.pathss ah ps).length := by
  induction ps generalizing i with
  | nil => simp [Fold.pathss]
  | cons p r ih =>
    cases i with
    | zero => simp [Fold.pathss]
    | succ i => rw [List.take_succ_cons, Fold.pathss, Fold.pathss, List.length_append, List.length_append]; have := ih i; lia
theorem bvs_app : ∀ {vs us : List Value} {bs cs : List Bs}, BVs vs bs → BVs us cs → BVs (vs ++ us) (bs ++ cs)
  | [], _, [], _, _, k => k
  | [], _, _ :: _, _, h, _ => False.elim h
  | _ :: _, _, [], _, h, _ => False.elim h
  | v :: vs, us, b :: bs, cs, h, k => by
    change _ ∧ _ at h
    rw [List.cons_append, List.cons_append]
    show _ ∧ _
    exact ⟨h.1, bvs_app h.2 k⟩
noncomputable abbrev frPh (fo ah fd pt : Option Value) : Fm := [(Str.ofString "folder", fo), (Str.ofString "ahead", ah), (Str.ofString "found", fd), (Str.ofString "part", pt)]
inductive PhJ (n k : Led) (D : Addr) (bs : List Bs) : Prop
  | mk (vs : List Value) (j : Nat) (m : (D, lstN vs j) ∈ k) (b : BVs vs bs) (s : ∀ q ∈ n, q ∈ k) (ne : ∀ q ∈ n, @Ne Nat q.1 D) : PhJ n k D bs
theorem paths_L : ∀ (t : Fold) {w : World} {c : Cx w} {n : Led} {l : Fm} {v : Value} {d : Nat} {ah : Bs} {ta : Tok} (_ : Fold.Ok d t) (_ : ah.length + 3 * d ≤ 20) (_ : c.dp + t.tree.ht + 1 < recursionLimit) (_ : d ≤ 2) (_ : FoldIn w n v t), CaG c n l (.ref 362) [v, .bytes ah.toArray ta] fun r n' => ∃ D vs k, r = .ref D ∧ BVs vs (t.paths ah) ∧ New n n' D (lstN vs k) := by
  intro t
  induction t using Fold.ind with
  | h nm cn o ps fs mm ih =>
  intro w c n l v d ah ta hok ha hroom hd ht Q kk
  have hpl := paths_len d _ hok ah
  have hnn : nodes d ≤ 13 := by rcases (by lia : d = 0 ∨ d = 1 ∨ d = 2) with rfl | rfl | rfl <;> decide
  have hfl : fs.length ≤ 2 := by rcases hok.file with h | h | h <;> rw [h] <;> decide
  rw [Fold.tree, Tree.ht] at hroom
  refine ht.open ?_
  intro a ob tn vo pl fl t1 t2 vs ws i j e h1 h2 h3 h4 h5 h6 h7 h8 h9 h10
  subst e
  refine At.enter (by exact rfl) (by lia) [Str.ofString "folder", Str.ofString "ahead"] [Str.ofString "found", Str.ofString "part"] (frPh (some (.ref a)) (some (.bytes ah.toArray ta)) none none) fun c' RQ hI => ?_
  have hw := hI.wk
  refine .asgComp hw (.skey (.name rfl) h1 h3 rfl) h6 h10 (fun i ys k => (∀ q ∈ n, q ∈ k) ∧ BVs ys ((fs.take i).map (ah ++ ·))) ⟨fun _ h => h, by show BVs [] []; trivial⟩ (fun i ys k h => h.1 _ h6) (fun i v ys k c2 hv hj hw2 Q2 k2 => ?_) fun D ys k k1 hj hD => ?_
  · refine X1_2 (bvs_get h8 hv) ?_; rintro b hb ⟨tb, rfl⟩
    have hbl : b.length ≤ 3 := by
      have := List.mem_of_getElem? hb
      rcases hok.file with h | h | h <;> rw [h] at this <;> simp at this
      · rw [this]; decide
      · rcases this with h | h <;> rw [h] <;> decide
    refine EvR.addB (EvP.r (P := BW ah) (.name rfl) ⟨_, rfl⟩) (EvP.r (P := BW b) (.name rfl) ⟨_, rfl⟩) (by lia) _ fun v hv => k2 _ _ ⟨hj.1, ?_⟩
    rw [List.take_add_one, hb, List.map_append]
    exact bvs_add hv hj.2
  rw [bvs_len h8, List.take_length] at hj
  refine .forL hw (.skey (.name rfl) (hD.sub _ (hj.1 _ h1)) h3 rfl) (hD.sub _ (hj.1 _ h5)) (fun i k l' => (∃ op, l' = frPh (some (.ref a)) (some (.bytes ah.toArray ta)) (some (.ref D)) op) ∧ PhJ n k D (fs.map (ah ++ ·) ++ Fold.pathss ah (ps.take i))) ⟨⟨none, rfl⟩, ys, _, hD.mem, by simpa [Fold.pathss] using hj.2, fun q hq => hD.sub q (hj.1 q hq), fun q hq => hD.ne q (hj.1 q hq)⟩ (fun i k l' h => ?_) (fun i v k l' ci TQ hv hj2 hn => ?_) fun k l' hj2 => ?_
  · obtain ⟨⟨op, rfl⟩, J⟩ := h
    obtain ⟨_, _, _, _, s, _⟩ := J
    exact ⟨s _ h5, rfl⟩
  · refine X0_2 hj2 ?_; clear hj2; rintro ⟨op, rfl⟩ zz; obtain ⟨us, ju, m, b, s, ne⟩ := zz
    have hw2 := hn.wk
    refine X1_2 (folds_get h7 hv) fun p hpi hpf => ?_
    have hpm := List.mem_of_getElem? hpi
    refine X1_2 (hok.part hpm) ?_; rintro e rfl hoke
    have hlt := Tree.ht_le (ps := Fold.trees ps) (q := p.tree) (trees_mem hpm)
    have hul := bvs_len b
    have hsl := pathss_take (ah := ah) (ps := ps) i
    have hsl2 : (Fold.paths ah (.mk nm cn o ps fs mm)).length = (fs.map (ah ++ ·)).length + (Fold.pathss ah ps).length := by rw [Fold.paths, List.length_append]
    rw [List.length_append] at hul
    have hpp := paths_len e p hoke (ah ++ p.name ++ [47])
    have hnl : p.name.length ≤ 2 := by obtain ⟨n', c', o', ps', fs', m'⟩ := p; rw [Fold.Ok_eq] at hoke; exact hoke.1
    have hne : nodes e ≤ 13 := by rcases (by lia : e = 0 ∨ e = 1) with rfl | rfl <;> decide
    have hpk : ∀ {l' : Fm} {p1 p2 p3 : Pos} {j : Nat}, frm l' (Str.ofString "part") = some v → EvR ci k l' (.Subscript (.Name (Str.ofString "part") p1) (.Constant (.str (Str.ofString "name")) j p2) p3) (BW p.name) := fun hl => by
      obtain ⟨nm3, cn3, od3, ps3, fs3, m3⟩ := p
      refine hpf.open ?_
      intro a3 ob3 tn3 vo3 pl3 fl3 t3 t4 vs3 ws3 i3 j3 e f1 f2 f3 f4 f5 f6 f7 f8 f9 f10
      subst e
      exact EvP.r (.skey (.name hl) (s _ f1) f3 rfl) ⟨_, rfl⟩
    refine .exprQ <| .eMeth (.name rfl) (.list m PySem.F.slot_list_extend PySem.F.type_list_extend) .blt <| .argQ <| .eCall (.glob hw2 rfl) (.ref rfl) <| .argP (.name rfl) <| .argR (.addB (.addB (EvP.r (P := BW ah) (.name rfl) ⟨_, rfl⟩) (hpk rfl) (by lia)) .bytes (by simp; lia)) fun iv hiv => .arg0 <| .cq ?_
    obtain ⟨itok, rfl⟩ := hiv
    refine ih p hpm (d := e) hoke (by simp; lia) (by rw [hw2.dp]; lia) (by lia) (hpf.mono s) _ fun r k2 hr => ?_
    refine X3_3 hr ?_; clear hr; rintro D2 us2 k3 rfl hb2 hN2
    refine At.arg0 <| Go.cq <| Hp.ext (hN2.sub _ m) hN2.mem (Ne.symm (hN2.ne _ m)) (by lia) (by have := bvs_len hb2; lia) _ fun r k4 hr => ?_
    refine X0_2 hr ?_; clear hr; rintro rfl ⟨j4, M⟩
    refine Go.xq <| .nil <| hn.next _ _ ⟨⟨_, rfl⟩, us ++ us2, j4, M.mem, ?_, fun q hq => M.sub q (hN2.sub q (s q hq)) (ne q hq), ne⟩
    rw [List.take_add_one, hpi]
    show BVs _ (_ ++ Fold.pathss ah (ps.take i ++ [p]))
    rw [pathss_snoc, ← List.append_assoc]
    exact bvs_app b hb2
  · refine X0_2 hj2 ?_; clear hj2; rintro ⟨op, rfl⟩ zz; obtain ⟨us, ju, m, b, s, ne⟩ := zz
    rw [List.take_of_length_le (by rw [← folds_len h7]; exact Nat.le_refl _)] at b
    refine .retP (.name rfl) <| hI.ret _ _ _ (kk _ _ ⟨D, us, ju, rfl, ?_, m, s, ne⟩)
    rw [Fold.paths]
    exact b
end
section
section
variable {w : World} {c : Cx w} {n : Led} {l : Fm}
theorem sorted_L {a : Addr} {vs : List Value} {k : Nat} {bs : List Bs} (ha : (a, lstN vs k) ∈ n) (hB : BVs vs bs) (h64 : vs.length < 64) : CaG c n l (.builtin "sorted") [.ref a] fun r n' => ∃ D us cs e, r = .ref D ∧ BVs us cs ∧ cs.Perm bs ∧ New n n' D (lstN us e) := fun Q kk h tk H => by
  obtain ⟨m, hid, hV, F, N, O⟩ := H
  exact sorted_B F N (List.mem_append_right _ ha) hB h64 fun D h' us cs e F' N' h1 h2 lt => kk _ _ (Y4_4 D us cs e rfl h1 h2 (New.of fun p hp => lt p (List.mem_append_right _ hp))) h' tk (Hp.new hV O F' N' lt)
theorem At.eCall0 {fx : PySem.Expr} {pos : Pos} {f : Value} {Q : Value → Shared → Prop} (hf : EvP c n l fx f) (hc : Cal w f) (k : At c n l (call f []) Q)
    (hx : ∀ env : Env, eval (.Call fx [] [] pos) env = (do callWith pos (← eval fx env) [] (backTo pos (starEach [] env)) []) := by intro _; rfl) : At c n l (eval (.Call fx [] [] pos) c.env) Q := fun h' tk H => by
  rw [hx]
  exact wpAny_bind (hf (fun v s₁ => wpAny (model PR w) c.A (callWith pos v [] (backTo pos (starEach [] c.env)) []) Q c.E s₁) (At.callW0 hc k) h' tk H)
theorem stat_L {Q : Value → Shared → Prop} (hroom : c.dp + 1 < recursionLimit) (k : ∀ x n', (∀ q ∈ n, q ∈ n') → Go c n' l Q (.ref x)) : At c n l (call (.ref 124) []) Q :=
  .cls rfl rfl rfl fun x d n1 hN => At.enterD (c := c.up 1 1) (us := [.ref x, .int 0 319, .int 0 320, .int 0 321, .int 0 322, .int 0 323, .int 0 324, .int 0 325]) (by exact rfl) hroom [Str.ofString "self", Str.ofString "ctime", Str.ofString "mtime", Str.ofString "dev", Str.ofString "ino", Str.ofString "uid", Str.ofString "gid", Str.ofString "size"] [] [(Str.ofString "self", some (.ref x)), (Str.ofString "ctime", some (.int 0 319)), (Str.ofString "mtime", some (.int 0 320)), (Str.ofString "dev", some (.int 0 321)), (Str.ofString "ino", some (.int 0 322)), (Str.ofString "uid", some (.int 0 323)), (Str.ofString "gid", some (.int 0 324)), (Str.ofString "size", some (.int 0 325))] (fun c' RQ hI =>
    (NewS.mk [] 0 hN rfl (Nat.le_refl 0)).self rfl (Y0_4 rfl rfl rfl rfl) fun n2 N => N.self rfl (Y0_4 rfl rfl rfl rfl) fun n3 N => N.self rfl (Y0_4 rfl rfl rfl rfl) fun n4 N => N.self rfl (Y0_4 rfl rfl rfl rfl) fun n5 N => N.self rfl (Y0_4 rfl rfl rfl rfl) fun n6 N => N.self rfl (Y0_4 rfl rfl rfl rfl) fun n7 N => N.self rfl (Y0_4 rfl rfl rfl rfl) fun n8 N => At.nil <| hI.nxt _ _ fun h tk H => by
      obtain ⟨es, k', N, _, _⟩ := N
      exact ⟨rfl, k x _ N.sub h tk H⟩) fun s X => binds_K X rfl rfl rfl rfl rfl
theorem entry_L {b o : Bs} {tb to tm ts : Tok} {md st : Int} (hroom : c.dp + 3 < recursionLimit) : CaG c n l (.ref 162) [.bytes b.toArray tb, .int md tm, .bytes o.toArray to, .int st ts] fun r n' => (∀ q ∈ n, q ∈ n') ∧ EntAt w n' r b st := fun Q kk =>
  .cls rfl rfl rfl fun x d n1 hN => At.enterD (c := c.up 1 1) (us := [.ref x, .bytes b.toArray tb, .int md tm, .bytes o.toArray to, .int st ts, .none, .bool false, .bool false, .bool false]) (by exact rfl) (Nat.lt_trans (Nat.lt_succ_of_lt (Nat.lt_succ_self _)) hroom) [Str.ofString "self", Str.ofString "path", Str.ofString "mode", Str.ofString "oid", Str.ofString "stage", Str.ofString "stat", Str.ofString "is_assumed", Str.ofString "is_intent", Str.ofString "is_skipped"] [] [(Str.ofString "self", some (.ref x)), (Str.ofString "path", some (.bytes b.toArray tb)), (Str.ofString "mode", some (.int md tm)), (Str.ofString "oid", some (.bytes o.toArray to)), (Str.ofString "stage", some (.int st ts)), (Str.ofString "stat", some (.none)), (Str.ofString "is_assumed", some (.bool false)), (Str.ofString "is_intent", some (.bool false)), (Str.ofString "is_skipped", some (.bool false))] (fun c' RQ hI =>
    have hw := hI.wk
    hN.self rfl (Y0_4 rfl rfl rfl rfl) fun k1 n2 N => N.self rfl (Y0_4 rfl rfl rfl rfl) fun k2 n3 N => N.self rfl (Y0_4 rfl rfl rfl rfl) fun k3 n4 N => N.self rfl (Y0_4 rfl rfl rfl rfl) fun k4 n5 N =>
    At.setA <| At.ifE (.cmp (EvP.r (P := fun v => v = .none) (.name rfl) rfl) (EvP.r (P := fun v => v = .none) .none rfl) fun a b ha hb => by subst ha; subst hb; exact .isNone) (fun _ => At.eCall0 (.glob hw rfl) (.ref rfl) <| stat_L (by rw [hw.dp]; exact hroom) fun xt n6 h6 => Go.setA rfl <| At.setE (N.sub2 h6) rfl (Y0_4 rfl rfl rfl rfl) fun k5 n7 N => N.self rfl (Y0_4 rfl rfl rfl rfl) fun k6 n8 N => N.self rfl (Y0_4 rfl rfl rfl rfl) fun k7 n9 N => N.self rfl (Y0_4 rfl rfl rfl rfl) fun k8 n10 N =>
      At.nil <| hI.nxt _ _ fun h tk H => ⟨rfl, kk _ _ ⟨N.sub, Y17_3 x d xt k1 k2 k3 k4 k5 k6 k7 k8 tb to tm ts _ md rfl N.m1 N.m2⟩ h tk H⟩) fun h => absurd rfl h) fun s X => binds_K X rfl rfl rfl rfl rfl
end
end
section
section
variable {prog : Program} {w : World} {A : Around} {E : Value → Shared → Prop} {s : Shared} {a : Addr} {vs : List Value} {k : Nat}
theorem lk_list_keys : typeLookup (.type "list") "keys" = pure none := by rw [typeLookup_type, builtinLookup_eq_fast]; kernel_rfl
theorem keys_by {u : Tok} {Q : Value → Shared → Prop} (hx : s.heap.get? a = some (lstN vs k)) (hA : A.handled = none) (h : ∀ h' tk e, Heap.NewExcOf s.heap h' e "AttributeError" → E (.ref e) { s with heap := h', toks := tk }) :
    wpAny (model prog w) A (getAttrBy (.ref a) (.str "keys" u) false) Q E s := by
  obtain ⟨hp, g, d, tk, os⟩ := s
  have hT : ∀ tk', (⟨hp, g, d, tk', os⟩ : Shared).TypeIs (.ref a) "list" := fun _ => Y1_2 _ hx rfl
  have f1 := sub_AttributeError
  have f3 := F.slot_list_getattribute.lookup
  have f4 := F.slot_list_getattribute.bind (.ref a)
  have f5 := am_list_getattr_none
  unfold getAttrBy
  repeat (any_goals (first | assumption | exact hT _ | ((with_reducible show wpAny _ _ (call (Value.builtin "list.__getattribute__") _ _) _ _ _); refine call_meets F.slot_list_getattribute (hT _) am_entry_list_getattribute (F.args_list_getattribute_2 _ _) (meets_getattribute_miss_list a vs.toArray k #[] "keys" _ lk_list_keys (by decide)) (Y0_3 hx hA (fun h' tk' e hx' => ?_))) | wp_step))
  refine X2_1 hx'.there fun t' u' he => ?_
  show wpAny _ _ (getattributeRaised _ _ _ _ _ _ _) _ _ _
  unfold getattributeRaised
  repeat (any_goals (first | assumption | wp_step))
  exact h _ _ _ hx'.of
theorem keys_none {Q : Option Value → Shared → Prop} (hx : s.heap.get? a = some (lstN vs k)) (hA : A.handled = none) (h : ∀ h' tk, (∀ b o, s.heap.get? b = some o → h'.get? b = some o) → Q none { s with heap := h', toks := tk }) : wpAny (model prog w) A (getAttr? (.ref a) "keys") Q E s := by
  unfold getAttr? getAttrBy?
  refine wpAny_bind (wpAny_mkText ?_)
  refine wpAny_bind (wpAny_attempt (keys_by (s := { s with toks := s.toks + 1 }) hx hA fun h' tk e he => ?_))
  refine X2_3 he.there fun ob us h1 h2 _ => ?_
  refine wpAny_bind (wpAny_isInstance (T := "AttributeError") (b := true) (Y1_2 ob h1 h2) sub_AttributeError ?_)
  exact wpAny_pure (h h' tk he.keeps)
end
end
section
section
open Builtin
variable {prog : Program} {w : World} {A : Around} {E : Value → Shared → Prop} {K : Type} [DecidableEq K] {knd : KeyKind prog w K}
theorem entry_upd_loop : entryFor table "dict.update.loop" = some Builtin.«dict.update.loop» := entryFor_of_tree (by kernel_rfl)
theorem plain_upd_loop : plainId "dict.update.loop" = true := by decide +kernel
noncomputable def PrAt (knd : KeyKind prog w K) (h : Heap) (v : Value) (p : K × Value) : Prop := ∃ T kv, v = .ref T ∧ knd.is p.1 kv = true ∧ h.get? T = some (tup [kv, p.2])
theorem pairItems_tup {s : Shared} {T : Addr} {xs : List Value} {Q : List Value → Shared → Prop} (h : s.heap.get? T = some (tup xs)) (q : Q xs s) : wpAny (model prog w) A (Builtin.Dict.pairItems (.ref T)) Q E s := by
  unfold Builtin.Dict.pairItems
  refine wpAny_bind (wpAny_typeOf (T := "tuple") (Y1_2 _ h rfl) ?_)
  rw [if_pos (by decide)]
  refine wpAny_bind ?_
  unfold seqItems?
  dsimp only
  exact wpAny_bind (wpAny_load h (wpAny_pure (wpAny_pure q)))
theorem upd_loop {S I l : Addr} {vs : List Value} {kvs : List (K × Value)} {R : Result → Shared → Prop} (hh : A.handled = none) (hSI : S ≠ I) (hSl : S ≠ l) (hIl : l ≠ I) (hlen : vs.length = kvs.length) (hnd : (kvs.map (·.1)).Nodup) (hsz : kvs.length ≤ 1000) :
    ∀ (k i : Nat) (s : Shared) (c : Int) (tc : Tok), vs.length - i = k → i ≤ vs.length → s.heap.IsListIter I l i → s.heap.IsList l vs.toArray → s.heap.DictOf knd S (kvs.take i) → (∀ (j : Nat) v p, vs[j]? = some v → kvs[j]? = some p → PrAt knd s.heap v p) → (∀ (j : Nat) T, vs[j]? = some (.ref T) → T ≠ S ∧ T ≠ I) →
    (∀ h' tk, h'.DictOf knd S kvs → (∀ b o, b ≠ S → b ≠ I → s.heap.get? b = some o → h'.get? b = some o) → R (.ok (.ret .none)) { s with heap := h', toks := tk }) →
    codeAny (model prog w) A (.builtin "dict.update.loop" ⟨[.ref S, .ref I, .int c tc, .none], []⟩) R s := by
  intro k
  induction k with
  | zero =>
    intro i s c tc hk hi hI hl hD hp hT hR
    have hin : i = vs.length := by lia
    subst hin
    rw [hlen, List.take_length] at hD
    refine codeAny_builtin entry_upd_loop ?_
    rw [Around.under_plainId plain_upd_loop _]
    show wpAny _ A.in1 (pyNext (.ref I) >>= _) _ _ s
    refine wpAny_bind (wpAny_pyNext_list_end hh hI hl (by simp) fun h' he => ?_)
    dsimp only
    refine wpAny_bind (wpAny_of_eq (a := ()) rfl ?_)
    exact wpAny_pure (hR h' s.toks (hD.extBut he hSI) fun b o _ hbI e => he b o hbI e)
  | succ k ih =>
    intro i s c tc hk hi hI hl hD hp hT hR
    have hlt : i < vs.length := by omega
    obtain ⟨v, hv⟩ : ∃ v, vs[i]? = some v := ⟨_, List.getElem?_eq_getElem hlt⟩
    obtain ⟨p, hpi⟩ : ∃ p, kvs[i]? = some p := ⟨_, List.getElem?_eq_getElem (hlen ▸ hlt)⟩
    refine X2_3 (hp i v p hv hpi) ?_; rintro T kv rfl hkey hTo
    obtain ⟨hTS, hTI⟩ := hT i T hv
    refine codeAny_builtin entry_upd_loop ?_
    rw [Around.under_plainId plain_upd_loop _]
    show wpAny _ A.in1 (pyNext (.ref I) >>= _) _ _ s
    refine wpAny_bind (wpAny_pyNext_list_item hI hl (x := .ref T) (by simpa using hv) fun h1 hI1 hs1 => ?_)
    dsimp only
    refine wpAny_bind (wpAny_holding ?_)
    have hT1 : h1.get? T = some (tup [kv, p.2]) := hs1.extBut T _ hTI hTo
    refine wpAny_bind (wpAny_tryCatch (pairItems_tup hT1 ?_))
    dsimp only
    refine wpAny_holding (wpAny_dictSet_pairs (s := { s with heap := h1 }) hkey (hD.extBut hs1.extBut hSI) (fun h2 hD2 hs2 => ?_) (by rw [List.length_take, sizeLine_eq]; lia))
    refine wpAny_pure ⟨plainId_quiet plain_upd_loop _, ?_⟩
    have keep : ∀ b o, b ≠ S → b ≠ I → s.heap.get? b = some o → h2.get? b = some o := fun b o h3 h4 e => hs2.extBut b o h3 (hs1.extBut b o h4 e)
    refine ih (i + 1) { s with heap := h2, toks := s.toks + 1 } _ _ (by omega) (by lia) (hI1.at fun o e => hs2.extBut _ o (Ne.symm hSI) e) (hl.at fun o e => keep _ o (Ne.symm hSl) hIl e) ?_ (fun j v q h3 h4 => ?_) hT fun h' tk h3 h4 => hR h' tk h3 fun b o h5 h6 e => h4 b o h5 h6 (keep b o h5 h6 e)
    · have : stored (kvs.take i) p.1 p.2 = kvs.take (i + 1) := by
        rw [List.take_succ, hpi]
        unfold stored
        rw [if_neg]
        · rfl
        · intro hany
          refine X1_2 (List.any_eq_true.mp hany) fun q hq hqe => ?_
          obtain ⟨j, hj⟩ := List.getElem?_of_mem hq
          have hji : j < i := by
            have := (List.getElem?_eq_some_iff.mp hj).1
            rw [List.length_take] at this
            lia
          rw [List.getElem?_take_of_lt hji] at hj
          obtain ⟨a1, a2⟩ := List.getElem?_eq_some_iff.mp hj
          obtain ⟨b1, b2⟩ := List.getElem?_eq_some_iff.mp hpi
          have hne := List.pairwise_iff_getElem.mp hnd j i (by rw [List.length_map]; exact a1) (by rw [List.length_map]; exact b1) hji
          rw [List.getElem_map, List.getElem_map, a2, b2] at hne
          exact hne (by simpa using hqe)
      rw [← this]
      exact hD2
    · refine X2_3 (hp j v q h3 h4) ?_; rintro T' kv' rfl h5 h6
      exact Y2_3 T' kv' rfl h5 (keep _ _ (hT j T' h3).1 (hT j T' h3).2 h6)
theorem call_dict_pairs {s : Shared} {l : Addr} {vs : List Value} {kvs : List (K × Value)} {Q : Value → Shared → Prop} (hh : A.handled = none) (hl0 : s.heap.get? l = some (lstN vs vs.length)) (hlen : vs.length = kvs.length) (hnd : (kvs.map (·.1)).Nodup) (hsz : kvs.length ≤ 1000)
    (hp : ∀ (j : Nat) v p, vs[j]? = some v → kvs[j]? = some p → PrAt knd s.heap v p)
    (h : ∀ h' tk, h'.DictOf knd s.heap.objs.size kvs → (∀ b o, s.heap.get? b = some o → h'.get? b = some o) → Q (.ref s.heap.objs.size) { s with heap := h', toks := tk }) : wpAny (model prog w) A (call (.type "dict") [.ref l]) Q E s := by
  refine callType_codes (Q₁ := fun obj s₁ => obj = .ref s.heap.objs.size ∧ s₁ = { s with heap := s.heap.push { cls := .type "dict", data := .dict #[] } }) PySem.F.kt_called_dict (PySem.F.kt_typeCall_dict_1 _) PySem.F.entry_dict_init (kt_code_dict_new _ ⟨rfl, rfl⟩) ?_
  rintro obj s₁ ⟨rfl, rfl⟩
  have hnew : (s.heap.push { cls := .type "dict", data := .dict #[] }).DictOf knd s.heap.objs.size [] := Heap.DictOf.new s.heap
  refine Y0_3 hnew.typeIs (PySem.F.args_dict_init_2 _ _) ?_
  have hl1 : (s.heap.push { cls := .type "dict", data := .dict #[] }).get? l = some (lstN vs vs.length) := Heap.get?_push_of_some _ hl0
  have hlt := Heap.lt_size hl0
  unfold Builtin.«dict.__init__»
  refine wpAny_bind ?_
  unfold Builtin.Dict.selfAndRest
  refine wpAny_bind (wpAny_notOrdered_dict hnew.typeIs ?_)
  show wpAny _ _ (pure (s.heap.objs.size, [Value.ref l])) _ _ _
  refine wpAny_pure ?_
  show wpAny _ _ (Builtin.Dict.updateFrom "dict.__init__" s.heap.objs.size (.ref l) [] .none) _ _ _
  unfold Builtin.Dict.updateFrom
  refine wpAny_bind (wpAny_typeOf (T := "list") (Y1_2 _ hl1 rfl) ?_)
  rw [if_pos (by decide)]
  refine wpAny_bind (keys_none (s := { s with heap := s.heap.push { cls := .type "dict", data := .dict #[] } }) hl1 hh fun h1 tk1 hk1 => ?_)
  rw [if_pos (show (none : Option Value).isNone = true from rfl)]
  refine wpAny_bind (wpAny_rule ?_)
  have hL1 : h1.IsList l vs.toArray := Y1_3 _ (hk1 _ _ hl1) rfl ⟨_, rfl⟩
  refine wpAny_bind (wpAny_pyIter_list (s := { s with heap := h1, toks := tk1 }) hL1 ?_)
  have hD1 : h1.get? s.heap.objs.size = some { cls := .type "dict", data := .dict #[] } := hk1 _ _ (Heap.get?_push_size _ rfl)
  have ltD := Heap.lt_size hD1
  have keep : ∀ b o, s.heap.get? b = some o → (h1.push { cls := .type "list_iterator", data := .fields #[.ref l, .int 0 0] }).get? b = some o := fun b o e => Heap.get?_push_of_some _ (hk1 _ _ (Heap.get?_push_of_some _ e))
  refine wpAny_pure ⟨plainId_quiet plain_upd_loop _, ?_⟩
  refine upd_loop (A := A.in1) (knd := knd) (kvs := kvs) (l := l) (R := wants (fun r s₂ => r = Value.none ∧ Q (.ref s.heap.objs.size) s₂) E) hh (Nat.ne_of_lt ltD) (Nat.ne_of_gt hlt) (Nat.ne_of_lt (Nat.lt_trans hlt ltD)) hlen hnd hsz vs.length 0 { s with heap := h1.push { cls := .type "list_iterator", data := .fields #[.ref l, .int 0 0] }, toks := tk1 } _ _ (by lia) (Nat.zero_le _) (Y1_3 _ (Heap.get?_push_size _ rfl) rfl rfl) (hL1.push _) ?_ (fun j v p h3 h4 => ?_) (fun j T h3 => ?_) fun h' tk h3 h4 => ⟨rfl, h h' tk h3 fun b o e => h4 b o (Nat.ne_of_lt (Heap.lt_size e)) (Nat.ne_of_lt (Nat.lt_trans (Heap.lt_size e) ltD)) (keep b o e)⟩
  · rw [List.take_zero]
    refine X3_2 hnew ?_; clear hnew; rintro o es ep e0 r
    have e1 : (s.heap.push { cls := .type "dict", data := .dict #[] }).get? s.heap.objs.size = some o := e0
    exact Y3_2 o es ep (Heap.get?_push_of_some _ (hk1 _ _ e1)) r
  · refine X2_3 (hp j v p h3 h4) fun T kv h5 h6 h7 => ?_
    exact Y2_3 T kv h5 h6 (keep _ _ h7)
  · have hj : j < kvs.length := by rw [← hlen]; exact (List.getElem?_eq_some_iff.mp h3).1
    refine X2_3 (hp j _ _ h3 (List.getElem?_eq_getElem hj)) fun T' kv h5 h6 h7 => ?_
    cases h5
    have := Heap.lt_size h7
    exact ⟨Nat.ne_of_lt this, Nat.ne_of_lt (Nat.lt_trans this ltD)⟩
end
end
section
section
variable {w : World} {c : Cx w} {n : Led} {l : Fm} {K : Type} [DecidableEq K] {knd : KeyKind PR w K}
theorem Hp.big {h : Heap} (H : Hp c n l h) : (h.objs.size == sysModules) = false := by
  have X := H.X
  obtain ⟨o, ho⟩ : ∃ o, (KK w).lookup 207 = some o := ⟨_, rfl⟩
  have := Heap.lt_size (X _ _ ho)
  have e : @LT.lt Nat _ sysModules 207 := by decide
  have : @Ne Nat h.objs.size sysModules := Nat.ne_of_gt (Nat.lt_trans e this)
  simpa using this
theorem CaG.dictPairs {a : Addr} {vs : List Value} {kvs : List (K × Value)} (ha : (a, lstN vs vs.length) ∈ n) (hlen : vs.length = kvs.length) (hnd : (kvs.map (·.1)).Nodup) (hsz : kvs.length ≤ 1000) (hp : ∀ (j : Nat) v p, vs[j]? = some v → kvs[j]? = some p → ∃ T kv, v = .ref T ∧ knd.is p.1 kv = true ∧ (T, tup [kv, p.2]) ∈ n) :
    CaG c n l (.type "dict") [.ref a] fun r n' => ∃ D od, r = .ref D ∧ od.IsDictOf knd kvs ∧ (D == sysModules) = false ∧ New n n' D od := fun Q kk h tk H => by
  have hb := H.big
  have hg := fun {a o} (hm : (a, o) ∈ n) => H.get hm
  obtain ⟨m, hid, hV, F, N, O⟩ := H
  refine call_dict_pairs (knd := knd) (s := { c.s with heap := h, toks := tk }) rfl (hg ha) hlen hnd hsz (fun j v p h1 h2 => ?_) fun h' tk' hD hk => ?_
  · refine X2_3 (hp j v p h1 h2) fun T kv e1 e2 e3 => ?_
    exact Y2_3 T kv e1 e2 (hg e3)
  · refine X1_2 (Heap.dictOf_iff.mp hD) fun od ho hd => ?_
    have lt : ∀ p ∈ hid ++ n, @LT.lt Nat _ p.1 h.objs.size := fun p hp => Heap.lt_size (N p hp).1
    have hL := F.ns.lt
    refine kk _ _ (Y2_4 h.objs.size od rfl hd hb (New.of fun p hp => lt p (List.mem_append_right _ hp))) h' tk' (Hp.new hV O (F.keeps hk) (fun p hp => ?_) lt)
    rcases List.mem_cons.mp hp with rfl | hp
    · exact Y0_3 ho (Nat.ne_of_gt hL) (Heap.get?_none_of_le (Nat.le_trans F.above (Nat.le_of_lt hL)))
    · exact N.grown hk p hp
end
end
section
section
variable {prog : Program} {w : World} {A : Around} {E : Value → Shared → Prop} {s : Shared}
theorem no_bytes_int : typeLookup (.type "int") "__bytes__" = pure none := by rw [typeLookup_type, builtinLookup_eq_fast]; kernel_rfl
theorem bm_if_false' {α : Type} {M : Model} {c : Prop} [Decidable c] {a b : Sem α} {Q : α → Shared → Prop} (hc : ¬ c) (h : wpAny M A b Q E s) : wpAny M A (if c then a else b) Q E s := by rw [if_neg hc]; exact h
theorem call_bytes_20 {t : Tok} {Q : Value → Shared → Prop} (hQ : ∀ u k, Q (.bytes (Array.replicate 20 0) u) { s with toks := k }) : wpAny (model prog w) A (call (.type "bytes") [.int 20 t]) Q E s := by
  refine callType_codes (Q₁ := fun obj s₁ => s₁.TypeIs obj "bytes" ∧ Q obj s₁) F.bm_called (F.bm_typeCall _) F.entry_object_init ?_ fun obj s₁ h₁ => Y0_3 h₁.1 (F.args_object_init_2 obj _) (object_init_meets F.bm_called.init.lookup F.bm_called.made (by decide) prog w A.in1 _ s₁ (Y0_3 h₁.1 rfl h₁.2))
  refine codeAny_of_tree ?_
  show wpAny _ A.in1.in1 (do checkBuiltinCall "bytes.__new__" ⟨[.type "bytes", .int 20 t], []⟩; again (.builtin "bytes.__new__" ⟨[.type "bytes", .int 20 t], []⟩)) _ _ s
  refine wpAny_bind (wpAny_of_eq (F.bm_newCall _) (wpAny_pure ⟨plainId_quiet F.bm_plain _, codeAny_builtin F.bm_entry ?_⟩))
  rw [Around.under_plainId F.bm_plain _]
  unfold Builtin.«bytes.__new__»
  refine wpAny_bind (wpAny_of_eq (a := true) rfl ?_)
  refine bm_if_false rfl ?_
  refine wpAny_bind (wpAny_of_eq F.bm_sub ?_)
  refine bm_if_false rfl ?_
  refine wpAny_bind (wpAny_of_eq (F.bm_bind _) ?_)
  refine wpAny_bind (wpAny_of_eq (a := ()) rfl ?_)
  refine wpAny_bind (wpAny_of_eq (a := ()) rfl ?_)
  refine bm_if_false rfl ?_
  refine wpAny_bind (wpAny_specialOf (typeIs_int s 20 t) no_bytes_int ?_)
  refine wpAny_bind (wpAny_of_eq (a := false) rfl ?_)
  refine bm_if_false rfl ?_
  refine wpAny_bind (wpAny_specialOf (typeIs_int s 20 t) F.slot_int_index.lookup ?_)
  refine bm_if_false rfl ?_
  refine wpAny_bind (wpAny_attempt (wpAny_of_eq (a := (20 : Int)) rfl ?_))
  dsimp only
  refine bm_if_false (by decide) ?_
  refine bm_if_false' (by decide) ?_
  refine bm_if_false' (by decide) ?_
  refine bm_if_false (by decide) ?_
  refine wpAny_bind (wpAny_rule ?_)
  refine wpAny_bind (wpAny_mkBytes ?_ (by rw [sizeLine_eq]; decide))
  show wpAny _ _ (if (Value.type "bytes" == Value.type "bytes") = true then _ else _) _ _ _
  refine bm_if_true (by decide) ?_
  first
    | exact wpAny_pure ⟨rfl, hQ _ _⟩
    | exact wpAny_bind (wpAny_pure (wpAny_pure ⟨rfl, hQ _ _⟩))
end
end
section
section
variable {w : World} {c : Cx w} {n : Led} {l : Fm} {sc : Scope} {d u : Nat} {b : Bool}
theorem CaG.bytes20 {t : Tok} : CaG c n l (.type "bytes") [.int 20 t] fun r n' => BW (List.replicate 20 0) r ∧ n' = n := fun Q kk h tk H =>
  call_bytes_20 fun u k => kk _ _ ⟨⟨u, by congr 1⟩, rfl⟩ h k H
theorem file_glob : ∃ t, nsIn (KK w) mainGlobals (Str.ofString "FILE") = some (some (.int 33188 t)) := ⟨_, rfl⟩
end
end
section
section
variable {prog : Program} {w : World} {A : Around} {E : Value → Shared → Prop} {s' : Shared} {base G : Heap} {env : Env} {outer : List Env} {L e : Addr} {cls : Value} {news : Led} {hs : List ExceptHandler} {Q : Flow → Shared → Prop}
theorem lookE (hA : A.frames = some (env :: outer)) (hf : env.frame = some L) (R : RaisedSN base G (env :: outer) e cls news s'.heap) (hsm : G.UpToSlots s'.heap)
    (k : ∀ h', RaisedSN base G (env :: outer) e cls news h' → G.UpToSlots h' → wpAny (model prog w) A (handleBy (.ref e) env hs) Q E { s' with heap := h' }) :
    wpAny (model prog w) A (noteFrame (.ref e) env) (fun _ s₂ => wpAny (model prog w) A (setFlight (.ref e) none) (fun _ s₃ => wpAny (model prog w) A (handleBy (.ref e) env hs) Q E s₃) E s₂) E s' := by
  refine X2_4 R ?_; clear R; rintro B a0 hB hBG hl hfl
  refine wpAny_looks_onW hA hf hfl fun h₄ hheld₄ hsm₄ => ?_
  refine wpAny_landsW hheld₄ fun h₅ hheld hsm₅' => ?_
  exact k h₅ (Y2_4 B a0 hB hBG hl hheld) (hsm.trans (hsm₄.trans hsm₅'))
end
end
section
section
variable {prog : Program} {w : World} {A₀ : Around} {E : Value → Shared → Prop} {s' : Shared} {base g g₀ G B h₅ : Heap} {outer : List Env} {env : Env} {L e : Addr} {m : Str → Option Value} {cls : Value}
  {b₀ : Stmt} {suite : List Stmt} {pos : Pos} {rest : List ExceptHandler} {Q : Flow → Shared → Prop} {news : Led} {KF : Frag} {tt : Expr} {p : Program} {loose : List Str} {mean : ExcName → Option Value} {mg mb : Str → Option Value}
theorem memE {b : Addr} (hf : env.frame = some L) (hm : b ∈ (env :: outer).filterMap (·.frame)) : b = L ∨ b ∈ outer.filterMap (·.frame) := by
  refine X1_2 (List.mem_filterMap.mp hm) fun x hx hb => ?_
  rcases List.mem_cons.mp hx with z | z
  · subst z
    exact .inl (Option.some.inj (hb.symm.trans hf))
  · exact .inr (List.mem_filterMap.mpr (Y1_2 x z hb))
theorem groundE (hf : env.frame = some L) (K : Below A₀ base outer g) (F : Fr g L G m) (hBG : ∀ b o, G.get? b = some o → b ∉ (env :: outer).filterMap (·.frame) → B.get? b = some o) (hBh : B.StaysIn h₅) (hsm : G.UpToSlots h₅) :
    ∃ g', KtsTurn (outer.filterMap (·.frame)) g g' ∧ Fr g' L h₅ m ∧ Below A₀ base outer g' := by
  obtain ⟨T, S⟩ := kts_turn_at (h := h₅) (fs := outer.filterMap (·.frame)) (g := g)
    (fun b hb => by
      refine X0_2 (K.frames.mem hb) ?_; rintro _ zz; obtain ⟨o, ho, _⟩ := zz
      exact ⟨o, ho⟩)
    (fun b o e nm => hBh b o (hBG b o (F.keep b o e) (fun hm => by
      rcases memE hf hm with z | z
      · rw [z, kts_self F] at e
        cases e
      · exact nm z)))
    (fun b o e hm => by
      refine X0_2 (K.frames.mem hm) ?_; rintro _ zz; obtain ⟨o', ho', hd⟩ := zz
      rw [e] at ho'
      cases ho'
      exact hsm b o (F.keep b o e) hd)
  refine Y1_3 _ T ⟨hsm.ns F.ns, S, by rw [T.size]; exact F.above⟩ ⟨K.stack, fun b o e => T.other b o (K.stays b o e) (fun hm => by
    rw [(K.frames.mem hm).1] at e
    cases e), K.frames.of_keeps fun b o e _ => ?_⟩
  obtain ⟨sl, hs⟩ := T.up e
  exact Y1_2 _ hs rfl
noncomputable def TestE (prog : Program) (w : World) (K : Frag) (p : Program) (loose : List Str) (mg mb : Str → Option Value) (A : Around) (env : Env) (L : Addr) (cls : Value) (t : Expr) (b : Bool) : Prop :=
  ∀ (E : Value → Shared → Prop) (Q : Bool → Shared → Prop) (s : Shared) (g : Heap) (e : Addr) (m : Str → Option Value), Fr g L s.heap m → K.In g → TopRead p loose mg mb g → Looks (model prog w) s.heap (typeOf (.ref e)) cls →
    (∀ h', (∀ q o, s.heap.get? q = some o → h'.get? q = some o) → Q b { s with heap := h' }) → wpAny (model prog w) A (eval t env) (fun c s₁ => wpAny (model prog w) A (excMatches (.ref e) c) Q E s₁) E s
theorem hitE (hf : env.frame = some L) (R : RaisedSN base G (env :: outer) e cls news s'.heap) (F : Fr g L G m) (K : Below A₀ base outer g) (hsm : G.UpToSlots s'.heap) (XB : KF.In base) (TB : Top p loose mean mg mb base)
    (D : KtsDicts (outer.filterMap (·.frame)) g) (T0 : KtsTurn (outer.filterMap (·.frame)) g₀ g) (T : TestE prog w KF p loose mg mb ((A₀.deeper env).mark (some (.ref e))) env L cls tt true)
    (k : ∀ h' g', KtsTurn (outer.filterMap (·.frame)) g₀ g' → Fr g' L h' m → News g' L h' news → Below A₀ base outer g' → KF.In g' → Top p loose mean mg mb g' → KtsDicts (outer.filterMap (·.frame)) g' →
      wpAny (model prog w) ((A₀.deeper env).mark (some (.ref e))) (execs (b₀ :: suite) env) Q E { s' with heap := h' })
    (hE : PassesOwnAt (model prog w) ((A₀.deeper env).mark (some (.ref e))) (A₀.deeper env) env E) :
    wpAny (model prog w) (A₀.deeper env) (handleBy (.ref e) env (.ExceptHandler (some tt) none (b₀ :: suite) pos :: rest)) Q E s' := by
  have R' := R
  refine X2_4 R' ?_; clear R'; rintro B₁ a1 _ hBG₁ _ hfl₁
  refine X1_3 (groundE hf K F hBG₁ hfl₁.1 hsm) fun g₅ T₅ F₅ K₅ => ?_
  refine wpAny_handleBy_cons (codeAny_handlers_test (T _ _ _ g₅ e m F₅ (XB.keeps K₅.stays) (topRead_of (TB.keeps K₅.stays)) R.ty fun h₅ kp => ?_)) (by intro q; cases q)
  have hsm₅ : G.UpToSlots h₅ := hsm.trans (Heap.UpToSlots.of_keeps kp)
  refine X2_4 (R.keeps kp) fun B a0 hB hBG hl hheld => ?_
  have hL : B.get? L = none := by
    refine X0_3 hheld.2.2.1 ?_; rintro _ zz; obtain ⟨L', _, hf', hn', _⟩ := zz; rintro _
    obtain rfl : L = L' := Option.some.inj (hf.symm.trans hf')
    exact hn'
  refine codeAny_handlers_suite ?_
  refine lands_againW hheld fun h₆ hfl₆ hsm₆ => ?_
  refine X1_3 (groundE hf K F hBG hfl₆.1 (hsm₅.trans hsm₆)) fun g₆ T₆ F₆ K₆ => ?_
  have Nl : News g₆ L h₆ news := fun q hq => Y0_3 (hfl₆.1 _ _ (hl q hq).1) (fun z => by have := (hl q hq).1; rw [z, hL] at this; cases this) (T₆.none_ _ (kts_none F.keep (hl q hq).2.1))
  exact wpAny_passesOwnAt hE (k h₆ g₆ (T0.trans T₆) F₆ Nl K₆ (XB.keeps K₆.stays) (TB.keeps K₆.stays) (D.turn T₆))
end
end
section
noncomputable def innerC {w : World} (c : Cx w) (qual : Str) (scope : Scope) (f : Addr) (cdv : Value) (L' : Addr) (names : List Str) (hid : Led) (g : Heap)
    (B' : Below c.A c.base (c.fenv :: c.outer) g) (X' : (KK w).In g) (T' : Top c.p c.loose c.mean c.mg c.mb g) (hk : scope.kind = .function)
    (hn : (names.all fun y => scope.names.lookup y == some .local || scope.names.lookup y == some .cell) = true) (hlc : (scope.names.all fun y => scope.names.lookup y.1 == some y.2) = true)
    (hnd : ((cellsFrom 0 scope.names []).map (·.1)).Nodup) (hfr : (scope.names.all fun y => y.2 != .free) = true) : Cx w :=
    { A₀ := c.A, base := c.base, g := g, outer := c.fenv :: c.outer, fenv := envOfC qual scope L' f cdv, env := envOfC qual scope L' f cdv, L := L', p := c.p, loose := c.loose, mean := c.mean, mg := c.mg, mb := c.mb, dp := c.dp + 1, un := c.un + 3, gd := c.gd
      E := fun e s' => wpAny (model PR w) (AA (c.dp + 1) (c.un + 3) c.gd (envOfC qual scope L' f cdv) (c.fenv :: c.outer)) (leaving (envOfC qual scope L' f cdv) e) (fun _ s'' => c.E e s'') (fun e' s'' => c.E e' s'') s'
      s := c.s, V := DV scope L' names hid, dfn := true, B := B', X := X', T := T', hf := rfl, hk := hk, ek := hk, eg := rfl, eb := rfl
      rd := fun {l m hid n h x v} hV F N hx A E Q s es q => by
        subst es
        refine X1_5 hV ?_; clear hV; rintro cs hc rfl hm hln hlt
        have hxn := frm_some_mem hx
        rw [hln] at hxn
        have := List.all_eq_true.mp hn x hxn
        rcases Bool.or_eq_true_iff.mp this with hloc | hcel
        · have hloc : scope.names.lookup x = some .local := by simpa using hloc
          exact wpAny_loadName_local hk hloc F.ns (by rw [hm, if_pos hloc]; exact hx) q
        · have hcel : scope.names.lookup x = some .cell := by simpa using hcel
          obtain ⟨a, ha⟩ := lookup_cells (k := L' + 1) hcel
          refine X1_2 (cells_get hc ha) fun o hmo hd => ?_
          exact wpAny_loadName_cell hk hcel ha (Y1_2 o (N.get (List.mem_append_left _ (List.mem_append_left _ hmo))) (by rw [hd, hx])) q
      ce := fun _ {l m hid x} hV hx => by
        refine X1_5 hV ?_; clear hV; rintro cs hc rfl hm hln hlt
        rcases hx with hx | hx
        · obtain ⟨a, ha⟩ := lookup_cells (k := L' + 1) (show scope.names.lookup x = some .cell from hx)
          refine X1_2 (cells_get hc ha) fun o hmo hd => ?_
          exact Y2_3 a o ha (List.mem_append_left _ hmo) hd
        · exact absurd (lookup_mem (show scope.names.lookup x = some .free from hx)) fun hm => by
            have := List.all_eq_true.mp hfr _ hm
            simp at this
      st := fun _ {l m hid n h x v} hV F N O hx A E Q s es k => by
        subst es
        exact dv_store (env := envOfC qual scope L' f cdv) rfl rfl rfl hk hn hlc hnd hV hx O F N k
      sl := fun _ {l m hid x v} hV hx hxk => dv_sl hlc hV hx hxk
      lo := fun _ => rfl
      mu := fun {l m hid m' hid'} h h' => by
        refine X1_4 h ?_; clear h; rintro _ _ _ h1 _
        refine X1_4 h' ?_; clear h'; rintro _ _ _ h2 _
        exact funext fun y => (h1 y).trans (h2 y).symm
      po := fun _ => PassesOwn.leaving }
end
section
section
variable {prog : Program} {w : World} {A₀ A : Around} {s : Shared} {base h₀ : Heap} {env : Env} {L : Addr} {m : Str → Option Value} {news : Led} {K : Frag} {p : Program} {loose : List Str} {mean : ExcName → Option Value} {mg mb : Str → Option Value}
    {R : Result → Shared → Prop} {name qual : Str} {params : Arguments} {body : List Stmt} {scope : Scope} {dV kV doc pm cdv ct oc : Value} {an od : Option Addr} {osl : Array (Option Value)} {f : Addr} {args : Args} {binds : List (Str × Value)}
theorem code_defCS (B : Below A₀ base [] h₀) (F : Fr h₀ L s.heap m) (X₀ : K.In h₀) (N : News h₀ L s.heap news) (T : Top p loose mean mg mb h₀) (hA : A.frames = some [env]) (hf : env.frame = some L) (hke : env.scope.kind = .function)
    (ho : K.lookup f = some ⟨oc, od, .func (fnOf name qual params body scope dV kV doc pm an cdv ct), osl⟩) (hcd : codeIn K cdv qual = true) (hroom : A.depth < recursionLimit)
    (hbind : BindsTo s (fnOf name qual params body scope dV kV doc pm an cdv ct) args binds) (hkind : (binds.all fun y => scope.names.lookup y.1 == some .local || scope.names.lookup y.1 == some .cell) = true)
    (hnd : ((cellsFrom 0 scope.names []).map (·.1)).Nodup)
    (h : ∀ g L' h₁ tk cells, Fr h₀ L g m → Fr g L' h₁ (bindL (envOfC qual scope L' f cdv).kindOf binds fun _ => none) → News g L' h₁ (cells ++ news) →
      CellsAre (bindC (envOfC qual scope L' f cdv).kindOf binds fun _ => none) (cellsFrom (L' + 1) scope.names []) cells → Below A base [env] g → K.In g → Top p loose mean mg mb g → (∀ p ∈ news, p.1 < L') → KtsDicts ([env].filterMap (·.frame)) g →
      wpAny (model prog w) (A.deeper (envOfC qual scope L' f cdv)) (execs body (envOfC qual scope L' f cdv))
        (fun fl s' => LeaveS0 ([env].filterMap (·.frame)) h₀ L m g R (match fl with | .ret v => v | _ => .none) s')
        (fun e s' => wpAny (model prog w) (A.deeper (envOfC qual scope L' f cdv)) (leaving (envOfC qual scope L' f cdv) e) (fun _ s'' => R (.error e) s'') (fun e' s'' => R (.error e') s'') s')
        { s with heap := h₁, toks := tk })
    (hco : scope.isCoroutine = false) (hgen : scope.isGenerator = false) (hk : scope.kind = .function) : codeAny (model prog w) A (.call (.ref f) args) R s := by
  refine X0_4 (groundX (R := R) B F N hA hf hke) fun FG BG st _ => ?_
  have nm : ∀ b o, h₀.get? b = some o → b ∉ news.map (·.1) := fun b o e q => by
    refine X1_2 (List.mem_map.mp q) ?_; rintro p hp rfl
    rw [(N p hp).2.2] at e; cases e
  refine X3_4 F.ns fun oL es ep hL hLd hLk hLf => ?_
  have nL : L ∉ news.map (·.1) := fun q => by
    refine X1_2 (List.mem_map.mp q) fun p hp e => ?_
    exact (N p hp).2.1 e
  have hLg := hideAll_get (news.map (·.1)) hL nL
  have hNs : ∀ (sl : Array (Option Value)) h', h'.get? L = some { oL with slots := sl } → Heap.Ns h' L m := fun sl h' e => Y3_4 _ es ep e hLd hLk hLf
  have D : KtsDicts ([env].filterMap (·.frame)) (hideAll s.heap (news.map (·.1))) := fun b hb => by
    rcases memE hf hb with rfl | z
    · exact Y3_2 oL es ep hLg hLd
    · simp at z
  refine codeAny_call_function hroom ((X₀.keeps F.keep) _ _ ho) rfl hco hgen rfl (codeRec_of (X₀.keeps F.keep) hcd) (hbind _ _ _ _ ?_)
  refine wpAny_newFunctionEnv_cells hk (kindsX hkind _) fun env' he s' x => ?_
  subst he
  refine ⟨(T.nolimit.keeps F.keep).keeps x.toInCall.keep, codeAny_func ?_⟩
  refine X2_2 x.done ?_; rintro h₁ tk rfl _
  have hk₁ := x.toInCall.keep
  refine X1_2 (Cl.news (h₀ := s.heap) (Nat.le_refl _) fun n c hm => ⟨x.cell n c (lookup_of_mem_nodup (cellsFrom_names scope.names 0 (s.heap.objs.size + 1) [] [] rfl ▸ hnd) hm), x.above n c hm⟩) fun cells NC Y => ?_
  refine wpAny_mono (h _ s.heap.objs.size h₁ tk cells FG ⟨x.toInCall.ns, fun b o e => hk₁ b o (of_hideAll _ e), Nat.le_of_eq (hideAll_size _ _)⟩ (fun p hp => ?_) Y BG (X₀.keeps st) (T.keeps st) (fun p hp => Heap.lt_size (N p hp).1) D) (fun fl s' hl => ?_) fun _ _ y => y
  · rcases List.mem_append.mp hp with hp | hp
    · refine Y0_3 ((NC p hp).1) ((NC p hp).2.1) ?_
      cases q : (hideAll s.heap (news.map (·.1))).get? p.1 with
      | none => rfl
      | some o => have := of_hideAll _ q; rw [(NC p hp).2.2] at this; cases this
    · exact Y0_3 (hk₁ _ _ (N p hp).1) (Nat.ne_of_lt (Heap.lt_size (N p hp).1)) (hideAll_none _ (List.mem_map_of_mem hp))
  refine X4_4 hl ?_; clear hl; rintro g' L' m' news' T' F' N' k
  have nL₀ : h₀.get? L = none := kts_self F
  obtain ⟨sl, hs⟩ := T'.up hLg
  refine k ⟨hNs sl _ (F'.keep _ _ hs), fun b o e => F'.keep b o (T'.other b o (st b o e) (fun q => by
    rcases memE hf q with z | z
    · rw [z, nL₀] at e
      cases e
    · simp at z)), F.above⟩ fun p hp => Y0_3 ((N' p hp).1) (fun q => ?_) ?_
  · have := (N' p hp).2.2; rw [q, hs] at this; cases this
  · cases q : h₀.get? p.1 with
    | none => rfl
    | some o =>
      obtain ⟨sl', hs'⟩ := T'.up (st _ _ q)
      have := (N' p hp).2.2
      rw [hs'] at this
      cases this
end
end
section
theorem test_nameE {prog : Program} {w : World} {K : Frag} {p : Program} {loose : List Str} {mg mb : Str → Option Value} {A : Around} {env : Env} {L : Addr} {cls cv : Value} {x : Str} {np : Pos} {b : Bool}
    (hn : nsIn K mainGlobals x = some (some cv)) (he : exmOne K cls cv = some b) (hg : env.globals = mainGlobals) (hk : env.scope.kind = .function) (hx : env.kindOf x = some .globalImplicit) (hd : (x == ("__debug__" : Str)) = false) :
    TestE prog w K p loose mg mb A env L cls (.Name x np) b := fun E Q s g e m F X T LT q =>
  nameG_K F X T hn ((exm_one (X.keeps F.keep) LT he).here (q s.heap fun _ _ z => z)) hg hk hx hd
section
variable {prog : Program} {w : World} {A₀ A : Around} {s : Shared} {base h₀ : Heap} {outer : List Env} {env : Env} {L : Addr} {m : Str → Option Value} {news : Led} {K : Frag} {p : Program} {loose : List Str} {mean : ExcName → Option Value} {mg mb : Str → Option Value}
    {R : Result → Shared → Prop} {name qual : Str} {params : Arguments} {body : List Stmt} {scope : Scope} {dV kV doc pm cdv ct oc : Value} {an od : Option Addr} {osl : Array (Option Value)} {f : Addr} {args : Args} {binds : List (Str × Value)}
theorem code_defCT (ho' : outer = []) (B : Below A₀ base outer h₀) (F : Fr h₀ L s.heap m) (X₀ : K.In h₀) (N : News h₀ L s.heap news) (T : Top p loose mean mg mb h₀) (hA : A.frames = some (env :: outer)) (hf : env.frame = some L) (hke : env.scope.kind = .function)
    (ho : K.lookup f = some ⟨oc, od, .func (fnOf name qual params body scope dV kV doc pm an cdv ct), osl⟩) (hcd : codeIn K cdv qual = true) (hroom : A.depth < recursionLimit)
    (hbind : BindsTo s (fnOf name qual params body scope dV kV doc pm an cdv ct) args binds) (hkind : (binds.all fun y => scope.names.lookup y.1 == some .local || scope.names.lookup y.1 == some .cell) = true)
    (hnd : ((cellsFrom 0 scope.names []).map (·.1)).Nodup)
    (h : ∀ g L' h₁ tk cells, Fr h₀ L g m → Fr g L' h₁ (bindL (envOfC qual scope L' f cdv).kindOf binds fun _ => none) → News g L' h₁ (cells ++ news) →
      CellsAre (bindC (envOfC qual scope L' f cdv).kindOf binds fun _ => none) (cellsFrom (L' + 1) scope.names []) cells → Below A base (env :: outer) g → K.In g → Top p loose mean mg mb g → (∀ p ∈ news, p.1 < L') → KtsDicts ((env :: outer).filterMap (·.frame)) g →
      wpAny (model prog w) (A.deeper (envOfC qual scope L' f cdv)) (execs body (envOfC qual scope L' f cdv))
        (fun fl s' => LeaveS0 ((env :: outer).filterMap (·.frame)) h₀ L m g R (match fl with | .ret v => v | _ => .none) s')
        (fun e s' => wpAny (model prog w) (A.deeper (envOfC qual scope L' f cdv)) (leaving (envOfC qual scope L' f cdv) e) (fun _ s'' => R (.error e) s'') (fun e' s'' => R (.error e') s'') s')
        { s with heap := h₁, toks := tk })
    (hco : scope.isCoroutine = false) (hgen : scope.isGenerator = false) (hk : scope.kind = .function) : codeAny (model prog w) A (.call (.ref f) args) R s := by
  subst ho'
  exact code_defCS B F X₀ N T hA hf hke ho hcd hroom hbind hkind hnd h hco hgen hk
end
noncomputable def Cx.withE {w : World} (c : Cx w) (E : Value → Shared → Prop) (po : c.dfn = true → PassesOwn (model PR w) c.A c.env E) : Cx w := { c with E := E, po := po }
structure InT {w : World} (c : Cx w) (qual : Str) (scope : Scope) (f : Addr) (cdv : Value) (L' : Addr) (names : List Str) (hid : Led) (g0 : Heap) (c' : Cx w) : Prop where
  eq : ∃ g B X T hk hn hlc hnd hfr, c' = innerC c qual scope f cdv L' names hid g B X T hk hn hlc hnd hfr
  tn : KtsTurn ((c.fenv :: c.outer).filterMap (·.frame)) g0 c'.g
  dc : KtsDicts ((c.fenv :: c.outer).filterMap (·.frame)) c'.g
noncomputable def RQT {w : World} (c : Cx w) (m : Str → Option Value) (g0 : Heap) (Q : Value → Shared → Prop) (fl : Flow) (s' : Shared) : Prop :=
  LeaveS0 ((c.fenv :: c.outer).filterMap (·.frame)) c.g c.L m g0 (fun r s' => match r with | .ok (.ret v) => Q v s' | .ok _ => False | .error e => c.E e s') (match fl with | .ret v => v | _ => .none) s'
section
variable {w : World} {c c' : Cx w} {n : Led} {l : Fm} {qual : Str} {scope : Scope} {f : Addr} {cdv : Value} {L' : Addr} {names : List Str} {hid : Led} {g0 : Heap}
theorem InT.wk (h : InT c qual scope f cdv L' names hid g0 c') : Wk c' scope (c.dp + 1) (c.un + 3) true := by
  obtain ⟨⟨g, B, X, T, hk, hn, hlc, hnd, hfr, rfl⟩, _, _⟩ := h
  exact ⟨rfl, rfl, rfl, rfl⟩
theorem InT.ret {m : Str → Option Value} {Q : Value → Shared → Prop} (h : InT c qual scope f cdv L' names hid g0 c') (hV : c.V l m hid) {n' : Led} {l' : Fm} {v : Value} (k : Go c n' l Q v) : Go c' n' l' (RQT c m g0 Q) (.ret v) := by
  obtain ⟨⟨g, B, X, T, hk, hn, hlc, hnd, hfr, rfl⟩, tn, _⟩ := h
  rintro h2 tk2 zz; obtain ⟨m2, hid2, ⟨cs, hcs, rfl, hm, hln, hlt⟩, F2, N2, O2⟩ := zz
  exact leaveS0_ F2 (News.sub N2 fun q hq => (List.mem_append.mp hq).elim (fun h => List.mem_append_left _ (List.mem_append_right _ h)) fun h => List.mem_append_right _ h) tn fun kF kN => k h2 tk2 ⟨m, hid, hV, kF, kN, fun p hp => O2 p (List.mem_append_right _ hp)⟩
theorem At.enterT {Q : Value → Shared → Prop} {name : Str} {params : Arguments} {body : List Stmt} {dV kV doc pm ct oc : Value} {an od : Option Addr} {osl : Array (Option Value)} {vs : List Value}
    (ho : (KK w).lookup f = some ⟨oc, od, .func (fnOf name qual params body scope dV kV doc pm an cdv ct), osl⟩) (hroom : c.dp < recursionLimit) (hout : c.outer = []) (ps lo : List Str) (l' : Fm)
    (k : ∀ c' L' hid m g0, c.V l m hid → InT c qual scope f cdv L' (ps ++ lo) hid g0 c' → At c' n l' (execs body c'.env) (RQT c m g0 Q))
    (hbind : ∀ s : Shared, (KK w).In s.heap → BindsTo s (fnOf name qual params body scope dV kV doc pm an cdv ct) ⟨vs, []⟩ (ps.zip vs) := by intro _ _; exact BindsTo.of_eq rfl)
    (hcd : codeIn (KK w) cdv qual = true := by rfl) (hl : mkFm (ps ++ lo) (ps.zip vs) = l' := by rfl)
    (hb : ((ps.zip vs).all fun b => (ps ++ lo).contains b.1) = true := by rfl) (hn : ((ps ++ lo).all fun y => scope.names.lookup y == some .local || scope.names.lookup y == some .cell) = true := by rfl)
    (hlc : (scope.names.all fun y => scope.names.lookup y.1 == some y.2) = true := by rfl)
    (hnd : ((cellsFrom 0 scope.names []).map (·.1)).Nodup := by decide +kernel) (hfr : (scope.names.all fun y => y.2 != .free) = true := by rfl)
    (hco : scope.isCoroutine = false := by rfl) (hgen : scope.isGenerator = false := by rfl) (hk : scope.kind = .function := by rfl) : At c n l (call (.ref f) vs) Q := fun h tk H => by
  obtain ⟨m, hid, hV, F, N, O⟩ := H
  generalize hbs : ps.zip vs = binds at hbind hl hb
  generalize hns : ps ++ lo = names at hl hb hn k
  have hfm := frm_mkFm hb
  rw [hl] at hfm
  have hkind : (binds.all fun y => scope.names.lookup y.1 == some .local || scope.names.lookup y.1 == some .cell) = true := List.all_eq_true.mpr fun b hb' => by
    have h1 := List.all_eq_true.mp hb b hb'
    exact List.all_eq_true.mp hn b.1 (by simpa using h1)
  refine wpAny_call (code_defCT hout c.B F c.X N c.T rfl c.hf c.hk ho hcd hroom (hbind _ (c.X.keeps F.keep)) hkind hnd ?_ hco hgen hk)
  intro g L' h₁ tk' cells FG F' N' Y B' X' T' lt D'
  have eC : ∀ y, scope.names.lookup y = some .cell → bindC (envOfC qual scope L' f cdv).kindOf binds (fun _ => none) y = frm l' y := fun y hy => by
    rw [bindC_eq (by show scope.names.lookup y ≠ _; rw [hy]; exact fun h => nomatch h), hfm]
    cases binds.reverse.lookup y <;> rfl
  have hI : InT c qual scope f cdv L' names hid g (innerC c qual scope f cdv L' names hid g B' X' T' hk hn hlc hnd hfr) := ⟨⟨_, _, _, _, _, _, _, _, _, rfl⟩, KtsTurn.refl, D'⟩
  have key := k _ L' hid m g hV hI
  suffices H' : Hp (innerC c qual scope f cdv L' names hid g B' X' T' hk hn hlc hnd hfr) n l' h₁ from by
    have k2 := key h₁ tk' H'
    exact k2
  refine ⟨_, _, Y1_5 cells (cells_congr Y fun p hp => ?_) rfl (fun y => ?_) ?_ (fun q hq => lt q (List.mem_append_left _ hq)), F', by rw [List.append_assoc]; exact N', ?_⟩
  · refine eC _ ?_
    rcases cells_of_mem hp with h | h
    · cases h
    · have := List.all_eq_true.mp hlc _ h
      simpa using this
  · rw [bindL_eq, hfm]
    show (if scope.names.lookup y = _ then _ else _) = _
    by_cases e : scope.names.lookup y = some .local
    · rw [if_pos e]
      refine (if_pos e).trans ?_
      cases binds.reverse.lookup y <;> rfl
    · rw [if_neg e]
      exact if_neg e
  · rw [← hl]
    unfold mkFm
    rw [List.map_map]
    exact List.map_id' names
  · intro p hp q hq
    rcases List.mem_append.mp hp with hp | hp
    · refine fun e => ?_
      have h1 : @LT.lt Nat _ q.1 L' := lt q (List.mem_append_right _ hq)
      have h2 := cells_gt Y p hp
      rw [← e] at h1
      exact absurd (Nat.lt_trans h1 h2) (Nat.lt_irrefl _)
    · exact O p hp q hq
theorem At.tryN {body suite : List Stmt} {b₀ : Stmt} {rest : List Stmt} {np pos hp : Pos} {x : Str} {cv : Value} {Q : Flow → Shared → Prop} (hI : InT c qual scope f cdv L' names hid g0 c') (XB : (KK w).In c.base) (TB : Top c.p c.loose c.mean c.mg c.mb c.base)
    (k : ∀ (ct : Cx w) TQ, Wk ct scope (c.dp + 1) (c.un + 3) true → ct.env = c'.env → ct.s = c'.s → (∀ n' l', At c' n' l' (execs rest c'.env) Q → Go ct n' l' TQ .next) → (∀ n' l' v, Go c' n' l' Q (.ret v) → Go ct n' l' TQ (.ret v)) →
      (∀ n' l' x, (∀ c'', InT c qual scope f cdv L' names hid g0 c'' → ∀ A h tk, Hp c'' n' l' h → wpAny (model PR w) A (execs (b₀ :: suite) c''.env) (Th c'' rest Q) c''.E { c''.s with heap := h, toks := tk }) → Rai ct n' l' x) →
      At ct n l (execs body ct.env) TQ)
    (hx : scope.names.lookup x = some .globalImplicit := by rfl) (hg : nsIn (KK w) mainGlobals x = some (some cv) := by rfl) (he : exmOne (KK w) (.ref 64) cv = some true := by rfl) (hd : (x == ("__debug__" : Str)) = false := by decide) :
    At c' n l (execs (.Try body [.ExceptHandler (some (.Name x np)) none (b₀ :: suite) hp] [] [] pos :: rest) c'.env) Q := .cons fun h tk H => by
  refine wpAny_Try_except ?_
  have kk := k (c'.withE (fun e s₁ => wpAny (model PR w) c'.A (noteFrame e c'.env) (fun _ s₂ => wpAny (model PR w) c'.A (setFlight e none) (fun _ s₃ => wpAny (model PR w) c'.A (handleBy e c'.env [.ExceptHandler (some (.Name x np)) none (b₀ :: suite) hp]) (Th c' rest Q) c'.E s₃) c'.E s₂) c'.E s₁) fun _ => PassesOwn.looking) (fun fl s₁ => match fl with | .next => wpAny (model PR w) c'.A (execs [] c'.env) (Th c' rest Q) c'.E s₁ | f => Th c' rest Q f s₁) ⟨hI.wk.sc, hI.wk.dp, hI.wk.un, hI.wk.dfn⟩ rfl rfl (fun n' l' a h tk H => wpAny_pure (a h tk H)) (fun n' l' v a h tk H => a h tk H) (fun n' l' e kr => ?_) h tk H
  · exact kk
  intro G h tk m hid' hV O F R U
  obtain ⟨⟨g, B, X, T, hk, hn, hlc, hnd, hfr, rfl⟩, tn, dc⟩ := hI
  refine lookE (A := AA (c.dp + 1) (c.un + 3) c.gd (envOfC qual scope L' f cdv) (c.fenv :: c.outer)) (env := envOfC qual scope L' f cdv) (outer := c.fenv :: c.outer) (L := L') rfl rfl R U fun h2 R2 U2 => ?_
  refine hitE (A₀ := c.A) (env := envOfC qual scope L' f cdv) (outer := c.fenv :: c.outer) (L := L') (g := g) (g₀ := g0) rfl R2 F B U2 XB TB dc tn (test_nameE hg he rfl hk hx hd) (fun h3 g' T3 F3 N3 B3 X3 P3 D3 => ?_) PassesOwnAt.leaving
  refine kr (innerC c qual scope f cdv L' names hid g' B3 X3 P3 hk hn hlc hnd hfr) ⟨⟨_, _, _, _, _, _, _, _, _, rfl⟩, T3, D3⟩ _ h3 tk ⟨m, hid', hV, F3, N3, O⟩
end
end
section
theorem Fold.Ok.nm {d : Nat} {n : Bs} {c : Int} {o : Option Bs} {ps : List Fold} {fs : List Bs} {m : Int} (h : Fold.Ok d (.mk n c o ps fs m)) {p : Fold} (hp : p ∈ ps) : p.name = [97] ∨ p.name = [99] ∨ p.name = [97, 98] := by
  rw [Fold.Ok_eq] at h
  have := h.2.2.2.2.2.2.2.1.subset (List.mem_map_of_mem hp)
  simpa using this
theorem Fold.Ok.names {d : Nat} {n : Bs} {c : Int} {o : Option Bs} {ps : List Fold} {fs : List Bs} {m : Int} (h : Fold.Ok d (.mk n c o ps fs m)) : (ps.map Fold.name).Sublist [[97], [99], [97, 98]] := by
  rw [Fold.Ok_eq] at h
  exact h.2.2.2.2.2.2.2.1
theorem noS {nm : Bs} (h : nm = [97] ∨ nm = [99] ∨ nm = [97, 98]) : ¬ hasS nm := by
  rcases h with rfl | rfl | rfl <;> (unfold hasS; decide +kernel)
theorem no47 {nm : Bs} (h : nm = [97] ∨ nm = [99] ∨ nm = [97, 98]) : (47 : UInt8) ∉ nm := by
  rcases h with rfl | rfl | rfl <;> decide
theorem under_app {a x : Bs} {e : Bs × Int} (h : under (a ++ x) e = true) : under a e = true := by
  have h := of_decide_eq_true h
  refine decide_eq_true ?_
  have := congrArg (List.take a.length) h
  rw [List.take_take, List.length_append, Nat.min_eq_left (Nat.le_add_right _ _), List.take_left] at this
  exact this
theorem filter_under {a x : Bs} {es : List (Bs × Int)} : (es.filter (under a)).filter (under (a ++ x)) = es.filter (under (a ++ x)) := by
  rw [List.filter_filter]
  refine List.filter_congr fun e _ => ?_
  cases h : under (a ++ x) e with
  | false => rfl
  | true => rw [under_app h]; rfl
theorem fits_known : ∀ (d : Nat) (t : Fold), Fold.Ok d t → ∀ (ah : Bs) (es : List (Bs × Int)), t.tree.fits ah (es.filter (under ah)) ↔ t.known ah es := by
  intro d
  induction d with
  | zero =>
    rintro ⟨n, c, o, ps, fs, m⟩ hok ah es
    rw [Fold.Ok_eq] at hok
    have h12 := hok.2.2.2.2.2.2.2.2.2.2.2
    simp at h12
    subst h12
    rw [Fold.tree, fits_mk, known_mk, Fold.trees, Tree.fitss, Fold.knowns]
  | succ d ih =>
    rintro ⟨n, c, o, ps, fs, m⟩ hok ah es
    have hnm := fun {p} hp => hok.nm (p := p) hp
    have hok' := hok
    rw [Fold.Ok_eq] at hok'
    have h12 : ∀ p ∈ ps, Fold.Ok d p := hok'.2.2.2.2.2.2.2.2.2.2.2
    rw [Fold.tree, fits_mk, known_mk]
    refine and_congr_right fun _ => ?_
    clear hok hok'
    induction ps with
    | nil => rw [Fold.trees, Tree.fitss, Fold.knowns]
    | cons p r ihr =>
      rw [Fold.trees, fitss_cons, knowns_cons]
      refine and_congr (and_congr ?_ ?_) (ihr (fun hp => hnm (.tail _ hp)) fun q hq => h12 q (.tail _ hq))
      · unfold partOk
        obtain ⟨n', c', o', ps', fs', m'⟩ := p
        show ¬ (hasS n' ∨ _ ∧ 0 ≤ c') ↔ ¬ (0 ≤ c' ∧ _)
        refine not_congr ⟨fun h => ?_, fun h => .inr ⟨h.2, h.1⟩⟩
        rcases h with h | h
        · exact absurd h (noS (hnm (.head _)))
        · exact ⟨h.2, h.1⟩
      · have e : p.tree.nm = p.name := by obtain ⟨n', c', o', ps', fs', m'⟩ := p; rfl
        rw [e, List.append_assoc, filter_under]
        exact ih p (h12 p (.head _)) _ es
theorem paths_pre : ∀ (d : Nat) (t : Fold), Fold.Ok d t → ∀ ah, ∀ x ∈ t.paths ah, ∃ s, x = ah ++ s := by
  intro d
  induction d with
  | zero =>
    rintro ⟨n, c, o, ps, fs, m⟩ hok ah x hx
    rw [Fold.Ok_eq] at hok
    have h12 := hok.2.2.2.2.2.2.2.2.2.2.2
    simp at h12
    subst h12
    rw [Fold.paths, Fold.pathss, List.append_nil] at hx
    refine X1_2 (List.mem_map.mp hx) ?_; rintro s _ rfl
    exact ⟨s, rfl⟩
  | succ d ih =>
    rintro ⟨n, c, o, ps, fs, m⟩ hok ah x hx
    rw [Fold.Ok_eq] at hok
    have h12 : ∀ p ∈ ps, Fold.Ok d p := hok.2.2.2.2.2.2.2.2.2.2.2
    rw [Fold.paths] at hx
    rcases List.mem_append.mp hx with hx2 | hx2
    · refine X1_2 (List.mem_map.mp hx2) ?_; rintro s _ rfl
      exact ⟨s, rfl⟩
    · clear hok hx
      have hx := hx2; clear hx2
      induction ps with
      | nil => rw [Fold.pathss] at hx; cases hx
      | cons p r ihr =>
        rw [Fold.pathss] at hx
        rcases List.mem_append.mp hx with hx | hx
        · obtain ⟨s, rfl⟩ := ih p (h12 p (.head _)) _ x hx
          exact ⟨p.name ++ [47] ++ s, by simp⟩
        · exact ihr (fun q hq => h12 q (.tail _ hq)) hx
theorem pathss_at {d : Nat} : ∀ {ps : List Fold} {ah x : Bs}, (∀ p ∈ ps, Fold.Ok d p) → x ∈ Fold.pathss ah ps → ∃ p ∈ ps, ∃ s, x = ah ++ (p.name ++ 47 :: s)
  | [], _, _, _, h => by rw [Fold.pathss] at h; cases h
  | p :: r, ah, x, hok, h => by
    rw [Fold.pathss] at h
    rcases List.mem_append.mp h with h | h
    · obtain ⟨s, rfl⟩ := paths_pre d p (hok p (.head _)) _ x h
      exact Y1_2 p (.head _) ⟨s, by simp⟩
    · refine X1_2 (pathss_at (fun q hq => hok q (.tail _ hq)) h) ?_; rintro q hq ⟨s, e⟩
      exact Y1_2 q (.tail _ hq) ⟨s, e⟩
theorem paths_nodup : ∀ (d : Nat) (t : Fold), Fold.Ok d t → ∀ ah, (t.paths ah).Nodup := by
  intro d
  have files : ∀ {fs : List Bs} {ah : Bs}, (fs = [] ∨ fs = [[98, 46, 120]] ∨ fs = [[98, 46, 120], [102]]) → (fs.map (ah ++ ·)).Nodup := by
    rintro fs ah (rfl | rfl | rfl) <;> simp
  induction d with
  | zero =>
    rintro ⟨n, c, o, ps, fs, m⟩ hok ah
    have hf := hok.file
    rw [Fold.Ok_eq] at hok
    have h12 := hok.2.2.2.2.2.2.2.2.2.2.2
    simp at h12
    subst h12
    rw [Fold.paths, Fold.pathss, List.append_nil]
    exact files hf
  | succ d ih =>
    rintro ⟨n, c, o, ps, fs, m⟩ hok ah
    have hf := hok.file
    have hnm := fun {p} hp => hok.nm (p := p) hp
    have hnd : (ps.map Fold.name).Nodup := hok.names.nodup (by decide)
    rw [Fold.Ok_eq] at hok
    have h12 : ∀ p ∈ ps, Fold.Ok d p := hok.2.2.2.2.2.2.2.2.2.2.2
    rw [Fold.paths]
    refine List.nodup_append.mpr (Y0_3 (files hf) ?_ (fun x hx y hy e => ?_))
    · clear hok
      induction ps with
      | nil => rw [Fold.pathss]; exact .nil
      | cons p r ihr =>
        rw [Fold.pathss]
        rw [List.map_cons, List.nodup_cons] at hnd
        refine List.nodup_append.mpr (Y0_3 (ih p (h12 p (.head _)) _) (ihr (fun hp => hnm (.tail _ hp)) hnd.2 fun q hq => h12 q (.tail _ hq)) (fun x hx y hy e => ?_))
        obtain ⟨s, e1⟩ := paths_pre d p (h12 p (.head _)) _ x hx
        refine X1_2 (pathss_at (fun q hq => h12 q (.tail _ hq)) hy) ?_; rintro q hq ⟨s', e2⟩
        subst e
        rw [e1, List.append_assoc, List.append_assoc] at e2
        have e3 := List.append_cancel_left e2
        have c1 := cut_app (x := 47) (v := s) (no47 (hnm (p := p) (.head _)))
        have c2 := cut_app (x := 47) (v := s') (no47 (hnm (p := q) (.tail _ hq)))
        rw [← e3] at c2
        have e4 : p.name ++ ([47] ++ s) = p.name ++ 47 :: s := rfl
        rw [e4, c1] at c2
        exact hnd.1 (List.mem_map.mpr (Y1_2 q hq ((congrArg Prod.fst (Option.some.inj c2)).symm)))
    · refine X1_2 (List.mem_map.mp hx) ?_; rintro f hf' rfl
      refine X1_2 (pathss_at h12 hy) ?_; rintro q hq ⟨s', e2⟩
      subst e
      have e3 := List.append_cancel_left e2
      subst e3
      rcases hf with rfl | rfl | rfl
      · cases hf'
      · have : (47 : UInt8) ∈ q.name ++ 47 :: s' := by simp
        rw [List.mem_singleton.mp hf'] at this
        revert this; decide
      · have : (47 : UInt8) ∈ q.name ++ 47 :: s' := by simp
        rcases List.mem_cons.mp hf' with e | e
        · rw [e] at this; revert this; decide
        · rw [List.mem_singleton.mp e] at this
          revert this; decide
theorem paths_short : ∀ (d : Nat) (t : Fold), Fold.Ok d t → d ≤ 2 → ∀ ah, ∀ x ∈ t.paths ah, ah.length + 3 * d ≤ 900 → x.length ≤ 1000 := by
  intro d
  have files : ∀ {fs : List Bs} {s : Bs}, (fs = [] ∨ fs = [[98, 46, 120]] ∨ fs = [[98, 46, 120], [102]]) → s ∈ fs → s.length ≤ 3 := by
    rintro fs s (rfl | rfl | rfl) hs
    · cases hs
    · rw [List.mem_singleton.mp hs]; decide
    · rcases List.mem_cons.mp hs with rfl | hs
      · decide
      · rw [List.mem_singleton.mp hs]; decide
  induction d with
  | zero =>
    rintro ⟨n, c, o, ps, fs, m⟩ hok _ ah x hx hl
    have hf := hok.file
    rw [Fold.Ok_eq] at hok
    have h12 := hok.2.2.2.2.2.2.2.2.2.2.2
    simp at h12
    subst h12
    rw [Fold.paths, Fold.pathss, List.append_nil] at hx
    refine X1_2 (List.mem_map.mp hx) ?_; rintro s hs rfl
    have := files hf hs
    rw [List.length_append]
    lia
  | succ d ih =>
    rintro ⟨n, c, o, ps, fs, m⟩ hok hd ah x hx hl
    have hf := hok.file
    have hnm := fun {p} hp => hok.nm (p := p) hp
    rw [Fold.Ok_eq] at hok
    have h12 : ∀ p ∈ ps, Fold.Ok d p := hok.2.2.2.2.2.2.2.2.2.2.2
    rw [Fold.paths] at hx
    rcases List.mem_append.mp hx with hx2 | hx2
    · refine X1_2 (List.mem_map.mp hx2) ?_; rintro s hs rfl
      have := files hf hs
      rw [List.length_append]
      lia
    · clear hok hx
      have hx := hx2; clear hx2
      induction ps with
      | nil => rw [Fold.pathss] at hx; cases hx
      | cons p r ihr =>
        rw [Fold.pathss] at hx
        rcases List.mem_append.mp hx with hx | hx
        · refine ih p (h12 p (.head _)) (by lia) _ x hx ?_
          have : p.name.length ≤ 2 := by rcases hnm (p := p) (.head _) with e | e | e <;> rw [e] <;> decide
          simp only [List.length_append, List.length_cons, List.length_nil]
          lia
        · exact ihr (fun hp => hnm (.tail _ hp)) (fun q hq => h12 q (.tail _ hq)) hx
end
section
section
variable {w : World} {c : Cx w} {n : Led} {l : Fm} {rest : List Stmt} {sc : Scope} {d u : Nat} {b : Bool}
theorem At.eCmp {e1 e2 : PySem.Expr} {op : CmpOp} {pos : Pos} {Q : Value → Shared → Prop} (k : At c n l (eval e1 c.env) fun a s' => wpAny (model PR w) c.A (eval e2 c.env) (fun b s'' => wpAny (model PR w) c.A (compareOp op a b) Q c.E s'') c.E s')
    (hm : behindInMarks op e2 = false := by with_unfolding_all rfl) : At c n l (eval (.Compare e1 [op] [e2] pos) c.env) Q := fun h tk H => wpAny_Compare1 (k h tk H) hm
theorem Go.eqBool {x y : Bool} {Q : Value → Shared → Prop} (k : Go c n l Q (.bool (x == y))) : At c n l (compareOp .Eq (.bool x) (.bool y)) Q := fun h tk H => eq_bool (k h tk H)
theorem hand_asg {x : Str} {px p2 pos : Pos} {j : Nat} {y : Bool} {Q : Flow → Shared → Prop} (hw : Wk c sc d u true) (k : At c n (put l x (.bool y)) (execs rest c.env) Q) (hx : (l.map (·.1)).contains x = true := by rfl)
    (hs : ∀ env, swapsWith (.Constant (.bool y) j p2) (some (.Name x px)) pos.line env = pure false := by intro _; rfl) (A : Around) (h : Heap) (tk : Tok) (H : Hp c n l h) :
    wpAny (model PR w) A (execs [.Assign [.Name x px] (.Constant (.bool y) j p2) pos] c.env) (Th c rest Q) c.E { c.s with heap := h, toks := tk } := by
  refine wpAny_execs_cons (wpAny_Assign_Name (Constant_bool ?_) (hs _))
  obtain ⟨m, hid, hV, F, N, O⟩ := H
  exact c.st hw.dfn hV F N O (by simpa using hx) _ _ _ _ rfl fun h' tk' m' hid' a b d e => wpAny_pure (k h' tk' ⟨m', hid', a, b, d, e⟩)
theorem hand_none {p2 pos : Pos} {j : Nat} {Q : Flow → Shared → Prop} (k : Go c n l Q (.ret .none)) (A : Around) (h : Heap) (tk : Tok) (H : Hp c n l h) :
    wpAny (model PR w) A (execs [.Return (some (.Constant .none j p2)) pos] c.env) (Th c rest Q) c.E { c.s with heap := h, toks := tk } :=
  wpAny_execs_cons (wpAny_Return_some (wpAny_Constant_none (k h _ H)))
end
noncomputable def stg (ill : Int) (j : Nat) : Int := if (j : Int) = ill then 1 else 0
noncomputable def stgs (ill : Int) (bs : List Bs) : List (Bs × Int) := bs.zipIdx.map fun p => (p.1, stg ill p.2)
theorem stgs_get {ill : Int} {bs : List Bs} {j : Nat} {b : Bs} (h : bs[j]? = some b) : (stgs ill bs)[j]? = some (b, stg ill j) := by
  unfold stgs
  rw [List.getElem?_map, List.getElem?_zipIdx, h]
  simp
theorem stgs_len {ill : Int} {bs : List Bs} : (stgs ill bs).length = bs.length := by simp [stgs]
theorem stgs_mem {ill : Int} {bs : List Bs} {e : Bs × Int} (h : e ∈ stgs ill bs) : e.1 ∈ bs := by
  obtain ⟨j, hj⟩ := List.getElem?_of_mem h
  have hlt := (List.getElem?_eq_some_iff.mp hj).1
  rw [stgs_len] at hlt
  have := stgs_get (ill := ill) (List.getElem?_eq_getElem hlt)
  rw [hj] at this
  rw [Option.some.inj this]
  exact List.getElem_mem hlt
structure StJ (k0 : Led) (ill : Int) (bs : List Bs) (i : Nat) (ys : List Value) (kvs : List (List UInt8 × Value)) (k : Led) : Prop where
  sub : ∀ q ∈ k0, q ∈ k
  l1 : ys.length = i
  l2 : kvs.length = i
  at_ : ∀ (j : Nat) (y : Value) (p : List UInt8 × Value), ys[j]? = some y → kvs[j]? = some p → bs[j]? = some p.1 ∧ IV (stg ill j) p.2 ∧ ∃ T kv, y = .ref T ∧ isBytes p.1 kv = true ∧ (T, tup [kv, p.2]) ∈ k
theorem StJ.step {k0 k k' : Led} {ill : Int} {bs : List Bs} {i : Nat} {ys : List Value} {kvs : List (List UInt8 × Value)} {b : Bs} {kv z : Value} {T : Addr} (h : StJ k0 ill bs i ys kvs k) (hb : bs[i]? = some b) (hkv : isBytes b kv = true) (hz : IV (stg ill i) z) (hT : New k k' T (tup [kv, z])) : StJ k0 ill bs (i + 1) (ys ++ [.ref T]) (kvs ++ [(b, z)]) k' := by
  refine ⟨fun q hq => hT.sub q (h.sub q hq), by rw [List.length_append, h.l1]; rfl, by rw [List.length_append, h.l2]; rfl, fun j y p hy hp => ?_⟩
  have hj : j < i + 1 := by have := (List.getElem?_eq_some_iff.mp hy).1; rw [List.length_append, h.l1] at this; exact this
  by_cases e : j < i
  · rw [List.getElem?_append_left (by rw [h.l1]; exact e)] at hy
    rw [List.getElem?_append_left (by rw [h.l2]; exact e)] at hp
    refine X0_3 (h.at_ j y p hy hp) ?_; rintro r1 r2 zz; obtain ⟨T', kv', r3, r4, r5⟩ := zz
    exact Y0_3 r1 r2 (Y2_3 T' kv' r3 r4 (hT.sub _ r5))
  · obtain rfl : j = i := by lia
    rw [List.getElem?_append_right (by rw [h.l1]; exact Nat.le_refl _), h.l1, Nat.sub_self] at hy
    rw [List.getElem?_append_right (by rw [h.l2]; exact Nat.le_refl _), h.l2, Nat.sub_self] at hp
    obtain rfl := Option.some.inj hy
    obtain rfl := Option.some.inj hp
    exact Y0_3 hb hz (Y2_3 T kv rfl hkv hT.mem)
theorem StJ.keys {k0 k : Led} {ill : Int} {bs : List Bs} {ys : List Value} {kvs : List (List UInt8 × Value)} (h : StJ k0 ill bs bs.length ys kvs k) : kvs.map (·.1) = bs := by
  refine List.ext_getElem? fun j => ?_
  rw [List.getElem?_map]
  by_cases hj : j < bs.length
  · have h1 := List.getElem?_eq_getElem (l := kvs) (by rw [h.l2]; exact hj)
    have h2 := List.getElem?_eq_getElem (l := ys) (by rw [h.l1]; exact hj)
    rw [h1]
    exact (h.at_ j _ _ h2 h1).1.symm
  · rw [List.getElem?_eq_none (by rw [h.l2]; lia), List.getElem?_eq_none (by lia)]
    rfl
theorem StJ.stG {k0 k : Led} {ill : Int} {bs : List Bs} {ys : List Value} {kvs : List (List UInt8 × Value)} (h : StJ k0 ill bs bs.length ys kvs k) (hnd : bs.Nodup) : StG kvs (stgs ill bs) := by
  refine ⟨by rw [h.l2, stgs_len], fun i k z hk => ?_, by rw [h.keys]; exact hnd⟩
  have hlt := (List.getElem?_eq_some_iff.mp hk).1
  refine X0_3 (h.at_ i _ _ (List.getElem?_eq_getElem (l := ys) (by rw [h.l1, ← h.l2]; exact hlt)) hk) fun h1 h2 _ => ?_
  exact Y1_2 _ (stgs_get h1) h2
noncomputable def EnJ (w : World) (k0 : Led) (es : List (Bs × Int)) (i : Nat) (ys : List Value) (k : Led) : Prop := (∀ q ∈ k0, q ∈ k) ∧ ys.length = i ∧ ∀ (j : Nat) (y : Value) e, ys[j]? = some y → es[j]? = some e → EntAt w k y e.1 e.2
theorem EnJ.step {w : World} {k0 k k' : Led} {es : List (Bs × Int)} {i : Nat} {ys : List Value} {y : Value} {e : Bs × Int} (h : EnJ w k0 es i ys k) (hs : ∀ q ∈ k, q ∈ k') (he : es[i]? = some e) (hy : EntAt w k' y e.1 e.2) : EnJ w k0 es (i + 1) (ys ++ [y]) k' := by
  refine X0_3 h ?_; clear h; rintro h1 rfl h3
  refine Y0_3 (fun q hq => hs q (h1 q hq)) (by rw [List.length_append]; rfl) (fun j z e' hz he' => ?_)
  by_cases hj : j < ys.length
  · rw [List.getElem?_append_left hj] at hz
    exact (h3 j z e' hz he').sub hs
  · have hlt := (List.getElem?_eq_some_iff.mp hz).1
    rw [List.length_append] at hlt
    obtain rfl : j = ys.length := by have : [y].length = 1 := rfl; lia
    rw [List.getElem?_append_right (Nat.le_refl _), Nat.sub_self] at hz
    rw [he] at he'
    obtain rfl := Option.some.inj hz
    obtain rfl := Option.some.inj he'
    exact hy
theorem EnJ.zip {w : World} {k0 k : Led} {es : List (Bs × Int)} {ys : List Value} (h : EnJ w k0 es es.length ys k) : ∀ z ∈ ys.zip es, EntAt w k z.1 z.2.1 z.2.2 := fun z hz => by
  obtain ⟨j, hj⟩ := List.getElem?_of_mem hz
  obtain ⟨h1, h2⟩ := List.getElem?_zip_eq_some.mp hj
  exact h.2.2 j _ _ h1 h2
end
section
noncomputable abbrev frR (dk fo tr pa il st en le : Option Value) : Fm := [(Str.ofString "deck", dk), (Str.ofString "folder", fo), (Str.ofString "tree", tr), (Str.ofString "paths", pa), (Str.ofString "ill", il), (Str.ofString "stages", st), (Str.ofString "entries", en), (Str.ofString "is_let", le)]
theorem right_end {w : World} {c : Cx w} {n : Led} {l : Fm} {sc : Scope} {d u : Nat} {t : Fold} {v : Value} {sd : Addr} {od : Obj} {kvs : List (List UInt8 × Value)} {es : List (Bs × Int)} {b : Bool} {p1 p2 p3 p4 p5 p6 p7 p8 : Pos} {j : Nat} {Q : Flow → Shared → Prop} (hw : Wk c sc d u true) (hroom : d + 3 < recursionLimit) (hu : u + 30 < cLine)
    (hf : frm l (Str.ofString "folder") = some v) (hs : frm l (Str.ofString "stages") = some (.ref sd)) (hb : frm l (Str.ofString "is_let") = some (.bool b)) (hht : t.tree.ht ≤ 3) (ht : FoldIn w n v t) (hsd : (sd, od) ∈ n) (hod : od.IsDictOf (bytesKind PR w) kvs) (lo : (sd == sysModules) = false) (hS : StG kvs es) (hz : es.length ≤ 1000) (hpl : ∀ e ∈ es, e.1.length ≤ 1000) (hg : t.tree.Good)
    (hbk : b = true ↔ t.known [] es) (k : ∀ n', (∀ q ∈ n, q ∈ n') → Go c n' l Q (.ret (.bool true))) (hgl : sc.names.lookup (Str.ofString "_law_is_known") = some .globalImplicit := by rfl) :
    At c n l (execs [.Return (some (.Compare (.Name (Str.ofString "is_let") p1) [.Eq] [.Call (.Name (Str.ofString "_law_is_known") p2) [.Name (Str.ofString "folder") p3, .Name (Str.ofString "stages") p4, .Constant (.bytes []) j p5] [] p6] p7)) p8] c.env) Q := by
  refine .retQ <| .eCmp <| (show EvP c n l (.Name (Str.ofString "is_let") p1) (.bool b) from .name hb) _ <| At.eCall (.glob hw rfl hgl) (.ref rfl) <| At.argP (.name hf) <| At.argP (.name hs) <| At.argR .bytes fun pv hpv => At.arg0 <| Go.cq ?_
  obtain ⟨tok, rfl⟩ := hpv
  refine known_L 3 hht (by rw [hw.dp]; omega) (by rw [hw.un]; lia) ht hsd hod lo hS hz hpl (by simp; lia) hg _ fun r n8 hr => ?_
  refine X0_2 hr ?_; clear hr; rintro h78 zz; obtain ⟨b', rfl, hb'⟩ := zz
  have e : b = b' := by rw [Bool.eq_iff_iff, hbk, hb']
  rw [← e]
  refine Go.eqBool ?_
  rw [beq_self_eq_true]
  exact k _ h78
theorem right_L {w : World} {c : Cx w} {n n0 : Led} {l : Fm} {da ca : Addr} {cs : List Value} {t : Fold} {v vt : Value} (hout : c.outer = []) (XB : (KK w).In c.base) (TB : Top c.p c.loose c.mean c.mg c.mb c.base) (hroom : c.dp + 10 < recursionLimit) (hu : c.un + 100 < cLine)
    (hD : DkAt w n da ca cs) (hok : Fold.Ok 2 t) (hg : t.tree.Good) (hsz : t.tree.sz ≤ 100) (hs0 : ∀ q ∈ n0, q ∈ n) (hne : ∀ q ∈ n0, @Ne Nat q.1 da) (ht : FoldIn w n0 v t) (hvt : TreeIn w n0 vt t.tree) : CaG c n l (.ref 372) [.ref da, v, vt] fun r n' => r = .bool true ∧ DkT w n n' da ca cs := fun Q kk => by
  have hht := Fold.ht_le 2 t hok
  refine At.enterT (by exact rfl) (by lia) hout [Str.ofString "deck", Str.ofString "folder", Str.ofString "tree"] [Str.ofString "paths", Str.ofString "ill", Str.ofString "stages", Str.ofString "entries", Str.ofString "is_let"] (frR (some (.ref da)) (some v) (some vt) none none none none none) fun c' L' hid m g0 hV hI => ?_
  have hw := hI.wk
  refine .assignQ <| .eCall (.blt hw rfl (by boot_fast)) .blt <| .argQ <| .eCall (.glob hw rfl) (.ref rfl) <| .argP (.name rfl) <| .argR .bytes fun pv hpv => .arg0 <| .cq ?_
  obtain ⟨tok, rfl⟩ := hpv
  refine paths_L t hok (by decide) (by rw [hw.dp]; lia) (by decide) (ht.mono hs0) _ fun r n1 hr => ?_
  refine X3_3 hr ?_; clear hr; rintro D1 vs1 k1 rfl hB1 hN1
  have hpl := paths_len 2 t hok []
  have hnn : nodes 2 = 13 := rfl
  rw [hnn] at hpl
  refine At.arg0 <| Go.cq <| sorted_L hN1.mem hB1 (by rw [bvs_len hB1]; lia) _ fun r n2 hr => ?_
  refine X4_4 hr ?_; clear hr; rintro D2 us bs e2 rfl hB2 hperm hN2
  have hnd : bs.Nodup := hperm.nodup_iff.mpr (paths_nodup 2 t hok [])
  have hbl : bs.length ≤ 26 := by rw [hperm.length_eq]; exact hpl
  have hul : us.length = bs.length := bvs_len hB2
  have hps : ∀ x ∈ bs, x.length ≤ 1000 := fun x hx => paths_short 2 t hok (by decide) [] x (hperm.mem_iff.mp hx) (by decide)
  refine Go.aq hw ?_
  refine .assignQ <| .eCall (.glob hw rfl) (.ref rfl) <| .argP (.name rfl) <| .argR (.iadd (.imul .int (.lenL hw (.name rfl) hN2.mem (by lia)) (.of_left (by decide))) .int) fun kv hkv => .arg0 <| .cq ?_
  obtain ⟨tk3, rfl⟩ := hkv
  refine draw_L (by rw [hw.dp]; lia) ((hD.sub hN1.sub).sub hN2.sub) (by lia) _ fun r n3 hr => ?_
  obtain ⟨⟨x, hx, hx0, hx1⟩, hT⟩ := hr
  have s3 : ∀ q ∈ n, @Ne Nat q.1 da → q ∈ n3 := fun q hq h => hT.sub q (hN2.sub q (hN1.sub q hq)) h
  have hD2 : (D2, lstN us e2) ∈ n3 := hT.sub _ hN2.mem fun e => by
    refine X1_2 ((hD.sub hN1.sub).dk) fun o ho _ => ?_
    exact hN2.ne _ ho e.symm
  refine Go.aq hw ?_
  refine .assignQ <| .eCall (.blt hw rfl (by boot_fast)) .typ <| .argQ <| At.pairComp (cnt := us.length) (α := Unit) (val := fun _ i a b => IV i a ∧ us[i]? = some b) (Sk := fun _ h => h.IsList D2 us.toArray) hw (fun _ i ys k => ∃ kvs, StJ n3 x bs i ys kvs k) ?_ ?_ ?_ ?_
  · exact .eCall (.blt hw rfl (by boot_fast)) .typ <| .argP (.name rfl) <| .arg0 <| .cq <| At.srcEx () <| At.srcEnum hD2 ⟨[], fun _ h => h, rfl, rfl, fun j y p hy => by simp at hy⟩ (by lia)
  · rintro _ i ys k m hid h ⟨kvs, hj⟩ F N
    exact News.isList N (List.mem_append_right _ (hj.sub _ hD2))
  · rintro _ i a b ys k c2 hi ⟨ha, hb⟩ ⟨kvs, hj⟩ hw2
    refine X1_2 (bvs_get hB2 hb) ?_; rintro b' hb' ⟨tb, rfl⟩
    refine Y1_3 True .nil (fun _ Q2 kk2 => ?_) (fun h => absurd trivial h)
    refine .eTup <| .argP (.name rfl) <| .argR (P := IV (stg x i)) (.ifE (.cmp (EvP.r (P := IV i) (.name rfl) ha) (EvP.r (P := IV x) (.name rfl) hx) fun a b ha hb => .iEq ha hb) (fun h => ?_) fun h => ?_) fun z hz => At.arg0 <| At.newTup fun T k' hT' => kk2 _ _ ⟨_, hj.step hb' (by show isBytes b' (.bytes b'.toArray tb) = true; simp [isBytes]) hz hT'⟩
    · rw [show stg x i = 1 from if_pos h]; exact .int
    · rw [show stg x i = 0 from if_neg h]; exact .int
  rintro _ D4 ys4 k4 n4 ⟨kvs, hj⟩ hN4
  rw [hul] at hj
  refine At.arg0 <| Go.cq <| CaG.dictPairs (knd := bytesKind PR w) (kvs := kvs) (by have := hN4.mem; exact this) (by rw [hj.l1, hj.l2]) (by rw [hj.keys]; exact hnd) (by rw [hj.l2]; lia) (fun j y p hy hp => ?_) _ fun r n5 hr => ?_
  · refine X0_3 (hj.at_ j y p hy hp) ?_; rintro _ _ zz; obtain ⟨T, kv, r1, r2, r3⟩ := zz
    exact Y2_3 T kv r1 r2 (hN4.sub _ r3)
  refine X2_4 hr ?_; clear hr; rintro sd od rfl hod hlo hN5
  have hS := hj.stG hnd
  generalize hes : stgs x bs = es at hS
  have hesl : es.length = bs.length := by rw [← hes, stgs_len]
  have hesp : ∀ e ∈ es, e.1.length ≤ 1000 := fun e he => hps _ (by rw [← hes] at he; exact stgs_mem he)
  have s5 : ∀ q ∈ n3, q ∈ n5 := fun q hq => hN5.sub q (hN4.sub q (hj.sub q hq))
  refine Go.aq hw ?_
  refine .asgComp hw (.name rfl) (s5 _ hD2) (by lia) (fun i ys k => EnJ w n5 es i ys k) (Y0_3 (fun _ h => h) rfl (fun j y e hy => by simp at hy)) (fun i ys k h => h.1 _ (s5 _ hD2)) (fun i v ys k c2 hv hj2 hw2 => ?_) fun D6 ys6 k6 n6 hj6 hN6 => ?_
  · intro Q2 kk2
    refine X1_2 (bvs_get hB2 hv) ?_; rintro b' hb' ⟨tb, rfl⟩
    have he : es[i]? = some (b', stg x i) := by rw [← hes]; exact stgs_get hb'
    refine X1_2 (hS.get (List.mem_of_getElem? he)) fun z hz1 hz2 => ?_
    obtain ⟨tz, rfl⟩ := hz2
    obtain ⟨tf, hf⟩ := file_glob (w := w)
    refine At.eCall (.glob hw2 rfl) (.ref rfl) <| At.argP (.name rfl) <| At.argP (.glob hw2 hf) <| At.argQ <| At.eCall (.blt hw2 rfl (by boot_fast)) .typ <| At.argR .int fun kv hkv => At.arg0 <| Go.cq ?_
    obtain ⟨tk7, rfl⟩ := hkv
    refine CaG.bytes20 _ ?_
    rintro r _ ⟨⟨t8, rfl⟩, rfl⟩
    refine At.argP (.dkey (.name rfl) (hj2.1 _ hN5.mem) hod (EvP.r (.name rfl) (by show isBytes b' (.bytes b'.toArray tb) = true; simp [isBytes])) hz1) <| At.arg0 <| Go.cq <| entry_L (by rw [hw2.dp]; lia) _ fun r k' hr => kk2 _ _ (hj2.step hr.1 he hr.2)
  rw [hul, ← hesl] at hj6
  have hZ1 : (ys6.zip es).map Prod.fst = ys6 := List.map_fst_zip (by rw [hj6.2.1]; exact Nat.le_refl _)
  have hZ2 : (ys6.zip es).map Prod.snd = es := List.map_snd_zip (by rw [hj6.2.1]; exact Nat.le_refl _)
  have s6 : ∀ q ∈ n3, q ∈ n6 := fun q hq => hN6.sub q (hj6.1 q (s5 q hq))
  have s06 : ∀ q ∈ n0, q ∈ n6 := fun q hq => s6 q (s3 q (hs0 q hq) (hne q hq))
  have out : ∀ n8, (∀ q ∈ n6, q ∈ n8) → DkT w n n8 da ca cs := fun n8 h => ⟨hT.at_.sub fun q hq => h q (s6 q hq), fun q hq e => h q (s6 q (s3 q hq e))⟩
  have hfk : t.tree.fits [] es ↔ t.known [] es := by
    have h := fits_known 2 t hok [] es
    have e : es.filter (under []) = es := List.filter_eq_self.mpr fun e _ => by simp [under]
    rwa [e] at h
  refine At.tryN hI XB TB fun ct TQ hwt het hst nxt _ rai => ?_
  refine .exprQ <| .eCall (.glob hwt rfl) (.ref rfl) <| .argP (.name rfl) <| .argP (.name rfl) <| .arg0 <| .cq <| check_L (Z := ys6.zip es) (by rw [hwt.dp]; omega) (by rw [hwt.un]; lia) (by rw [hZ1]; exact hN6.mem) (fun z hz => (hj6.zip z hz).sub hN6.sub) (by rw [List.length_zip]; lia) (hvt.mono s06) hg (by lia) (by lia) (fun hf n7 h67 => ?_) fun hf y => ?_
  · rw [hZ2] at hf
    exact Go.xq <| At.assign hwt .bool <| At.nil <| nxt _ _ <| right_end hw (by omega) (by lia) rfl rfl rfl hht (ht.mono fun q hq => h67 q (s06 q hq)) (h67 _ (hN6.sub _ (hj6.1 _ hN5.mem))) hod hlo hS (by lia) hesp hg ⟨fun _ => hfk.mp hf, fun _ => rfl⟩ fun n8 h78 => hI.ret hV (kk _ _ ⟨rfl, out _ fun q hq => h78 q (h67 q hq)⟩)
  · rw [hZ2] at hf
    exact rai _ _ _ fun c'' hI'' => hand_asg hI''.wk <| right_end hI''.wk (by omega) (by omega) rfl rfl rfl hht (ht.mono s06) (hN6.sub _ (hj6.1 _ hN5.mem)) hod hlo hS (by omega) hesp hg ⟨fun h => (nomatch h), fun h => absurd (hfk.mpr h) hf⟩ fun n8 h78 => hI''.ret hV (kk _ _ ⟨rfl, out _ h78⟩)
end
section
section
variable {prog : Program} {w : World} {A : Around} {E : Value → Shared → Prop} {s : Shared}
theorem nextT_item {it t : Addr} {items : Array Value} {i : Nat} {x : Value} {Q : Value → Shared → Prop} (hit : s.heap.IsTupleIter it t i) (ht : s.heap.IsTuple t items) (hx : items[i]? = some x)
    (hQ : ∀ h', h'.IsTupleIter it t (i + 1) → Heap.SameBut it s.heap h' → Q x { s with heap := h' }) : wpAny (model prog w) A (Builtin.SmallTypes.nextOf (.ref it)) Q E s := by
  refine X1_3 (id hit) fun o ho hc hd => ?_
  refine X1_3 ht ?_; clear ht; rintro ol hol _ ⟨nl, hdl⟩
  unfold Builtin.SmallTypes.nextOf
  refine wpAny_bind (wpAny_callSpecial?_slot (name := Str.ofString "__next__") hit.typeIs F.slot_tuple_iterator_next
    (wpAny_call_entry F.slot_tuple_iterator_next hit.typeIs F.entry_tuple_iterator_next ?_ (F.args_tuple_iterator_next_1 _)))
  show wpAny _ _ (field (.ref it) 0 >>= _) _ _ s
  refine wpAny_bind (wpAny_field ho hd (x := .ref t) rfl ?_)
  show wpAny _ _ (if (Value.ref t == Value.none) = true then _ else _) _ _ s
  rw [if_neg (show ¬ ((Value.ref t == Value.none) = true) from Bool.false_ne_true)]
  show wpAny _ _ (field (.ref it) 1 >>= _) _ _ s
  refine wpAny_bind (wpAny_field ho hd (x := .int i 0) rfl ?_)
  show wpAny _ _ (seqItems? (.ref t) >>= _) _ _ s
  refine wpAny_bind (wpAny_seqItems hol hdl ?_)
  simp only [Int.toNat_natCast, hx]
  refine wpAny_bind (wpAny_setField ho hd (by simp) (wpAny_pure (Y1_2 x rfl (wpAny_pure (hQ _ ?_ (Heap.SameBut.update ..))))))
  exact Y1_3 _ (Heap.get?_update_self _ ho (Obj.isFreed_of_fields (Obj.data_mapFields hd _))) ((Obj.cls_mapFields ..).trans hc) (by
    rw [Obj.data_mapFields hd]; simp [rawInt])
theorem nextT_end {it t : Addr} {items : Array Value} {i : Nat} {Q : Value → Shared → Prop} (hh : A.handled = none) (hit : s.heap.IsTupleIter it t i) (ht : s.heap.IsTuple t items) (hx : items[i]? = none)
    (hE : ∀ h' e, Heap.ExtBut it s.heap h' → (∃ o, h'.get? e = some o ∧ o.cls = .type "StopIteration") → E (.ref e) { s with heap := h' }) : wpAny (model prog w) A (Builtin.SmallTypes.nextOf (.ref it)) Q E s := by
  refine X1_3 (id hit) fun o ho hc hd => ?_
  refine X1_3 ht ?_; clear ht; rintro ol hol _ ⟨nl, hdl⟩
  unfold Builtin.SmallTypes.nextOf
  refine wpAny_bind (wpAny_callSpecial?_slot (name := Str.ofString "__next__") hit.typeIs F.slot_tuple_iterator_next
    (wpAny_call_entry F.slot_tuple_iterator_next hit.typeIs F.entry_tuple_iterator_next ?_ (F.args_tuple_iterator_next_1 _)))
  show wpAny _ _ (field (.ref it) 0 >>= _) _ _ s
  refine wpAny_bind (wpAny_field ho hd (x := .ref t) rfl ?_)
  show wpAny _ _ (if (Value.ref t == Value.none) = true then _ else _) _ _ s
  rw [if_neg (show ¬ ((Value.ref t == Value.none) = true) from Bool.false_ne_true)]
  show wpAny _ _ (field (.ref it) 1 >>= _) _ _ s
  refine wpAny_bind (wpAny_field ho hd (x := .int i 0) rfl ?_)
  show wpAny _ _ (seqItems? (.ref t) >>= _) _ _ s
  refine wpAny_bind (wpAny_seqItems hol hdl ?_)
  simp only [Int.toNat_natCast, hx]
  refine wpAny_bind (wpAny_rule (wpAny_bind (wpAny_setField ho hd (by simp) ?_)))
  show wpAny _ _ (newExc (.type "StopIteration") [] >>= _) _ _ _
  refine wpAny_bind ?_
  simp only [newExc, newTuple]
  refine wpAny_bind (wpAny_newObj_type ?_ (by size_fits))
  refine wpAny_bind (m := firstArgMember _ _) (wpAny_of_eq (a := Value.none) (by first | rfl | (simp only [firstArgMember]; rfl)) ?_)
  refine wpAny_newObj_type ?_ (by size_fits)
  simp only [raiseNew]
  refine wpAny_bind (wpAny_handled ?_)
  first | rw [show A.in1.handled = none from hh] | rw [hh]
  refine wpAny_bind (wpAny_pure (wpAny_throw ?_))
  exact hE _ _ (((Heap.SameBut.update ..).extBut.push _).push _) (Y1_2 _ (Heap.get?_push_size _ rfl) rfl)
theorem isTuple_at {h h' : Heap} {a : Addr} {items : Array Value} (x : h.IsTuple a items) (e : ∀ o, h.get? a = some o → h'.get? a = some o) : h'.IsTuple a items := let ⟨o, ho, r⟩ := x; (Y1_2 o (e _ ho) r)
theorem drawsT (hh : A.handled = none) (it l : Addr) (hne : l ≠ it) (items : Array Value) : Draws prog w A it [it, l] items.size (fun i v => items[i]? = some v) (fun i h => h.IsTupleIter it l i ∧ h.IsTuple l items) where
  live := fun _ _ st => let ⟨o, ho, _⟩ := st.1; ⟨o, ho⟩
  frame := fun _ _ _ st hk => ⟨st.1.at fun o e => hk it (by simp) o e, isTuple_at st.2 fun o e => hk l (by simp) o e⟩
  item := fun i s Q E hi st hQ => by
    refine nextT_item st.1 st.2 (x := items[i]) (by simp [hi]) fun h' hit' hs' => ?_
    exact hQ _ h' s.toks (by simp [hi]) ⟨hit', st.2.extBut hs'.extBut hne⟩ hs'
  done := fun s Q E st hE => nextT_end hh st.1 st.2 (by simp) hE
theorem wpAny_stack_bool {M : Model} {A : Around} {E : Value → Shared → Prop} {s : Shared} {f : List (Code × Pos) → Bool} {Q : Bool → Shared → Prop} (h : ∀ b, Q b s) : wpAny M A stack (fun st s' => wpAny M A (pure (f st)) Q E s') E s := wpAny_stack_any fun _ => wpAny_pure (h _)
theorem meets_enumT (l : Addr) (items : Array Value) (n : Nat) (dct : Option Addr) (sl : Array (Option Value)) :
    Meets (Builtin.«enumerate.__new__» ⟨[.type "enumerate", .ref l], []⟩) (fun _ R s => s.heap.get? l = some { cls := .type "tuple", dict := dct, data := .seq items n, slots := sl } ∧
      R (.ok (.ret (.ref (s.heap.push { cls := .type "tuple_iterator", data := .fields #[.ref l, .int 0 0] }).objs.size)))
        { s with heap := (s.heap.push { cls := .type "tuple_iterator", data := .fields #[.ref l, .int 0 0] }).push { cls := .type "enumerate", data := .fields #[.none, .bool false, .ref s.heap.objs.size, rawInt 0, .none, .none] } }) :=
  .of_wp fun prog w A R s h => by
    obtain ⟨hp, g, d, tk, os⟩ := s; obtain ⟨hl, h⟩ := h
    have hsub := sub_enumerate
    have hL : Heap.IsTuple (Shared.heap ⟨hp, g, d, tk, os⟩) l items := Y1_3 _ hl rfl ⟨n, rfl⟩
    wp_walk using AutoSeq1.wpAny_loadPart' hl
    refine wpAny_stack_bool fun b => ?_
    cases b
    · wp_walk using AutoSeq1.wpAny_loadPart' hl, wpAny_pyIter_tuple hL
      exact Y1_2 _ rfl h
    · wp_walk using AutoSeq1.wpAny_loadPart' hl, wpAny_pyIter_tuple hL
      exact Y1_2 _ rfl h
theorem call_enumT {l : Addr} {items : Array Value} {Q : Value → Shared → Prop} (hL : s.heap.IsTuple l items)
    (h : ∀ h', IsEnum h' (s.heap.objs.size + 1) s.heap.objs.size 0 .none → h'.IsTupleIter s.heap.objs.size l 0 → h'.objs.size = s.heap.objs.size + 2 →
      (∀ b o, s.heap.get? b = some o → h'.get? b = some o) → Q (.ref (s.heap.objs.size + 1)) { s with heap := h' }) : wpAny (model prog w) A (call (.type "enumerate") [.ref l]) Q E s := by
  refine X1_3 hL ?_; clear hL; rintro ⟨c, dct, dt, sl⟩ hl hc ⟨n, hd⟩
  replace hc : c = .type "tuple" := hc
  replace hd : dt = .seq items n := hd
  subst hc hd
  refine callType_new F.called_enumerate (by decide) (F.typeCall_enumerate_1 _) (F.newCall_enumerate_1 _) (fun obj => F.args_object_init_2 obj _) F.entry_enumerate_new
    (meets_enumT l items n dct sl) ⟨hl, ?_⟩
  have hz : (s.heap.push { cls := .type "tuple_iterator", data := .fields #[.ref l, .int 0 0] }).objs.size = s.heap.objs.size + 1 := Heap.size_push ..
  show _ ∧ _
  rw [hz]
  have he : IsEnum ((s.heap.push { cls := .type "tuple_iterator", data := .fields #[.ref l, .int 0 0] }).push
      { cls := .type "enumerate", data := .fields #[.none, .bool false, .ref s.heap.objs.size, rawInt 0, .none, .none] }) (s.heap.objs.size + 1) s.heap.objs.size 0 .none := by
    have := Heap.get?_push_size (s.heap.push { cls := .type "tuple_iterator", data := .fields #[.ref l, .int 0 0] })
      (o := { cls := .type "enumerate", data := .fields #[.none, .bool false, .ref s.heap.objs.size, rawInt 0, .none, .none] }) rfl
    rw [hz] at this; exact this
  refine ⟨Y1_2 _ he rfl, h _ he (Y1_3 _ (Heap.get?_push_of_some _ (Heap.get?_push_size _ rfl)) rfl rfl) (by rw [Heap.size_push, hz]) fun b o x => Heap.get?_push_of_some _ (Heap.get?_push_of_some _ x)⟩
end
section
open LCg
variable {w : World} {c : Cx w} {n : Led} {l : Fm}
theorem At.srcEnumT {l1 : Addr} {xs : List Value} {R : Led → Prop} (h1 : (l1, tup xs) ∈ n) (h0 : R n) (hz : xs.length ≤ 100000) :
    At c n l (call (.type "enumerate") [.ref l1]) fun xv s₁ => wpAny (model PR w) c.A (pyIter xv) (PSrc c l xs.length (fun i a b => IV i a ∧ xs[i]? = some b) (fun h => h.IsTuple l1 xs.toArray) R) c.E s₁ := fun h tk H => by
  obtain ⟨m, hid, hV, F, N, O⟩ := H
  have n1 := N _ (List.mem_append_right _ h1)
  have lt1 := Heap.lt_size n1.1
  have i1 : h.IsTuple l1 xs.toArray := Y1_3 _ n1.1 rfl ⟨_, rfl⟩
  have W := (WalksT.enumerateD (drawsT (prog := PR) (w := w) (A := c.A.in1) rfl h.objs.size l1 (Nat.ne_of_lt lt1) xs.toArray) (h.objs.size + 1) (Nat.succ_ne_self _) (by
    have h1 : @LT.lt Nat _ l1 h.objs.size := lt1
    simp only [List.mem_cons, List.not_mem_nil, or_false, not_or]
    exact ⟨Nat.succ_ne_self _, fun e => Nat.lt_irrefl _ (Nat.lt_of_lt_of_le (e ▸ h1 : @LT.lt Nat _ (h.objs.size + 1) h.objs.size) (Nat.le_succ _))⟩) (.head _)).toU
  have small : ∀ k : Nat, k < 2 → @LE.le Nat _ h.objs.size (h.objs.size + k) ∧ @LT.lt Nat _ (h.objs.size + k) (h.objs.size + 2) := fun k hk => ⟨Nat.le_add_right _ _, Nat.add_lt_add_left hk _⟩
  refine call_enumT i1 fun h' hE hI hsz hk => ?_
  refine PSrc.of (io := [h.objs.size + 1, h.objs.size]) (cnt := xs.length) W ?_ hV F N O h0 hk ?_ ?_ ?_ ?_ (Y0_3 ⟨.none, hE⟩ hI (isTuple_at i1 fun o e => hk _ o e)) ?_ ?_
  · rintro i vals zz; refine X2_2 zz ?_; clear zz; rintro t x hx rfl
    exact Y2_2 _ x ⟨⟨t, rfl⟩, by simpa using hx⟩ rfl
  · rw [sizeLine_eq]; lia
  · exact fun b hb => hb
  · intro b hb
    rw [hsz]
    simp only [List.mem_cons, List.not_mem_nil, or_false] at hb
    rcases hb with rfl | rfl
    · exact small 1 (by decide)
    · exact small 0 (by decide)
  · intro b hb
    rw [hsz]
    simp only [List.mem_cons, List.not_mem_nil, or_false] at hb
    rcases hb with rfl | rfl | rfl
    · exact (small 1 (by decide)).2
    · exact (small 0 (by decide)).2
    · exact Nat.lt_of_lt_of_le lt1 (Nat.le_add_right _ _)
  · rintro i g zz; refine X0_3 zz ?_; clear zz; rintro ⟨_, a1⟩ zz; obtain ⟨o2, a2, _⟩ := zz; rintro _; rintro b hb
    simp only [List.mem_cons, List.not_mem_nil, or_false] at hb
    rcases hb with rfl | rfl
    · exact ⟨_, a1⟩
    · exact ⟨_, a2⟩
  · rintro i g g' zz; refine X0_3 zz ?_; clear zz; rintro ⟨_, a1⟩ a2 _; rintro hg s1
    exact Y0_3 ⟨_, hg _ (by simp) _ a1⟩ (a2.at fun o e => hg _ (by simp) o e) s1
end
end
section
section
variable {w : World} {c : Cx w} {n : Led} {l : Fm} {rest : List Stmt} {sc : Scope} {d u : Nat} {b : Bool}
theorem CaG.sum {a : Addr} {vs : List Value} {k : Nat} {ns : List Int} (ha : (a, lstN vs k) ∈ n) (hi : IntsAre vs ns) : CaG c n l (.builtin "sum") [.ref a] fun r n' => IV ns.sum r ∧ n' = n := fun Q kk h tk H => by
  obtain ⟨m, hid, hV, F, N, O⟩ := H
  exact LSm.sum_ints F N rfl (News.isList N (List.mem_append_right _ ha)) hi fun h' tk' t' F' N' => kk _ _ ⟨⟨_, rfl⟩, rfl⟩ h' tk' ⟨m, hid, hV, F', N', O⟩
theorem CaG.bytesL {a : Addr} {vs : List Value} {k : Nat} {ns : List Int} (ha : (a, lstN vs k) ∈ n) (hi : IntsAre vs ns) (hr : KBa.In ns) (hz : ns.length ≤ 1000) : CaG c n l (.type "bytes") [.ref a] fun r n' => (∃ t, r = .bytes (byteArr ns) t) ∧ n' = n := fun Q kk h tk H => by
  obtain ⟨m, hid, hV, F, N, O⟩ := H
  exact KBa.make_K F N rfl (News.isList N (List.mem_append_right _ ha)) hi hr (by lia) fun h' t' k F' N' _ => kk _ _ ⟨⟨_, rfl⟩, rfl⟩ h' k ⟨m, hid, hV, F', N', O⟩
noncomputable def DcQ {w : World} (d : Addr) (Q : Value → Shared → Prop) (vs : List (Value × Value)) (s₁ : Shared) : Prop := KdnMade PR w (KNd w) d Q vs s₁
theorem At.eDict {keys : List (Option PySem.Expr)} {values : List PySem.Expr} {pos : Pos} {Q : Value → Shared → Prop} (k : ∀ d o n', New n n' d o → (d == sysModules) = false → o.IsDictOf (KNd w) [] → At c n' l (evalPairs (pairTrees keys values c.env pos)) (DcQ (w := w) d Q))
    (hall : keys.all (·.isSome) = true := by rfl) (hl : keys.length = values.length := by rfl) (h0 : keys ≠ [] := by exact List.cons_ne_nil _ _) (hlen : keys.length ≤ 15 := by exact Nat.le_of_ble_eq_true rfl) : At c n l (eval (.Dict keys values pos) c.env) Q := fun h tk H => by
  obtain ⟨m, hid, hV, F, N, O⟩ := H
  exact kdn_eval (knd := KNd w) F N c.T.nolimit hall hl h0 hlen fun d h' o F' N' lt hsm hd => k d o _ (New.of fun p hp => lt p (List.mem_append_right _ hp)) hsm hd h' tk (Hp.new hV O F' N' lt)
theorem At.pair0 {pos : Pos} {Q : List (Value × Value) → Shared → Prop} (k : Go c n l Q []) : At c n l (evalPairs (pairTrees [] [] c.env pos)) Q := fun h tk H => evalPairs_nil (k h tk H)
theorem At.pairQ {x : Str} {j : Nat} {p pos : Pos} {keys : List (Option PySem.Expr)} {e : PySem.Expr} {es : List PySem.Expr} {Q : List (Value × Value) → Shared → Prop} (k : ∀ t, At c n l (eval e c.env) fun v s' => wpAny (model PR w) c.A (evalPairs (pairTrees keys es c.env pos)) (fun vs => Q ((.str x t, v) :: vs)) c.E s') :
    At c n l (evalPairs (pairTrees (some (.Constant (.str x) j p) :: keys) (e :: es) c.env pos)) Q := fun h tk H =>
  evalPairs_cons (Constant_str (wpAny_bind (wpAny_mono (k tk h _ H) (fun v s' hq => wpAny_bind (wpAny_standAt (wpAny_pure hq))) fun _ _ x => x)))
theorem At.pairP {x : Str} {j : Nat} {p pos : Pos} {keys : List (Option PySem.Expr)} {e : PySem.Expr} {es : List PySem.Expr} {v : Value} {Q : List (Value × Value) → Shared → Prop} (h1 : EvP c n l e v) (k : ∀ t, At c n l (evalPairs (pairTrees keys es c.env pos)) fun vs => Q ((.str x t, v) :: vs)) :
    At c n l (evalPairs (pairTrees (some (.Constant (.str x) j p) :: keys) (e :: es) c.env pos)) Q := .pairQ fun t => h1 _ (k t)
theorem Go.dct {d : Addr} {o : Obj} {vs : List (Value × Value)} {Q : Value → Shared → Prop} (hm : (d, o) ∈ n) (hd : o.IsDictOf (KNd w) []) (hk : allStrKeys vs = true) (hn : ((strPairs vs).map (·.1)).Nodup) (k : ∀ n' o', Mut n n' d o' → o'.IsDictOf (KNd w) (strPairs vs) → Go c n' l Q (.ref d)) : Go c n l (DcQ (w := w) d Q) vs := fun h tk H => by
  obtain ⟨m, hid, hV, F, N, O⟩ := H
  have hN := N _ (List.mem_append_right _ hm)
  refine display_done_str hk hn (Heap.dictOf_iff.mpr (Y1_2 o hN.1 hd)) fun h' hmm hs => ?_
  refine X1_2 (Heap.dictOf_iff.mp hmm) fun o' ho' hd' => ?_
  refine k (setL n d o') o' Mut.of hd' h' _ (Hp.mut hV O (F.change hs hN.2.1 hN.2.2) hm fun p hp => ?_)
  rcases List.mem_cons.mp hp with rfl | hp
  · exact ⟨ho', hN.2⟩
  · have z := front_ne p hp
    have y := N p (List.mem_filter.mp hp).1
    exact ⟨hs.extBut _ _ z y.1, y.2⟩
theorem New.mut {n n1 n2 : Led} {a : Addr} {o o' : Obj} (h : New n n1 a o) (M : Mut n1 n2 a o') : New n n2 a o' := ⟨M.mem, fun q hq => M.sub q (h.sub q hq) (h.ne q hq), h.ne⟩
structure Gr (w : World) (n k : Led) (da ca : Addr) (cs : List Value) (tl : Led) : Prop where
  at_ : DkAt w k da ca cs
  sub : ∀ q ∈ n, @Ne Nat q.1 da → q ∈ k
  new : ∀ q ∈ tl, q ∈ k
  ap : Apart n tl
  ne : ∀ q ∈ tl, @Ne Nat q.1 da
variable {k k' : Led} {da ca : Addr} {cs : List Value} {tl tl' : Led}
theorem Gr.refl (h : DkAt w n da ca cs) : Gr w n n da ca cs [] := ⟨h, fun _ h _ => h, fun _ h => (nomatch h), Apart.nil, fun _ h => (nomatch h)⟩
theorem Gr.grow (h : Gr w n k da ca cs tl) (hs : ∀ q ∈ k, q ∈ k') : Gr w n k' da ca cs tl := ⟨h.at_.sub hs, fun q hq hn => hs q (h.sub q hq hn), fun q hq => hs q (h.new q hq), h.ap, h.ne⟩
theorem Gr.mk1 {a : Addr} {o : Obj} (h : Gr w n k da ca cs tl) (N : New k k' a o) : Gr w n k' da ca cs ((a, o) :: tl) := by
  refine X1_2 h.at_.dk fun o1 ho _ => ?_
  have hne := N.ne _ ho
  refine ⟨h.at_.sub N.sub, fun q hq hn => N.sub q (h.sub q hq hn), fun q hq => ?_, h.ap.cons fun q hq => ?_, fun q hq => ?_⟩
  · rcases List.mem_cons.mp hq with rfl | hq
    · exact N.mem
    · exact N.sub q (h.new q hq)
  · by_cases e : q.1 = da
    · rw [e]; exact hne
    · exact N.ne q (h.sub q hq e)
  · rcases List.mem_cons.mp hq with rfl | hq
    · exact Ne.symm hne
    · exact h.ne q hq
theorem Gr.draw (h : Gr w n k da ca cs tl) (T : DkT w k k' da ca cs) : Gr w n k' da ca cs tl := ⟨T.at_, fun q hq hn => T.sub q (h.sub q hq hn) hn, fun q hq => T.sub q (h.new q hq) (h.ne q hq), h.ap, h.ne⟩
theorem Gr.app (h : Gr w n k da ca cs tl) (h' : Gr w k k' da ca cs tl') : Gr w n k' da ca cs (tl ++ tl') := by
  refine X1_2 h.at_.dk fun o1 ho _ => ?_
  refine ⟨h'.at_, fun q hq hn => h'.sub q (h.sub q hq hn) hn, fun q hq => ?_, h.ap.app fun q hq p hp => ?_, fun q hq => ?_⟩
  · rcases List.mem_append.mp hq with hq | hq
    · exact h'.sub q (h.new q hq) (h.ne q hq)
    · exact h'.new q hq
  · by_cases e : q.1 = da
    · rw [e]; exact h'.ap _ ho p hp
    · exact h'.ap q (h.sub q hq e) p hp
  · rcases List.mem_append.mp hq with hq | hq
    · exact h.ne q hq
    · exact h'.ne q hq
end
end
section
noncomputable abbrev frD (dk nm dp mk pt fl mn wy ct od : Option Value) : Fm := [(Str.ofString "deck", dk), (Str.ofString "name", nm), (Str.ofString "deep", dp), (Str.ofString "mask", mk), (Str.ofString "parts", pt), (Str.ofString "files", fl), (Str.ofString "many", mn), (Str.ofString "way", wy), (Str.ofString "count", ct), (Str.ofString "oid", od)]
noncomputable def nms : List Bs := [[97], [99], [97, 98]]
theorem Fold.Ok.many {d : Nat} {p : Fold} (h : Fold.Ok d p) : 0 ≤ p.many ∧ p.many ≤ 2 * (nodes d : Int) := by
  obtain ⟨n, c, o, ps, fs, m⟩ := p
  rw [Fold.Ok_eq] at h
  exact ⟨h.2.2.2.2.2.2.2.2.2.1, h.2.2.2.2.2.2.2.2.2.2.1⟩
theorem sum_many {K : Int} : ∀ {ps : List Fold}, (∀ p ∈ ps, 0 ≤ p.many ∧ p.many ≤ K) → 0 ≤ (ps.map Fold.many).sum ∧ (ps.map Fold.many).sum ≤ ps.length * K
  | [], _ => by simp
  | p :: r, h => by
    have h1 := h p (.head _)
    have h2 := sum_many (ps := r) fun q hq => h q (.tail _ hq)
    rw [List.map_cons, List.sum_cons, List.length_cons]
    have e : ((r.length + 1 : Nat) : Int) * K = r.length * K + K := by rw [Int.natCast_add, Int.add_mul]; simp
    rw [e]
    omega
theorem ok_mk {d : Nat} {b : Bs} {cnt many : Int} {o : Option Bs} {ps : List Fold} {fs : List Bs} (hb : b.length ≤ 2) (h0 : (0 : UInt8) ∉ b) (h47 : (47 : UInt8) ∉ b) (hc : cnt = many ∨ cnt = -1 ∨ cnt = many + 1) (ho : cnt < 0 → o = none) (ho' : 0 ≤ cnt → ∃ x, o = some [x, 0, 10, 32])
    (hs : (ps.map Fold.name).Sublist nms) (hf : fs = [] ∨ fs = [[98, 46, 120]] ∨ fs = [[98, 46, 120], [102]]) (hm : many = fs.length + (ps.map Fold.many).sum) (hp : ∀ p ∈ ps, ∃ e, d = e + 1 ∧ Fold.Ok e p) : Fold.Ok d (.mk b cnt o ps fs many) := by
  have hl : ps.length ≤ 3 := by have := hs.length_le; simpa [nms] using this
  have hfl : fs.length ≤ 2 := by rcases hf with rfl | rfl | rfl <;> simp
  have hmb : 0 ≤ many ∧ many ≤ 2 * (nodes d : Int) := by
    cases d with
    | zero =>
      have : ps = [] := by
        cases ps with
        | nil => rfl
        | cons p r => refine X1_2 (hp p (.head _)) fun e he _ => ?_; lia
      subst this
      simp [nodes] at hm ⊢
      lia
    | succ e =>
      have hs := sum_many (K := 2 * (nodes e : Int)) fun p h => by
        refine X1_2 (hp p h) fun e' he hok => ?_
        obtain rfl : e' = e := by lia
        exact hok.many
      have hn : (nodes (e + 1) : Int) = 1 + 3 * nodes e := by simp [nodes]
      have : (ps.length : Int) * (2 * (nodes e : Int)) ≤ 3 * (2 * (nodes e : Int)) := Int.mul_le_mul_of_nonneg_right (by lia) (by lia)
      omega
  rw [Fold.Ok_eq]
  refine Y0_12 hb h0 h47 (by lia) (by lia) ho ho' hs hf hmb.1 hmb.2 ?_
  cases d with
  | zero =>
    show ps = []
    cases ps with
    | nil => rfl
    | cons p r => refine X1_2 (hp p (.head _)) fun e he _ => ?_; omega
  | succ e =>
    show ∀ p ∈ ps, Fold.Ok e p
    intro p h
    refine X1_2 (hp p h) fun e' he hok => ?_
    obtain rfl : e' = e := by omega
    exact hok
theorem files_cut {v1 v2 : Value} {x : Int} (h1 : BW [98, 46, 120] v1) (h2 : BW [102] v2) (h0 : 0 ≤ x) (h3 : x < 3) : ∃ fs, (fs = [] ∨ fs = [[98, 46, 120]] ∨ fs = [[98, 46, 120], [102]]) ∧ BVs (kms_pick [v1, v2] none (some x)) fs := by
  rcases (by lia : x = 0 ∨ x = 1 ∨ x = 2) with rfl | rfl | rfl
  · exact Y1_2 [] (.inl rfl) (by show BVs [] []; trivial)
  · exact Y1_2 _ (.inr (.inl rfl)) (by show BVs [v1] _; show _ ∧ _; exact ⟨h1, trivial⟩)
  · exact Y1_2 _ (.inr (.inr rfl)) (by show BVs [v1, v2] _; show _ ∧ _; exact ⟨h1, by show _ ∧ _; exact ⟨h2, trivial⟩⟩)
structure PtJ (w : World) (n : Led) (da ca : Addr) (cs : List Value) (d : Nat) (z : Addr × List Value) (i : Nat) (ys : List Value) (k tl : Led) (ps : List Fold) : Prop where
  gr : Gr w n k da ca cs tl
  tp : (z.1, tup z.2) ∈ tl
  bv : BVs z.2 nms
  fo : FoldsIn w tl ys ps
  sl : (ps.map Fold.name).Sublist (nms.take i)
  ok : ∀ p ∈ ps, ∃ e, d = e + 1 ∧ Fold.Ok e p
theorem folder_L : ∀ (d : Nat) {w : World} {c : Cx w} {n : Led} {l : Fm} {da ca : Addr} {cs : List Value} {b : Bs} {tb td : Tok} (_ : d ≤ 2) (_ : c.dp + d + 3 < recursionLimit) (_ : DkAt w n da ca cs) (_ : b.length ≤ 2) (_ : (0 : UInt8) ∉ b) (_ : (47 : UInt8) ∉ b),
    CaG c n l (.ref 306) [.ref da, .bytes b.toArray tb, .int d td] fun r n' => ∃ t tl, Fold.Ok d t ∧ t.name = b ∧ Gr w n n' da ca cs tl ∧ FoldIn w tl r t := by
  intro d
  induction d using Nat.strongRecOn with
  | _ d ih =>
  intro w c n l da ca cs b tb td hd hroom hD hb h0 h47 Q kk
  refine At.enter (by exact rfl) (by lia) [Str.ofString "deck", Str.ofString "name", Str.ofString "deep"] [Str.ofString "mask", Str.ofString "parts", Str.ofString "files", Str.ofString "many", Str.ofString "way", Str.ofString "count", Str.ofString "oid"] (frD (some (.ref da)) (some (.bytes b.toArray tb)) (some (.int d td)) none none none none none none none) fun c' RQ hI => ?_
  have hw := hI.wk
  refine .assignG hw (R := fun v k => Gr w n k da ca cs [] ∧ ∃ m, IV m v ∧ (d = 0 → m = 0)) (fun Q2 k2 => .ifE (p := 0 < (d : Int)) (.cmp (EvP.r (P := IV d) (.name rfl) ⟨_, rfl⟩) .int fun a b ha hb => .iGt ha hb) (fun hp => ?_) fun hp => EvR.int _ fun v hv => k2 _ _ ⟨Gr.refl hD, Y1_2 0 hv (fun _ => rfl)⟩) fun mv k1 hk1 => ?_
  · refine .eCall (.glob hw rfl) (.ref rfl) <| .argP (.name rfl) <| .argR .int fun kv hkv => .arg0 <| .cq ?_
    obtain ⟨t, rfl⟩ := hkv
    refine draw_L (by rw [hw.dp]; lia) hD (by decide) _ fun r k hr => k2 _ _ ?_
    obtain ⟨⟨x, hx, _⟩, hT⟩ := hr
    exact ⟨(Gr.refl hD).draw hT, Y1_2 x hx (fun e => by lia)⟩
  refine X0_2 hk1 ?_; clear hk1; rintro hg1 zz; obtain ⟨m, hm, hm0⟩ := zz
  refine At.asgPair (cnt := 3) (α := Addr × List Value) (val := fun z i a b => IV i a ∧ z.2[i]? = some b) (Sk := fun z h => h.IsTuple z.1 z.2.toArray) hw (fun z i ys k => ∃ tl ps, PtJ w n da ca cs d z i ys k tl ps) ?_ ?_ ?_ ?_
  · refine .eCall (.blt hw rfl (by boot_fast)) .typ <| .argQ <| .eTup <| .argR .bytes fun v1 h1 => .argR .bytes fun v2 h2 => .argR .bytes fun v3 h3 => At.arg0 <| At.newTup fun T k hT => At.arg0 <| Go.cq <| At.srcEx (T, [v1, v2, v3]) (At.srcEnumT hT.mem ?_ (Nat.le_of_ble_eq_true rfl))
    exact ⟨_, [], hg1.mk1 hT, .head _, by show BVs [v1, v2, v3] _; show _ ∧ _; exact ⟨h1, by show _ ∧ _; exact ⟨h2, by show _ ∧ _; exact ⟨h3, trivial⟩⟩⟩, trivial, .slnil, fun _ h => (nomatch h)⟩
  · rintro z i ys k m hid h zz; refine X2_1 zz ?_; clear zz; rintro tl ps J; rintro F N
    exact Y1_3 _ ((N _ (List.mem_append_right _ (J.gr.new _ J.tp))).1) rfl ⟨_, rfl⟩
  · rintro z i a b' ys k c2 hi ⟨ha, hb'⟩ zz; refine X2_1 zz ?_; clear zz; rintro tl ps J; rintro hw2
    refine X1_2 (bvs_get J.bv hb') ?_; rintro b2 hb2 ⟨tb2, rfl⟩
    have h2i : ((2 : Int) ^ ((i : Int).toNat)) ≠ 0 ∧ ((2 : Int) ^ ((i : Int).toNat)).natAbs < 1073741824 := by
      rcases (by lia : i = 0 ∨ i = 1 ∨ i = 2) with rfl | rfl | rfl <;> decide
    have htk : nms.take (i + 1) = nms.take i ++ [b2] := by rw [List.take_add_one, hb2]; rfl
    refine Y1_3 ((m.fdiv ((2 : Int) ^ ((i : Int).toNat))).fmod 2 = 1) (.one (.cmp (.ifmod (.ifdiv (EvP.r (P := IV m) (.name rfl) hm) (.ipow .int (EvP.r (P := IV i) (.name rfl) ha) (by lia) (by lia) (by decide)) h2i.1 h2i.2) .int (by decide)) .int fun a b ha hb => .iEq ha hb)) (fun hp Q2 k2 => ?_) (fun _ => ⟨tl, ps, J.gr, J.tp, J.bv, J.fo, by rw [htk]; exact J.sl.trans (List.sublist_append_left _ _), J.ok⟩)
    have hb3 : b2 = [97] ∨ b2 = [99] ∨ b2 = [97, 98] := by
      have := List.mem_of_getElem? hb2
      simpa [nms] using this
    cases d with
    | zero => rw [hm0 rfl] at hp; simp at hp
    | succ e =>
    refine At.eCall (.glob hw2 rfl) (.ref rfl) <| At.argP (.name rfl) <| At.argP (.name rfl) <| At.argR (.isub (EvP.r (P := IV ((e + 1 : Nat) : Int)) (.name rfl) ⟨_, rfl⟩) .int) fun kv hkv => At.arg0 <| Go.cq ?_
    obtain ⟨t, rfl⟩ := hkv
    rw [show ((e + 1 : Nat) : Int) - 1 = (e : Int) by lia]
    refine ih e (Nat.lt_succ_self _) (by lia) (by rw [hw2.dp]; lia) J.gr.at_ (by rcases hb3 with h | h | h <;> rw [h] <;> decide) (by rcases hb3 with h | h | h <;> rw [h] <;> decide) (no47 hb3) _ fun r k' hr => k2 _ _ ?_
    refine X2_4 hr ?_; clear hr; rintro t' tl' q1 q2 q3 q4
    refine ⟨tl ++ tl', ps ++ [t'], J.gr.app q3, List.mem_append_left _ J.tp, J.bv, folds_snoc (J.fo.mono in_l) (q4.mono in_r), ?_, fun p hp => ?_⟩
    · rw [htk, List.map_append]
      refine List.Sublist.append J.sl ?_
      show [t'.name].Sublist [b2]
      rw [q2]
      exact List.Sublist.refl _
    · rcases List.mem_append.mp hp with hp | hp
      · exact J.ok p hp
      · rw [List.mem_singleton.mp hp]; exact Y1_2 e rfl q1
  rintro z D ys k2 k3 zz; refine X2_1 zz ?_; clear zz; rintro tl ps J; rintro hN3
  have hyl := folds_len J.fo
  have hpl : ps.length ≤ 3 := by have := J.sl.length_le; simp [nms] at this; omega
  have g3 := J.gr.mk1 hN3
  refine .assignQ <| .cutG <| .eList <| .argR .bytes fun v1 h1 => .argR .bytes fun v2 h2 => At.arg0 <| At.newLst fun L1 k4 hL => PE.none _ fun vl pl => ?_
  refine (show At c' k4 _ (eval _ c'.env) _ from At.eCall (.glob hw rfl) (.ref rfl) <| At.argP (.name rfl) <| At.argR .int fun kv hkv => At.arg0 <| Go.cq ?_)
  obtain ⟨t, rfl⟩ := hkv
  refine draw_L (by rw [hw.dp]; lia) (g3.at_.sub hL.sub) (by decide) _ fun r k5 hr => ?_
  obtain ⟨⟨x, ⟨tx, rfl⟩, hx0, hx3⟩, hT⟩ := hr
  have g4 := (g3.mk1 hL).draw hT
  refine Go.cut (g4.new _ (.head _)) pl (.int _ _) (Nat.le_of_ble_eq_true rfl) fun FL k6 hFL => Go.aq hw ?_
  refine X1_2 (files_cut h1 h2 hx0 hx3) fun fs hfs hB => ?_
  generalize kms_pick [v1, v2] none (some x) = ws at hFL hB
  have hwl := bvs_len hB
  have hfl : fs.length ≤ 2 := by rcases hfs with rfl | rfl | rfl <;> simp
  have g6 := g4.mk1 hFL
  refine At.swapQ (xs := [Str.ofString "many", Str.ofString "way"]) hw <| .eTup <| .argQ <| .eBin ?_
  refine (EvR.lenL hw (.name rfl) (g6.new _ (.head _)) (by lia) : EvR c' k6 _ _ _) _ fun lv hlv => ?_
  refine At.eCall (.blt hw rfl (by boot_fast)) .blt <| At.argQ <| At.eComp hw (.name rfl) (g6.new _ (.tail _ (.tail _ (.head _)))) (by lia) (fun i ys k => (∀ q ∈ k6, q ∈ k) ∧ IntsAre ys ((ps.take i).map Fold.many)) ⟨fun _ h => h, .nil⟩ (fun i ys k h => h.1 _ (g6.new _ (.tail _ (.tail _ (.head _))))) (fun i v ys k c2 hv hj hw2 => ?_) fun SD ys2 k7 k8 hj hSD => ?_
  · refine X1_2 (folds_get J.fo hv) ?_; rintro ⟨nm3, cn3, od3, ps3, fs3, m3⟩ hpi hpf
    refine (hpf.mono fun q hq => hj.1 q (g6.new q (.tail _ (.tail _ (.tail _ hq))))).open ?_
    intro a3 ob3 tn3 vo3 pl3 fl3 t3 t4 vs3 ws3 i3 j3 e f1 f2 f3 f4 f5 f6 f7 f8 f9 f10
    subst e
    refine (EvP.skey (.name rfl) f1 f3 rfl : EvP c2 k _ _ (.int m3 t4)).g ⟨hj.1, ?_⟩
    rw [List.take_add_one, hpi, List.map_append]
    exact hj.2.append (.cons m3 t4 .nil)
  rw [hyl, List.take_length] at hj
  have g8 := (g6.grow hj.1).mk1 hSD
  refine At.arg0 <| Go.cq <| CaG.sum hSD.mem hj.2 _ fun sv k9 hs => ?_
  obtain ⟨hsv, rfl⟩ := hs
  refine Go.iadd hlv hsv fun mv2 hmv => At.argQ <| At.eCall (.glob hw rfl) (.ref rfl) <| At.argP (.name rfl) <| At.argR .int fun kv hkv => At.arg0 <| Go.cq ?_
  obtain ⟨t, rfl⟩ := hkv
  refine draw_L (by rw [hw.dp]; lia) g8.at_ (by decide) _ fun wv k10 hr => ?_
  obtain ⟨⟨wy, hwy, _⟩, hT2⟩ := hr
  have g10 := g8.draw hT2
  refine At.arg0 <| At.newTup fun T2 k11 hT11 => Go.swp2 hw hT11.mem ?_
  have g11 := g10.mk1 hT11
  generalize hmn : (ws.length : Int) + (ps.map Fold.many).sum = many at hmv
  refine .assignR hw (P := IV (if wy < 4 then many else if wy = 4 then -1 else many + 1)) (.ifE (.cmp (EvP.r (P := IV wy) (.name rfl) hwy) .int fun a b ha hb => .iLt ha hb) (fun h => by rw [if_pos h]; exact EvP.r (.name rfl) hmv) fun h => by rw [if_neg h]; exact .ifE (.cmp (EvP.r (P := IV wy) (.name rfl) hwy) .int fun a b ha hb => .iEq ha hb) (fun h => by rw [if_pos h]; exact .neg .int) fun h => by rw [if_neg h]; exact .iadd (EvP.r (P := IV many) (.name rfl) hmv) .int) fun cv hcv => ?_
  have hcnt : (if wy < 4 then many else if wy = 4 then -1 else many + 1) = many ∨ (if wy < 4 then many else if wy = 4 then -1 else many + 1) = -1 ∨ (if wy < 4 then many else if wy = 4 then -1 else many + 1) = many + 1 := by
    split
    · exact .inl rfl
    · split
      · exact .inr (.inl rfl)
      · exact .inr (.inr rfl)
  generalize (if wy < 4 then many else if wy = 4 then -1 else many + 1) = cnt at hcv hcnt
  refine .assignG hw (R := fun v k => DkT w k11 k da ca cs ∧ ∃ o, OV v o ∧ (cnt < 0 → o = none) ∧ (0 ≤ cnt → ∃ x, o = some [x, 0, 10, 32])) (fun Q2 k2 => .ifE (p := 0 ≤ cnt) (.cmp (EvP.r (P := IV cnt) (.name rfl) hcv) .int fun a b ha hb => .iGe ha hb) (fun hp => ?_) fun hp => EvP.none _ (k2 _ _ ⟨⟨g11.at_, fun _ h _ => h⟩, Y1_3 none rfl (fun _ => rfl) (fun h => absurd h hp)⟩)) fun ov k12 hk12 => ?_
  · refine .eCall (.blt hw rfl (by boot_fast)) .typ <| .argQ <| .eList <| .argQ <| .eCall (.glob hw rfl) (.ref rfl) <| .argP (.name rfl) <| .argR .int fun kv hkv => .arg0 <| .cq ?_
    obtain ⟨t, rfl⟩ := hkv
    refine draw_L (by rw [hw.dp]; lia) g11.at_ (by decide) _ fun r k hr => ?_
    obtain ⟨⟨x, ⟨tx, rfl⟩, hx0, hx1⟩, hT⟩ := hr
    refine At.argR .int fun a1 e1 => At.argR .int fun a2 e2 => At.argR .int fun a3 e3 => At.arg0 ?_
    obtain ⟨t1, rfl⟩ := e1
    obtain ⟨t2, rfl⟩ := e2
    obtain ⟨t3, rfl⟩ := e3
    refine At.newLst fun LL k' hLL => At.arg0 <| Go.cq <| CaG.bytesL hLL.mem (.cons x tx (.cons 0 t1 (.cons 10 t2 (.cons 32 t3 .nil)))) (fun z hz => ?_) (Nat.le_of_ble_eq_true rfl) _ fun r k'' hr => ?_
    · simp only [List.mem_cons, List.not_mem_nil, or_false] at hz
      rcases hz with rfl | rfl | rfl | rfl <;> lia
    · obtain ⟨⟨t4, rfl⟩, rfl⟩ := hr
      exact k2 _ _ ⟨⟨hT.at_.sub hLL.sub, fun q hq hn => hLL.sub q (hT.sub q hq hn)⟩, Y1_3 (some [x.toNat.toUInt8, 0, 10, 32]) ⟨t4, rfl⟩ (fun h => absurd hp (by lia)) (fun _ => ⟨_, rfl⟩)⟩
  refine X0_2 hk12 ?_; clear hk12; rintro hT12 zz; obtain ⟨o, hov, ho1, ho2⟩ := zz
  have g12 := g11.draw hT12
  obtain ⟨tmn, rfl⟩ := hmv
  obtain ⟨tcn, rfl⟩ := hcv
  refine .retQ <| .eDict fun dd ob k13 hN13 hsm hob => .pairP (.name rfl) fun u1 => .pairP (.name rfl) fun u2 => .pairP (.name rfl) fun u3 => .pairP (.name rfl) fun u4 => .pairP (.name rfl) fun u5 => .pairP (.name rfl) fun u6 => .pair0 <| Go.dct hN13.mem hob rfl (show [Str.ofString "name", Str.ofString "count", Str.ofString "oid", Str.ofString "parts", Str.ofString "files", Str.ofString "many"].Nodup by decide +kernel) fun k14 ob' M hob' => hI.ret _ _ _ (kk _ _ (Y2_4 (.mk b cnt o ps fs many) _ (ok_mk hb h0 h47 hcnt ho1 ho2 ?_ hfs ?_ J.ok) rfl (g12.mk1 (hN13.mut M)) ?_))
  · have := J.sl
    rwa [show nms.take 3 = nms from rfl] at this
  · rw [← hmn, hwl]
  · show Exists _
    refine Y12_11 dd ob' tb ov D FL tcn tmn ys ws _ _ rfl (.head _) hsm hob' hov (.tail _ (.tail _ (.tail _ (.tail _ (.tail _ (.head _)))))) (.tail _ (.tail _ (.tail _ (.head _)))) (J.fo.mono fun q hq => .tail _ (.tail _ (.tail _ (.tail _ (.tail _ (.tail _ hq)))))) hB (by lia) (by lia)
end
section
theorem Ext.mkN {w : World} {n n1 n2 tl : Led} {x d : Addr} {o : Obj} (h1 : Ext n n1 tl) (h2 : NewN w n1 n2 x d o) : Ext n n2 ((x, instObj 207 d) :: (d, o) :: tl) :=
  ⟨fun q h => h2.sub q (h1.sub q h), fun q h => by
    rcases List.mem_cons.mp h with rfl | h
    · exact h2.m1
    · rcases List.mem_cons.mp h with rfl | h
      · exact h2.m2
      · exact h2.sub q (h1.new q h), (h1.apart.cons fun q hq => h2.nd q (h1.sub q hq)).cons fun q hq => h2.nx q (h1.sub q hq)⟩
theorem tree_L : ∀ (t : Fold) {w : World} {c : Cx w} {n : Led} {l : Fm} {v : Value}, c.dp + t.tree.ht + 1 < recursionLimit → FoldIn w n v t → CaG c n l (.ref 311) [v] fun r n' => ∃ tl, Ext n n' tl ∧ TreeIn w tl r t.tree := by
  intro t
  induction t using Fold.ind with
  | h nm cn o ps fs mm ih =>
  intro w c n l v hroom ht Q k
  rw [Fold.tree, Tree.ht] at hroom
  refine ht.open ?_
  intro a ob tn vo pl fl t1 t2 vs ws i j e h1 h2 h3 h4 h5 h6 h7 h8 h9 h10
  subst e
  refine At.enter (by exact rfl) (by lia) [Str.ofString "folder"] [] [(Str.ofString "folder", some (.ref a))] fun c' RQ hI => ?_
  refine .retQ <| .eCall (.glob hI.wk rfl) (.ref rfl) <| .argP (.skey (.name rfl) h1 h3 rfl) <| .argP (.skey (.name rfl) h1 h3 rfl) <| .argP (.skey (.name rfl) h1 h3 rfl) <| .argQ <|
    .eComp hI.wk (.skey (.name rfl) h1 h3 rfl) h5 h9 (fun i ys n' => ∃ tl, Ext n n' tl ∧ TreesIn w tl ys (Fold.trees (ps.take i))) (Y1_2 [] .rfl' True.intro) (fun i ys n' h => h.elim fun _ h => h.1.sub _ h5) (fun i v ys n' c2 hv hj hw2 Q2 k2 => ?_) fun D ys n₀ n' hj hN => At.arg0 <| Go.cq <| At.mk (by rw [hI.wk.dp]; lia) fun x d q1 q2 q3 q4 n'' hM => hI.ret _ _ _ (k _ _ ?_)
  · refine X1_2 hj ?_; clear hj; rintro tl hE hT
    refine X1_2 (folds_get h7 hv) fun t ht hin => ?_
    have hlt := Tree.ht_le (ps := Fold.trees ps) (q := t.tree) (trees_mem (List.mem_of_getElem? ht))
    refine At.eCall (.glob hw2 rfl) (.ref rfl) <| At.argP (.name rfl) <| At.arg0 <| Go.cq <| ih t (List.mem_of_getElem? ht) (by rw [hw2.dp]; lia) (hin.mono hE.sub) _ fun r n1 hr => k2 _ _ ?_
    refine X1_2 hr ?_; clear hr; rintro tl2 hE2 hr
    refine Y1_2 _ (hE.trans hE2) ?_
    rw [List.take_add_one, ht, trees_app]
    exact trees_snoc (hT.mono in_l) (hr.mono in_r)
  · refine X1_2 hj ?_; clear hj; rintro tl hE hT
    rw [folds_len h7, List.take_length] at hT
    refine Y1_2 _ ((hE.mk1 hN).mkN hM) ?_
    rw [Fold.tree]
    show Exists _
    exact Y12_7 x d tn vo D q1 q2 q3 q4 t1 ys _ rfl (.head _) (.tail _ (.head _)) h4 (.tail _ (.tail _ (.head _))) (hT.mono fun q hq => .tail _ (.tail _ (.tail _ hq))) (by rw [trees_len hT, ← trees_length, ← folds_len h7]; exact h9)
theorem plain_L : ∀ (t : Fold) {w : World} {c : Cx w} {n : Led} {l : Fm} {v : Value}, c.dp + t.tree.ht < recursionLimit → FoldIn w n v t → CaG c n l (.ref 343) [v] fun r n' => ∃ tl, Ext n n' tl ∧ ToldIn tl r t.tree := by
  intro t
  induction t using Fold.ind with
  | h nm cn o ps fs mm ih =>
  intro w c n l v hroom ht Q k
  rw [Fold.tree, Tree.ht] at hroom
  refine ht.open ?_
  intro a ob tn vo pl fl t1 t2 vs ws i j e h1 h2 h3 h4 h5 h6 h7 h8 h9 h10
  subst e
  refine At.enter (by exact rfl) (by lia) [Str.ofString "folder"] [] [(Str.ofString "folder", some (.ref a))] fun c' RQ hI => ?_
  refine .retQ <| .eTup <| .argP (.skey (.name rfl) h1 h3 rfl) <| .argP (.skey (.name rfl) h1 h3 rfl) <| .argP (.skey (.name rfl) h1 h3 rfl) <| .argQ <|
    .eComp hI.wk (.skey (.name rfl) h1 h3 rfl) h5 h9 (fun i ys n' => ∃ tl, Ext n n' tl ∧ ToldsIn tl ys (Fold.trees (ps.take i))) (Y1_2 [] .rfl' True.intro) (fun i ys n' h => h.elim fun _ h => h.1.sub _ h5) (fun i v ys n' c2 hv hj hw2 Q2 k2 => ?_) fun D ys n₀ n' hj hN => At.arg0 <| At.newTup fun R n'' hR => hI.ret _ _ _ (k _ _ ?_)
  · refine X1_2 hj ?_; clear hj; rintro tl hE hT
    refine X1_2 (folds_get h7 hv) fun t ht hin => ?_
    have hlt := Tree.ht_le (ps := Fold.trees ps) (q := t.tree) (trees_mem (List.mem_of_getElem? ht))
    refine At.eCall (.glob hw2 rfl) (.ref rfl) <| At.argP (.name rfl) <| At.arg0 <| Go.cq <| ih t (List.mem_of_getElem? ht) (by rw [hw2.dp]; lia) (hin.mono hE.sub) _ fun r n1 hr => k2 _ _ ?_
    refine X1_2 hr ?_; clear hr; rintro tl2 hE2 hr
    refine Y1_2 _ (hE.trans hE2) ?_
    rw [List.take_add_one, ht, trees_app]
    exact tolds_snoc (hT.mono in_l) (hr.mono in_r)
  · refine X1_2 hj ?_; clear hj; rintro tl hE hT
    rw [folds_len h7, List.take_length] at hT
    refine Y1_2 _ ((hE.mk1 hN).mk1 hR) ?_
    rw [Fold.tree]
    show Exists _
    exact Y7_6 R tn vo D t1 ys _ rfl (.head _) h4 (.tail _ (.head _)) (hT.mono fun q hq => .tail _ (.tail _ hq)) (by rw [tolds_len hT, ← trees_length, ← folds_len h7]; exact h9)
end
section
section
variable {w : World} {c : Cx w} {n : Led} {l : Fm} {rest : List Stmt} {sc : Scope} {d u : Nat} {b : Bool}
theorem Tst.chain {e1 e2 e3 : PySem.Expr} {o1 o2 : CmpOp} {pos : Pos} {P1 P2 P3 : Value → Prop} {p q : Prop} (h1 : EvR c n l e1 P1) (h2 : EvR c n l e2 P2) (h3 : EvR c n l e3 P3) (hc1 : ∀ a b, P1 a → P2 b → Cmp o1 a b p) (hc2 : ∀ a b, P2 a → P3 b → Cmp o2 a b q)
    (hm : lastMarks [o1, o2] [e2, e3] = false := by with_unfolding_all rfl) : Tst c n l (.Compare e1 [o1, o2] [e2, e3] pos) (p ∧ q) := fun Q k1 k2 h tk H => by
  refine isTrue_chain (h1 _ (fun a ha h tk H => test_link (h2 _ (fun b hb h tk H => hc1 a b ha hb _ _ _ _ _ _ fun x hx => wpAny_truthy_bool ?_) h tk H)) h tk H) hm
  cases x with
  | true =>
    refine ite_tt (test_last (h3 _ (fun v hv h tk H => hc2 b v hb hv _ _ _ _ _ _ fun y hy => wpAny_truthy_bool ?_) h tk H))
    cases y with
    | true => exact k1 ⟨hx.mp rfl, hy.mp rfl⟩ h tk H
    | false => exact k2 (fun hp => nomatch hy.mpr hp.2) h tk H
  | false => exact ite_ff (k2 (fun hp => nomatch hx.mpr hp.1) h tk H)
theorem Cmp.iLe {x y : Int} {a b : Value} (ha : IV x a) (hb : IV y b) : Cmp .LtE a b (x ≤ y) := fun _ _ _ _ _ _ k => by obtain ⟨t, rfl⟩ := ha; obtain ⟨t', rfl⟩ := hb; exact P.le_int (k _ (by simp))
theorem Tst.or3 {e1 e2 e3 : PySem.Expr} {pos : Pos} {p q r : Prop} (h1 : Tst c n l e1 p) (h2 : ¬ p → Tst c n l e2 q) (h3 : ¬ p → ¬ q → Tst c n l e3 r) : Tst c n l (.BoolOp .Or [e1, e2, e3] pos) (p ∨ q ∨ r) := fun Q k1 k2 h tk H =>
  isTrue_or (h1 (fun b s' => if b = true then Q true s' else wpAny (model PR w) c.A (isTrue (.BoolOp .Or [e2, e3] pos) c.env (eval (.BoolOp .Or [e2, e3] pos) c.env)) Q c.E s')
    (fun hp h tk H => ite_tt (k1 (.inl hp) h tk H))
    (fun hp h tk H => ite_ff (Tst.or2 (h2 hp) (h3 hp) Q (fun hq => k1 (.inr hq)) (fun hq => k2 fun x => x.elim hp hq) h tk H)) h tk H)
theorem EvR.itemB {value slice : PySem.Expr} {pos : Pos} {x : Bs} {i : Int} (hv : EvR c n l value (BW x)) (hi : EvR c n l slice (IV i)) (h0 : 0 ≤ i) (h1 : i < (x.length : Int)) (hz : x.length ≤ 100000)
    (hs : ∀ o j, subscripted slice false o j = operate [o, j] (getItem o j) := by intro _ _; rfl) (ht : ∀ o t r, letTemporaryGo value (.bytes o t) r = pure () := by intro _ _ _; with_unfolding_all rfl) : EvR c n l (.Subscript value slice pos) (IV (((x.getD i.toNat 0).toNat : Nat) : Int)) := fun Q kk h tk H =>
  Subscript_ (hv _ (fun o ho h tk H => hi _ (fun j hj h tk H => by
    obtain ⟨t, rfl⟩ := ho
    obtain ⟨t', rfl⟩ := hj
    exact bytes_item_K (by lia) h0 h1 rfl (kk _ ⟨_, rfl⟩ h _ H) (hs _ _) (ht _ _)) h tk H) h tk H)
end
noncomputable def digB (c : UInt8) : Bool := 48 ≤ c.toNat && c.toNat ≤ 57
noncomputable def numV (b : Bs) : Nat := b.foldl (fun a c => 10 * a + (c.toNat - 48)) 0
noncomputable def numB (b : Bs) : Option Nat := if b = [] then none else if b.all digB then some (numV b) else none
noncomputable def num (b : Bs) : Option Nat := if 1 < b.length ∧ b.head? = some 48 then none else numB b
noncomputable def NV (v : Value) : Option Nat → Prop
  | none => v = .none
  | some n => ∃ t, v = .int n t
theorem digB_iff {c : UInt8} : digB c = true ↔ 48 ≤ c.toNat ∧ c.toNat ≤ 57 := by
  unfold digB
  rw [Bool.and_eq_true, decide_eq_true_eq, decide_eq_true_eq]
theorem numV_step {b : Bs} {i : Nat} {c : UInt8} (h : b[i]? = some c) : numV (b.take (i + 1)) = 10 * numV (b.take i) + (c.toNat - 48) := by
  unfold numV
  rw [List.take_add_one, h]
  simp
theorem all_step {b : Bs} {i : Nat} {c : UInt8} (h : b[i]? = some c) (ha : (b.take i).all digB = true) (hc : digB c = true) : (b.take (i + 1)).all digB = true := by
  rw [List.take_add_one, h, List.all_append, ha]
  simp [hc]
theorem numB_bad {b : Bs} (h : ¬ b.all digB = true) : numB b = none := by
  unfold numB
  by_cases e : b = []
  · rw [if_pos e]
  · rw [if_neg e, if_neg h]
theorem numB_good {b : Bs} (hb : b ≠ []) (ha : b.all digB = true) : numB b = some (numV b) := by
  unfold numB
  rw [if_neg hb, if_pos ha]
theorem num_bad {b : Bs} (h : 1 < b.length ∧ ((b.getD 0 0).toNat : Int) = 48) : num b = none := by
  unfold num
  rw [if_pos]
  refine ⟨h.1, ?_⟩
  cases b with
  | nil => simp at h
  | cons c r =>
    have h2 := h.2
    simp at h2 ⊢
    apply UInt8.toNat_inj.mp
    show c.toNat = 48
    lia
theorem num_good {b : Bs} (h : ¬ (1 < b.length ∧ ((b.getD 0 0).toNat : Int) = 48)) : num b = numB b := by
  unfold num
  rw [if_neg]
  rintro ⟨h1, h2⟩
  refine h ⟨h1, ?_⟩
  cases b with
  | nil => simp at h1
  | cons c r => simp at h2; subst h2; rfl
theorem num_none {b : Bs} (h : ¬ b.all digB = true) : num b = none := by
  unfold num
  split
  · rfl
  · exact numB_bad h
noncomputable abbrev frB (oc bs nm ot dg : Option Value) : Fm := [(Str.ofString "octets", oc), (Str.ofString "base", bs), (Str.ofString "number", nm), (Str.ofString "octet", ot), (Str.ofString "digit", dg)]
theorem nought_glob {w : World} : ∃ t, nsIn (KK w) mainGlobals (Str.ofString "NOUGHT_SIGN") = some (some (.int 48 t)) := ⟨_, rfl⟩
theorem number_by_L {w : World} {c : Cx w} {n : Led} {l : Fm} {b : Bs} {t u : Tok} (hroom : c.dp + 1 < recursionLimit) (hb : b.length ≤ 1000) : CaG c n l (.ref 92) [.bytes b.toArray t, .int 10 u] fun r n' => NV r (numB b) ∧ n' = n := fun Q kk => by
  refine At.enter (by exact rfl) (by lia) [Str.ofString "octets", Str.ofString "base"] [Str.ofString "number", Str.ofString "octet", Str.ofString "digit"] (frB (some (.bytes b.toArray t)) (some (.int 10 u)) none none none) fun c' RQ hI => ?_
  have hw := hI.wk
  have out : ∀ {l' : Fm} {v : Value}, NV v (numB b) → Go c' n l' RQ (.ret v) := fun h => hI.ret _ _ _ (kk _ _ ⟨h, rfl⟩)
  refine .guard (.cmp (.lenB hw (EvP.r (P := BW b) (.name rfl) ⟨_, rfl⟩) (by lia)) .int fun a b ha hb => .iEq ha hb) (fun h => .retP .none (Go.ret (out ?_))) fun hne => .assignR hw .int fun v0 h0 => ?_
  · have : b = [] := List.eq_nil_of_length_eq_zero (by lia)
    subst this
    exact rfl
  refine .forB hw (EvP.r (P := BW b) (.name rfl) ⟨_, rfl⟩) (fun i k l' => k = n ∧ (b.take i).all digB = true ∧ ∃ v o1 o2, IV (numV (b.take i)) v ∧ l' = frB (some (.bytes b.toArray t)) (some (.int 10 u)) (some v) o1 o2) (Y0_3 rfl rfl (Y3_2 v0 none none h0 rfl)) (fun i k l' h => by refine X0_3 h ?_; clear h; rintro _ _ ⟨_, _, _, _, rfl⟩; rfl) (fun i y v k l' ci TQ hy hv hj hn => ?_) fun k l' hj => ?_
  · refine X0_3 hj ?_; clear hj; rintro rfl ha zz; obtain ⟨v1, o1, o2, h1, rfl⟩ := zz
    have hw2 := hn.wk
    obtain ⟨tn, hnn⟩ := nought_glob (w := w)
    refine .assignR hw2 (.isub (EvP.r (P := IV (y.toNat : Int)) (.name rfl) hv) (EvP.r (P := IV 48) (.glob hw2 hnn) ⟨_, rfl⟩)) fun dv hdv => ?_
    refine .guard (p := ¬ digB y = true) (.cast (.not (.chain .int (EvP.r (P := IV ((y.toNat : Int) - 48)) (.name rfl) hdv) (EvP.r (P := IV 10) (.name rfl) ⟨_, rfl⟩) (fun a b ha hb => .iLe ha hb) fun a b ha hb => .iLt ha hb)) ?_) (fun h => .retP .none (hn.ret _ _ _ (Go.ret (out ?_)))) fun h => .assignR hw2 (.iadd (.imul (EvP.r (P := IV 10) (.name rfl) ⟨_, rfl⟩) (EvP.r (P := IV (numV (b.take i))) (.name rfl) h1) (.of_left (by decide))) (EvP.r (P := IV ((y.toNat : Int) - 48)) (.name rfl) hdv)) fun v2 h2 => .nil (hn.next _ _ (Y0_3 rfl ?_ (Y3_2 v2 _ _ ?_ rfl)))
    · rw [digB_iff]
      exact not_congr ⟨fun h => by omega, fun h => by omega⟩
    · rw [numB_bad fun ha => h (List.all_eq_true.mp ha y (List.mem_of_getElem? hy))]
      exact rfl
    · exact all_step hy ha (Classical.not_not.mp h)
    · have := digB_iff.mp (Classical.not_not.mp h)
      rw [show ((numV (b.take (i + 1)) : Nat) : Int) = 10 * (numV (b.take i) : Nat) + ((y.toNat : Int) - 48) by rw [numV_step hy]; omega]
      exact h2
  · refine X0_3 hj ?_; clear hj; rintro rfl ha zz; obtain ⟨v1, o1, o2, h1, rfl⟩ := zz
    rw [List.take_length] at ha h1
    refine .retP (.name rfl) (out ?_)
    rw [numB_good (fun e => by subst e; exact hne rfl) ha]
    exact h1
theorem number_of_L {w : World} {c : Cx w} {n : Led} {l : Fm} {b : Bs} {t : Tok} (hroom : c.dp + 2 < recursionLimit) (hb : b.length ≤ 1000) : CaG c n l (.ref 99) [.bytes b.toArray t] fun r n' => NV r (num b) ∧ n' = n := fun Q kk => by
  refine At.enter (by exact rfl) (by lia) [Str.ofString "octets"] [] [(Str.ofString "octets", some (.bytes b.toArray t))] fun c' RQ hI => ?_
  have hw := hI.wk
  obtain ⟨tn, hnn⟩ := nought_glob (w := w)
  refine .guard (.and2 (.cmp (.lenB hw (EvP.r (P := BW b) (.name rfl) ⟨_, rfl⟩) (by omega)) .int fun a b ha hb => .iGt ha hb) fun h => .cmp (.itemB (EvP.r (P := BW b) (.name rfl) ⟨_, rfl⟩) .int (by decide) (by lia) (by lia)) (EvP.r (P := IV 48) (.glob hw hnn) ⟨_, rfl⟩) fun a b ha hb => .iEq ha hb) (fun h => .retP .none (Go.ret (hI.ret _ _ _ (kk _ _ ⟨?_, rfl⟩)))) fun h => ?_
  · rw [num_bad ⟨by lia, h.2⟩]
    exact rfl
  · refine .retQ <| .eCall (.glob hw rfl) (.ref rfl) <| .argP (.name rfl) <| .argR .int fun v hv => .arg0 <| .cq ?_
    obtain ⟨t2, rfl⟩ := hv
    refine number_by_L (by rw [hw.dp]; omega) hb _ fun r k hr => ?_
    obtain ⟨hr, rfl⟩ := hr
    refine hI.ret _ _ _ (kk _ _ ⟨?_, rfl⟩)
    rw [num_good fun h' => h ⟨by omega, h'.2⟩]
    exact hr
noncomputable abbrev frN2 (oc fd ot : Option Value) : Fm := [(Str.ofString "octets", oc), (Str.ofString "found", fd), (Str.ofString "octet", ot)]
theorem law_number_L {w : World} {c : Cx w} {n : Led} {l : Fm} {b : Bs} {t : Tok} (hroom : c.dp + 2 < recursionLimit) (hu : c.un + 10 < cLine) (hb : b.length ≤ 1000) : CaG c n l (.ref 326) [.bytes b.toArray t] fun r n' => NV r (num b) ∧ ∀ q ∈ n, q ∈ n' := fun Q kk => by
  refine At.enter (by exact rfl) (by omega) [Str.ofString "octets"] [Str.ofString "found", Str.ofString "octet"] (frN2 (some (.bytes b.toArray t)) none none) fun c' RQ hI => ?_
  have hw := hI.wk
  have out : ∀ {k : Led} {l' : Fm} {v : Value}, NV v (num b) → (∀ q ∈ n, q ∈ k) → Go c' k l' RQ (.ret v) := fun h hs => hI.ret _ _ _ (kk _ _ ⟨h, hs⟩)
  refine .guard (p := (b = [] ∨ ¬ b.all digB = true) ∨ (1 < b.length ∧ ((b.getD 0 0).toNat : Int) = 48)) (.cast (.or3 (.cmp (EvP.r (P := BW b) (.name rfl) ⟨_, rfl⟩) .bytes fun a b ha hb => .bEq ha hb) (fun _ => Tst.neG (P := fun ys => ys = [] ↔ b.all digB = true) (fun Q3 k3 => ?_) (by rw [hw.un]; lia) fun vs h => not_congr h) fun h1 h2 => .and2 (.cmp (.lenB hw (EvP.r (P := BW b) (.name rfl) ⟨_, rfl⟩) (by omega)) .int fun a b ha hb => .iGt ha hb) fun h => .cmp (.itemB (EvP.r (P := BW b) (.name rfl) ⟨_, rfl⟩) .int (by decide) (by omega) (by omega)) .int fun a b ha hb => .iEq ha hb) ?_) (fun h => .retP .none (Go.ret (out ?_ fun _ h => h))) fun h => ?_
  · refine At.comp1 hw (fun i ys k => (∀ q ∈ n, q ∈ k) ∧ (ys = [] ↔ (b.take i).all digB = true)) (.srcB (EvP.r (P := BW b) (.name rfl) ⟨_, rfl⟩) ⟨fun _ h => h, by simp⟩ hb) (fun _ _ _ _ _ _ _ _ _ => trivial) (fun i v ys k c2 hi hv hj hw2 => ?_) fun D ys k k' hj hD => k3 _ _ (Y3_4 D ys _ rfl hD.mem (fun q hq => hD.sub q (hj.1 q hq)) (by have := hj.2; rwa [List.take_length] at this))
    refine X1_2 hv ?_; clear hv; rintro y hy hv
    refine Y1_3 (¬ digB y = true) (.one (.cast (.not (.chain .int (EvP.r (P := IV (y.toNat : Int)) (.name rfl) hv) .int (fun a b ha hb => .iLe ha hb) fun a b ha hb => .iLe ha hb)) ?_)) (fun hp Q4 k4 => (show EvP c2 k _ (.Name (Str.ofString "octet") _) v from .name rfl) Q4 (k4 _ _ ⟨hj.1, ?_⟩)) (fun hp => ⟨hj.1, ?_⟩)
    · rw [digB_iff]
      exact not_congr ⟨fun h => by lia, fun h => by lia⟩
    · refine ⟨fun h => by simp at h, fun h => absurd (List.all_eq_true.mp h y ?_) hp⟩
      rw [List.take_add_one, hy]
      simp
    · rw [hj.2]
      refine ⟨fun h => all_step hy h (Classical.not_not.mp hp), fun h => ?_⟩
      rw [List.take_add_one, List.all_append, Bool.and_eq_true] at h
      exact h.1
  · constructor
    · rintro (h | h | h)
      · exact .inl (.inl h)
      · exact .inl (.inr h)
      · exact .inr ⟨by omega, h.2⟩
    · rintro ((h | h) | h)
      · exact .inl h
      · exact .inr (.inl h)
      · exact .inr (.inr ⟨by omega, h.2⟩)
  · rcases h with (h | h) | h
    · subst h; exact rfl
    · rw [num_none h]; exact rfl
    · rw [num_bad h]; exact rfl
  · have hne : b ≠ [] := fun e => h (.inl (.inl e))
    have hall : b.all digB = true := Classical.byContradiction fun e => h (.inl (.inr e))
    refine .assignR hw .int fun v0 h0 => ?_
    refine .forB hw (EvP.r (P := BW b) (.name rfl) ⟨_, rfl⟩) (fun i k l' => k = n ∧ ∃ v o1, IV (numV (b.take i)) v ∧ l' = frN2 (some (.bytes b.toArray t)) (some v) o1) ⟨rfl, Y2_2 v0 none h0 rfl⟩ (fun i k l' h => by refine X0_2 h ?_; clear h; rintro _ ⟨_, _, _, rfl⟩; rfl) (fun i y v k l' ci TQ hy hv hj hn => ?_) fun k l' hj => ?_
    · refine X0_2 hj ?_; clear hj; rintro rfl zz; obtain ⟨v1, o1, h1, rfl⟩ := zz
      have hw2 := hn.wk
      refine .assignR hw2 (.isub (.iadd (.imul (EvP.r (P := IV (numV (b.take i))) (.name rfl) h1) .int (.of_right (by decide))) (EvP.r (P := IV (y.toNat : Int)) (.name rfl) hv)) .int) fun v2 h2 => .nil (hn.next _ _ ⟨rfl, Y2_2 v2 _ ?_ rfl⟩)
      have := digB_iff.mp (List.all_eq_true.mp hall y (List.mem_of_getElem? hy))
      rw [show ((numV (b.take (i + 1)) : Nat) : Int) = (numV (b.take i) : Nat) * 10 + (y.toNat : Int) - 48 by rw [numV_step hy]; omega]
      exact h2
    · refine X0_2 hj ?_; clear hj; rintro rfl zz; obtain ⟨v1, o1, h1, rfl⟩ := zz
      rw [List.take_length] at h1
      refine .retP (.name rfl) (out ?_ fun _ h => h)
      rw [num_good fun h' => h (.inr h'), numB_good hne hall]
      exact h1
end
section
section
variable {w : World} {c : Cx w} {n : Led} {l : Fm} {rest : List Stmt} {sc : Scope} {d u : Nat} {b : Bool}
theorem At.eMethR {o e : PySem.Expr} {es : List PySem.Expr} {apos pos : Pos} {P : Value → Prop} {f : Value} {name : Str} {Q : Value → Shared → Prop} (ho : EvR c n l o P) (hm : ∀ ov, P ov → Mt c n l ov name f [ov]) (hc : Cal w f) (k : ∀ ov, P ov → At c n l (spliced (backTo pos (starEach (e :: es) c.env))) (Cq c f [ov] Q))
    (hx : ∀ env : Env, ∃ pl, eval (.Call (.Attribute o name apos) (e :: es) [] pos) env = (do
      let ov ← eval o env
      standAt apos.atName
      let (f, first) ← holding [ov] (getMethod ov name pl)
      callWith pos f first (backTo pos (starEach (e :: es) env)) []) := by intro _; exact ⟨_, rfl⟩)
    (he : ∀ env, starEach (e :: es) env = (false, eval e env) :: starEach es env := by intro _; rfl) (hp : ∀ env pos, (backTo pos (starEach es env)).any (·.1) = false := by intro _ _; rfl) : At c n l (eval (.Call (.Attribute o name apos) (e :: es) [] pos) c.env) Q := fun h' tk H => by
  obtain ⟨pl, hx⟩ := hx c.env
  rw [hx]
  exact wpAny_bind (ho (fun v s₁ => wpAny (model PR w) c.A (do
      standAt apos.atName
      let (f, first) ← holding [v] (getMethod v name pl)
      callWith pos f first (backTo pos (starEach (e :: es) c.env)) []) Q c.E s₁) (fun v hv => At.stand (Q := Q) fun h2 tk H => wpAny_bind (wpAny_holding (hm v hv pl (fun x s₁ => wpAny (model PR w) c.A (callWith pos x.1 x.2 (backTo pos (starEach (e :: es) c.env)) []) Q c.E s₁) (At.callW hc (k v hv) he hp) h2 tk H))) h' tk H)
theorem Mt.join {b : Array UInt8} {t : Tok} : Mt c n l (.bytes b t) (Str.ofString "join") (.builtin "bytes.join") [.bytes b t] := by
  have := @Mt.bytes w c n l b t (Str.ofString "join") "bytes.join" slot_bytes_join type_bytes_join
  exact this
theorem CaG.join {D : Addr} {vs : List Value} {k : Nat} {bs : List Bs} {t : Tok} (hD : (D, lstN vs k) ∈ n) (hb : BVs vs bs) (hz : (glue bs).length ≤ 100000) : CaG c n l (.builtin "bytes.join") [.bytes #[] t, .ref D] fun r n' => BW (glue bs) r ∧ n' = n := fun Q kk h tk H => by
  have hl := H
  obtain ⟨m, hid, hV, F, N, O⟩ := H
  exact join_K (News.isList N (List.mem_append_right _ hD)) hb (by rw [sizeLine_eq]; lia) fun t' k => kk _ _ ⟨⟨t', rfl⟩, rfl⟩ h k hl
theorem EvR.call1 {f e : PySem.Expr} {pos : Pos} {fv : Value} {P R : Value → Prop} (hf : EvP c n l f fv) (hc : Cal w fv) (he : EvR c n l e P) (k : ∀ v, P v → CaG c n l fv [v] fun r n' => R r ∧ n' = n)
    (hx : ∀ env : Env, eval (.Call f [e] [] pos) env = (do callWith pos (← eval f env) [] (backTo pos (starEach [e] env)) []) := by intro _; rfl) (hs : ∀ env, starEach [e] env = (false, eval e env) :: starEach [] env := by intro _; rfl) : EvR c n l (.Call f [e] [] pos) R := fun Q kk =>
  .eCall hf hc (.argR he (fun v hv => .arg0 <| .cq <| k v hv _ fun r n' hr => by obtain ⟨h1, rfl⟩ := hr; exact kk r h1) hs) hx hs
theorem CaG.ord {x : Nat} {t : Tok} : CaG c n l (.builtin "ord") [.str ⟨#[x]⟩ t] fun r n' => IV (x : Int) r ∧ n' = n := fun Q kk h tk H => P.ord_of_char (kk _ _ ⟨⟨_, rfl⟩, rfl⟩ h _ H)
theorem CaG.strI {k : Int} {t : Tok} (hk : -1 ≤ k) (hk2 : k ≤ 99) : CaG c n l (.type "str") [.int k t] fun r n' => (∃ t, r = .str (toString k) t) ∧ n' = n := fun Q kk h tk H =>
  P.str_of_int (Nat.lt_of_le_of_lt (Nat.log2_le_self _) (by omega)) (kk _ _ ⟨⟨_, rfl⟩, rfl⟩ h _ H)
theorem Go.addB {x y : Bs} {a b' : Value} {Q : Value → Shared → Prop} (ha : BW x a) (hb : BW y b') (hz : x.length + y.length ≤ 1000000) (k : ∀ v, BW (x ++ y) v → Go c n l Q v) : At c n l (binaryOp .Add a b') Q := fun h tk H => by
  obtain ⟨t, rfl⟩ := ha
  obtain ⟨t', rfl⟩ := hb
  exact KBy.add_bytes (by simp; lia) fun t' k' => k _ ⟨t', by simp⟩ h k' H
theorem ordJ {y : Str} {cs : List Nat} (hcs : y.cps.toList = cs) {i : Nat} {v : Value} {ys : List Value} (hv : SignAt y i v) (hj : IntsAre ys ((cs.take i).map fun c : Nat => (c : Int))) : ∃ x t, v = .str ⟨#[x]⟩ t ∧ ∀ r, IV (x : Int) r → IntsAre (ys ++ [r]) ((cs.take (i + 1)).map fun c : Nat => (c : Int)) := by
  refine X2_2 hv ?_; clear hv; rintro x t hx rfl
  refine Y2_2 x t rfl (fun r hr => ?_)
  obtain ⟨t', rfl⟩ := hr
  have : cs[i]? = some x := by rw [← hcs, Array.getElem?_toList]; exact hx
  rw [List.take_add_one, this, List.map_append]
  exact ints_snoc hj
theorem figures_L {k : Int} {tk : Tok} (hk : -1 ≤ k) (hk2 : k ≤ 99) (hroom : c.dp < recursionLimit) : CaG c n l (.ref 321) [.int k tk] fun r n' => BW (figs k) r ∧ n' = n := fun Q kk => by
  have hfg := figs_of hk hk2
  have hl : (Str.ofString (toString k)).cps.size ≤ 2 := by rw [← Array.length_toList, hfg]; exact figsL_len k
  refine At.enter (by exact rfl) hroom [Str.ofString "number"] [] [(Str.ofString "number", some (.int k tk))] fun c' RQ hI => ?_
  have hw := hI.wk
  refine .retQ <| .eCall (.blt hw rfl (by boot_fast)) .typ <| .argQ <| At.comp1 hw (fun i ys k' => k' = n ∧ IntsAre ys (((figsL k).take i).map fun c : Nat => (c : Int))) (.srcS (y := Str.ofString (toString k)) (.call1 (P := (· = .int k tk)) (.blt hw rfl (by boot_fast)) .typ (EvP.r (.name rfl) rfl) fun v hv => by rw [hv]; exact .strI hk hk2) ⟨rfl, .nil⟩ (by lia)) (fun _ _ _ _ _ _ _ _ _ => trivial) (fun i v ys k' c2 hi hv hj hw2 => ?_) fun D ys k1 k2 hj hD => ?_
  · obtain ⟨rfl, hj⟩ := hj
    refine X2_2 (ordJ hfg hv hj) ?_; rintro x t rfl hr
    exact turn0 (EvR.g (.call1 (P := (· = .str ⟨#[x]⟩ t)) (.blt hw2 rfl (by boot_fast)) .blt (EvP.r (.name rfl) rfl) fun v hv => by rw [hv]; exact .ord) fun v hv => ⟨rfl, hr v hv⟩)
  · obtain ⟨rfl, hj⟩ := hj
    rw [← Array.length_toList, hfg, List.take_length] at hj
    refine At.arg0 <| Go.cq <| CaG.bytesL hD.mem hj (fun z hz => ?_) (by rw [List.length_map]; have := figsL_len k; lia) _ fun r k' hr => ?_
    · refine X1_2 (List.mem_map.mp hz) ?_; rintro x hx rfl
      have := figsL_lt hk hk2 x hx
      lia
    · obtain ⟨⟨t, rfl⟩, rfl⟩ := hr
      rw [byteArr_figs]
      exact Go.sub (hI.ret _ _ _ (kk _ _ ⟨⟨t, rfl⟩, rfl⟩)) hD.sub
theorem EvR.orB {e : PySem.Expr} {j : Nat} {p pos : Pos} {v : Value} {o : Option Bs} (he : EvP c n l e v) (hv : OV v o) (ho : ∀ b, o = some b → b ≠ [] ∧ b.length ≤ 1000) : EvR c n l (.BoolOp .Or [e, .Constant (.bytes []) j p] pos) (BW (o.getD [])) := fun Q kk h tk H =>
  BoolOp_or (he _ (fun h tk H => by
    cases o with
    | none =>
      obtain rfl : v = .none := hv
      exact truthy_none (ite_ff (BoolOp_one (EvR.bytes Q kk h tk H)))
    | some b =>
      obtain ⟨t, rfl⟩ := hv
      obtain ⟨h1, h2⟩ := ho b rfl
      refine truthy_bytes (by simp; lia) ?_
      rw [show ((((b.toArray.size : Nat) : Int)) != 0) = true by cases b with | nil => exact absurd rfl h1 | cons _ _ => simp; omega]
      exact ite_tt (kk _ ⟨t, rfl⟩ h _ H)) h tk H)
end
theorem rows_glue : ∀ ps : List Fold, glue (ps.map Fold.row) = Fold.rows ps
  | [] => rfl
  | p :: r => by
    have := rows_glue r
    unfold glue at this ⊢
    rw [List.map_cons, List.flatten_cons, this, Fold.rows]
theorem row_L : ∀ (t : Fold) {w : World} {c : Cx w} {n : Led} {l : Fm} {v : Value} {d : Nat} (_ : Fold.Ok d t) (_ : c.dp + t.tree.ht + 1 < recursionLimit) (_ : d ≤ 2) (_ : FoldIn w n v t), CaG c n l (.ref 316) [v] fun r n' => BW t.row r ∧ n' = n := by
  intro t
  induction t using Fold.ind with
  | h nm cn o ps fs mm ih =>
  intro w c n l v d hok hroom hd ht Q kk
  have hnn : nodes d ≤ 13 := by rcases (by lia : d = 0 ∨ d = 1 ∨ d = 2) with rfl | rfl | rfl <;> decide
  have hrl := row_len d _ hok
  have hlen := hok.len
  have hgl : (glue (ps.map Fold.row)).length ≤ 600 := by
    rw [rows_glue]
    rw [Fold.row] at hrl
    simp only [List.length_append] at hrl
    lia
  have hf := figs_len cn
  have hf2 := figs_len (ps.length : Int)
  have hov : nm.length ≤ 2 ∧ -1 ≤ cn ∧ cn ≤ 99 ∧ ∀ b, o = some b → b ≠ [] ∧ b.length ≤ 4 := by
    rw [Fold.Ok_eq] at hok
    refine X0_8 hok ?_; clear hok; rintro k1 k2 k3 k4 k5 k6 k7 _
    refine Y0_4 k1 k4 (by lia) (fun b e => ?_)
    by_cases hc : cn < 0
    · rw [k6 hc] at e; cases e
    · obtain ⟨x, e2⟩ := k7 (by lia)
      rw [e2] at e
      cases e
      exact ⟨by simp, Nat.le_refl _⟩
  refine X0_4 hov ?_; clear hov; rintro hnl hc1 hc2 hov
  rw [Fold.tree, Tree.ht] at hroom
  refine ht.open ?_
  intro a ob tn vo pl fl t1 t2 vs ws i j e h1 h2 h3 h4 h5 h6 h7 h8 h9 h10
  subst e
  have hvl := folds_len h7
  refine At.enter (by exact rfl) (by lia) [Str.ofString "folder"] [Str.ofString "head"] [(Str.ofString "folder", some (.ref a)), (Str.ofString "head", none)] fun c' RQ hI => ?_
  have hw := hI.wk
  have figs_ : ∀ {e : PySem.Expr} {p1 p2 : Pos} {k : Int} {l' : Fm}, -1 ≤ k → k ≤ 99 → EvR c' n l' e (IV k) → (∀ env : Env, eval (.Call (.Name (Str.ofString "_law_figures") p1) [e] [] p2) env = (do callWith p2 (← eval (.Name (Str.ofString "_law_figures") p1) env) [] (backTo p2 (starEach [e] env)) [])) → (∀ env, starEach [e] env = (false, eval e env) :: starEach [] env) →
      EvR c' n l' (.Call (.Name (Str.ofString "_law_figures") p1) [e] [] p2) (BW (figs k)) := fun h0 h1 he hx hs => .call1 (.glob hw rfl) (.ref rfl) he (fun v hv => by obtain ⟨t, rfl⟩ := hv; exact figures_L h0 h1 (by rw [hw.dp]; lia)) hx hs
  refine .assignR hw (.addB (.addB (.addB (.addB (.addB (EvP.r (P := BW nm) (.skey (.name rfl) h1 h3 rfl) ⟨_, rfl⟩) .bytes ?_) (figs_ hc1 hc2 (EvP.r (.skey (.name rfl) h1 h3 rfl) ⟨_, rfl⟩) (fun _ => rfl) fun _ => rfl) ?_) .bytes ?_) (figs_ (k := (vs.length : Int)) (by lia) (by lia) (.lenL hw (.skey (.name rfl) h1 h3 rfl) h5 (by lia)) (fun _ => rfl) fun _ => rfl) ?_) .bytes ?_) fun hv hh => ?_
  · simp; lia
  · simp; lia
  · simp; lia
  · rw [hvl]; simp; lia
  · rw [hvl]; simp; lia
  rw [hvl] at hh
  refine .retQ <| .eBin <| (EvR.addB (EvP.r (.name rfl) hh) (.orB (.skey (.name rfl) h1 h3 rfl) h4 fun b e => ⟨(hov b e).1, by have := (hov b e).2; lia⟩) ?_ : EvR c' n _ _ _) _ fun hv2 hh2 => ?_
  · simp only [List.length_append, List.length_cons, List.length_nil]
    have : (o.getD []).length ≤ 4 := by
      cases o with
      | none => simp
      | some b => exact (hov b rfl).2
    lia
  refine At.eMethR (f := .builtin "bytes.join") (P := BW []) .bytes (fun ov h => by obtain ⟨t, rfl⟩ := h; exact Mt.join) .blt fun ov hov2 => At.argQ <| At.eComp hw (.skey (.name rfl) h1 h3 rfl) h5 h9 (fun i ys k => k = n ∧ BVs ys ((ps.take i).map Fold.row)) ⟨rfl, by show BVs [] []; trivial⟩ (fun i ys k h => by rw [h.1]; exact h5) (fun i v ys k c2 hv hj hw2 Q2 k2 => ?_) fun D ys k k1 hj hD => ?_
  · obtain ⟨rfl, hj⟩ := hj
    refine X1_2 (folds_get h7 hv) fun t hti hin => ?_
    have hm := List.mem_of_getElem? hti
    refine X1_2 (hok.part hm) ?_; rintro e rfl hoke
    have hlt := Tree.ht_le (ps := Fold.trees ps) (q := t.tree) (trees_mem hm)
    refine At.eCall (.glob hw2 rfl) (.ref rfl) <| At.argP (.name rfl) <| At.arg0 <| Go.cq <| ih t hm (d := e) hoke (by rw [hw2.dp]; lia) (by lia) hin _ fun r k hr => ?_
    obtain ⟨hr, rfl⟩ := hr
    refine k2 _ _ ⟨rfl, ?_⟩
    rw [List.take_add_one, hti, List.map_append]
    exact bvs_add hr hj
  · obtain ⟨rfl, hj⟩ := hj
    rw [hvl, List.take_length] at hj
    obtain ⟨t, rfl⟩ := hov2
    refine At.arg0 <| Go.cq <| CaG.join hD.mem hj (by lia) _ fun r k' hr => ?_
    obtain ⟨hr, rfl⟩ := hr
    refine Go.addB hh2 hr ?_ fun r hr => Go.sub (hI.ret _ _ _ (kk _ _ ⟨?_, rfl⟩)) hD.sub
    · have : (o.getD []).length ≤ 4 := by
        cases o with
        | none => simp
        | some b => exact (hov b rfl).2
      simp only [List.length_append, List.length_cons, List.length_nil]
      lia
    · rw [rows_glue, List.append_assoc _ (o.getD [])] at hr
      rw [Fold.row]
      exact hr
end
section
section
variable {w : World} {c : Cx w} {n : Led} {l : Fm} {rest : List Stmt} {sc : Scope} {d u : Nat} {b : Bool}
noncomputable def Jn {w : World} (c : Cx w) (n : Led) (l : Fm) (out : Str) (ts : List (Sem Value)) (y : Str) : Prop := ∀ Q, (∀ v, (∃ t, v = .str y t) → Go c n l Q v) → At c n l (joinParts out ts) Q
theorem Jn.nil {y : Str} (hz : y.length ≤ 1000) : Jn c n l y [] y := fun Q k h tk H => joinParts_nil (k _ ⟨_, rfl⟩ h _ H) (by rw [sizeLine_eq]; lia)
theorem Jn.int {e : PySem.Expr} {k : Int} {pos : Pos} {out y : Str} {ts : List (Sem Value)} (he : EvR c n l e (IV k)) (hk : -1 ≤ k) (hk2 : k ≤ 99) (hz : out.length ≤ 900) (h : Jn c n l (out ++ Str.ofString (toString k)) ts y) : Jn c n l out (eval (.FormattedValue e (-1) none pos) c.env :: ts) y := fun Q kk h' tk H =>
  joinParts_cons (FormattedValue_plain (he _ (fun v hv h' tk H => by
    obtain ⟨t, rfl⟩ := hv
    refine formatField_int_small (Nat.lt_of_le_of_lt (Nat.log2_le_self _) (by omega)) ⟨?_, h Q kk h' _ H⟩
    have : (Str.ofString (toString k)).length ≤ 2 := by
      show (Str.ofString (toString k)).cps.size ≤ 2
      rw [← Array.length_toList, figs_of hk hk2]
      exact figsL_len k
    rw [strLen_append, sizeLine_eq]
    lia) h' tk H))
theorem Jn.str {x : Str} {j : Nat} {p : Pos} {out y : Str} {ts : List (Sem Value)} (hz : (out ++ x).length ≤ 1000) (h : Jn c n l (out ++ x) ts y) : Jn c n l out (eval (.Constant (.str x) j p) c.env :: ts) y := fun Q kk h' tk H =>
  joinParts_cons (Constant_str ⟨by rw [sizeLine_eq]; lia, h Q kk h' _ H⟩)
theorem EvR.fstr {v₁ v₂ : PySem.Expr} {rs : List PySem.Expr} {pos : Pos} {y : Str} (h : Jn c n l Str.empty (eval v₁ c.env :: eval v₂ c.env :: evalEach rs c.env) y) : EvR c n l (.JoinedStr (v₁ :: v₂ :: rs) pos) fun v => ∃ t, v = .str y t := fun Q kk h' tk H => JoinedStr_many (h Q kk h' tk H)
theorem At.rev {value e : PySem.Expr} {p pos : Pos} {a : Addr} {vs : List Value} {k : Nat} {Q : Value → Shared → Prop} (hv : EvP c n l value (.ref a)) (ha : (a, lstN vs k) ∈ n) (he : EvR c n l e (IV (-1))) (hz : vs.length ≤ 100000)
    (kk : ∀ D n', New n n' D (lstN vs.reverse 0) → Go c n' l Q (.ref D)) (hs : ∀ o j, subscripted (.Slice none none (some e) p) false o j = operate [o, j] (getItem o j) := by intro _ _; rfl) : At c n l (eval (.Subscript value (.Slice none none (some e) p) pos) c.env) Q := fun h tk H =>
  Subscript_ (hv _ (fun h tk H => wpAny_Slice ((PE.none : PE c n l none none) _ (fun vl pl h tk H => (PE.none : PE c n l none none) _ (fun vu pu h tk H => (PE.some he : PE c n l (some e) (some (-1))) _ (fun vk pk h tk H => by
    obtain ⟨m, hid, hV, F, N, O⟩ := H
    refine sliceL (s := { c.s with heap := h, toks := tk }) F N (News.isList N (List.mem_append_right _ ha)) pl pu pk (by decide) (by rw [List.size_toArray, sizeLine_eq]; lia) (fun D h' F' N' lt => ?_) (hs _ _)
    rw [krv_pick] at N'
    exact kk D _ (New.of fun p hp => lt p (List.mem_append_right _ hp)) h' tk (Hp.new hV O F' N' lt)) h tk H) h tk H) h tk H)) h tk H)
noncomputable def Nx {w : World} (c : Cx w) (l : Fm) (R : Led → Prop) (f : Flow) (s' : Shared) : Prop := f = .next ∧ ∃ h tk n', s' = { c.s with heap := h, toks := tk } ∧ R n' ∧ Hp c n' l h
theorem Go.nx {R : Led → Prop} (h : R n) : Go c n l (Nx c l R) .next := fun h' tk H => ⟨rfl, Y3_3 h' tk n rfl h H⟩
theorem At.ifJ {test : PySem.Expr} {body orelse : List Stmt} {pos : Pos} {p : Prop} {R : Led → Prop} {Q : Flow → Shared → Prop} (h : Tst c n l test p) (k1 : p → At c n l (execs body c.env) (Nx c l R)) (k2 : ¬ p → At c n l (execs orelse c.env) (Nx c l R)) (k : ∀ n', R n' → At c n' l (execs rest c.env) Q) : At c n l (execs (.If test body orelse pos :: rest) c.env) Q :=
  have go : ∀ f s', Nx c l R f s' → Th c rest Q f s' := fun f s' q => by
    refine X0_2 q ?_; clear q; rintro rfl zz; obtain ⟨h', tk, n', rfl, r, H⟩ := zz
    exact k n' r h' tk H
  .if_ h (fun hp => (k1 hp).mono go) fun hp => (k2 hp).mono go
noncomputable abbrev frO (tx ns nm : Option Value) : Fm := [(Str.ofString "text", tx), (Str.ofString "numbers", ns), (Str.ofString "number", nm)]
theorem octets_of_L {y : Str} {t : Tok} {cs : List Nat} (hcs : y.cps.toList = cs) (hc : ∀ x ∈ cs, x < 256) (hl : cs.length ≤ 100) (hroom : c.dp < recursionLimit) : CaG c n l (.ref 71) [.str y t] fun r n' => BW (cs.map (·.toUInt8)) r ∧ n' = n := fun Q kk => by
  have hyl : y.cps.size = cs.length := by rw [← Array.length_toList, hcs]
  refine At.enter (by exact rfl) hroom [Str.ofString "text"] [Str.ofString "numbers", Str.ofString "number"] (frO (some (.str y t)) none none) fun c' RQ hI => ?_
  have hw := hI.wk
  refine .asg1 hw (fun i ys k' => k' = n ∧ IntsAre ys ((cs.take i).map fun c : Nat => (c : Int))) (.srcS (EvP.r (.name rfl) ⟨t, rfl⟩) ⟨rfl, .nil⟩ (by lia)) (fun _ _ _ _ _ _ _ _ _ => trivial) (fun i v ys k' c2 hi hv hj hw2 => ?_) fun D ys k1 k2 hj hD => ?_
  · obtain ⟨rfl, hj⟩ := hj
    refine X2_2 (ordJ hcs hv hj) ?_; rintro x t rfl hr
    exact turn0 (EvR.g (.call1 (P := (· = .str ⟨#[x]⟩ t)) (.blt hw2 rfl (by boot_fast)) .blt (EvP.r (.name rfl) rfl) fun v hv => by rw [hv]; exact .ord) fun v hv => ⟨rfl, hr v hv⟩)
  · obtain ⟨rfl, hj⟩ := hj
    rw [hyl, List.take_length] at hj
    have hin : ∀ z ∈ cs.map (fun c : Nat => (c : Int)), 0 ≤ z ∧ z < 256 := fun z hz => by
      refine X1_2 (List.mem_map.mp hz) ?_; rintro x hx rfl
      have := hc x hx
      lia
    refine .forL hw (.name rfl) hD.mem (fun i k' l' => k' = k2 ∧ ∃ o, l' = frO (some (.str y t)) (some (.ref D)) o) ⟨rfl, none, rfl⟩ (fun i k' l' h => by refine X0_2 h ?_; clear h; rintro rfl ⟨o, rfl⟩; exact ⟨hD.mem, rfl⟩) (fun i v k' l' ci TQ hv hj2 hn => ?_) fun k' l' hj2 => ?_
    · refine X0_2 hj2 ?_; clear hj2; rintro rfl ⟨o, rfl⟩
      refine X2_2 (hj.at i v hv) ?_; rintro z tz rfl hz
      refine .guard (p := (255 : Int) < z) (.cmp (EvP.r (P := IV z) (.name rfl) ⟨_, rfl⟩) .int fun a b ha hb => .iGt ha hb) (fun hp => absurd hp ?_) fun _ => .nil (hn.next _ _ ⟨rfl, _, rfl⟩)
      have := hin z (List.mem_of_getElem? hz)
      omega
    · refine X0_2 hj2 ?_; clear hj2; rintro rfl ⟨o, rfl⟩
      refine .retQ <| .eCall (.blt hw rfl (by boot_fast)) .typ <| .argP (.name rfl) <| .arg0 <| .cq <| CaG.bytesL hD.mem hj hin (by rw [List.length_map]; lia) _ fun r k' hr => ?_
      obtain ⟨⟨t, rfl⟩, rfl⟩ := hr
      rw [byteArr_figs]
      exact Go.sub (hI.ret _ _ _ (kk _ _ ⟨⟨t, rfl⟩, rfl⟩)) hD.sub
end
end
section
noncomputable abbrev scanEs (w : World) (t1 t2 t3 : Tok) (o : Value) (i : Int) (ti : Tok) (en : Int) (te : Tok) : List DictEntry :=
  [⟨PyData.keyHash w.params (Str.ofString "octets"), .str (Str.ofString "octets") t1, o⟩, ⟨PyData.keyHash w.params (Str.ofString "at"), .str (Str.ofString "at") t2, .int i ti⟩,
   ⟨PyData.keyHash w.params (Str.ofString "end"), .str (Str.ofString "end") t3, .int en te⟩]
theorem cut_drop {x : UInt8} {b u v : Bs} {i : Nat} (h : cut x (b.drop i) = some (u, v)) : b.drop (i + u.length + 1) = v ∧ i + u.length + 1 + v.length = b.length := by
  have e := (cut_some h).1
  constructor
  · rw [Nat.add_assoc, ← List.drop_drop, e]
    simp
  · have := congrArg List.length e
    simp at this
    lia
inductive ScAt (w : World) (n : Led) (d : Addr) (b : Bs) (i : Nat) : Prop
  | mk (k1 k2 k3 tb ti te : Tok) (m : (d, dictOf (scanEs w k1 k2 k3 (.bytes b.toArray tb) (i : Int) ti (b.length : Int) te) 3) ∈ n) : ScAt w n d b i
structure ScTo (w : World) (n n' : Led) (d : Addr) (b : Bs) (i : Nat) : Prop where
  at_ : ScAt w n' d b i
  sub : ∀ q ∈ n, @Ne Nat q.1 d → q ∈ n'
theorem ScTo.of {w : World} {n n' : Led} {d : Addr} {b : Bs} {i : Nat} {k1 k2 k3 tb ti te : Tok} (M : Mut n n' d (dictOf (scanEs w k1 k2 k3 (.bytes b.toArray tb) (i : Int) ti (b.length : Int) te) 3)) : ScTo w n n' d b i := ⟨⟨_, _, _, _, _, _, M.mem⟩, M.sub⟩
section
variable {w : World} {c : Cx w} {n : Led} {l : Fm}
theorem pl_octets : Pl w 271 (Str.ofString "octets") := Y1_4 _ (by rfl) (by rfl) (by rfl) (by rfl)
theorem pl_at : Pl w 271 (Str.ofString "at") := Y1_4 _ (by rfl) (by rfl) (by rfl) (by rfl)
theorem pl_end : Pl w 271 (Str.ofString "end") := Y1_4 _ (by rfl) (by rfl) (by rfl) (by rfl)
theorem ps_octets : Ps w 271 (Str.ofString "octets") := Y0_4 (by rfl) (by rfl) (by rfl) (by rfl)
theorem ps_at : Ps w 271 (Str.ofString "at") := Y0_4 (by rfl) (by rfl) (by rfl) (by rfl)
theorem ps_end : Ps w 271 (Str.ofString "end") := Y0_4 (by rfl) (by rfl) (by rfl) (by rfl)
theorem pp_left : Pp w 271 (Str.ofString "left") 232 := Y2_6 _ _ (by rfl) (by rfl) (by rfl) (by rfl) (by rfl) (by rfl)
theorem scan_L {b : Bs} {tb t1 t2 : Tok} {Q : Value → Shared → Prop} (hroom : c.dp + 1 < recursionLimit) (k : ∀ x d n' o, NewC n n' x d 271 o → ScAt w n' d b 0 → Go c n' l Q (.ref x)) : At c n l (call (.ref 271) [.bytes b.toArray tb, .int 0 t1, .int (b.length : Int) t2]) Q :=
  .cls (fI := 225) rfl rfl rfl fun x d n1 hN => At.enterC (c := c.up 1 1) (by exact rfl) hroom [Str.ofString "self", Str.ofString "octets", Str.ofString "at", Str.ofString "end"] [] [(Str.ofString "self", some (.ref x)), (Str.ofString "octets", some (.bytes b.toArray tb)), (Str.ofString "at", some (.int 0 t1)), (Str.ofString "end", some (.int (b.length : Int) t2))] fun c' RQ hI =>
    hN.self rfl ps_octets fun k1 n2 N => N.self rfl ps_at fun k2 n3 N => N.self rfl ps_end fun k3 n4 N =>
    At.nil <| hI.nxt _ _ fun h tk H => ⟨rfl, k _ _ _ _ N ⟨_, _, _, _, _, _, N.m2⟩ h tk H⟩
theorem EvR.left {e : PySem.Expr} {pos : Pos} {x d : Addr} {b : Bs} {i : Nat} (hroom : c.dp < recursionLimit) (he : EvP c n l e (.ref x)) (h1 : (x, instObj 271 d) ∈ n) (h2 : ScAt w n d b i)
    (hx : ∀ env : Env, eval (.Attribute e (Str.ofString "left") pos) env = (do
      let o ← eval e env
      standAt pos.atName
      let r ← holding [o] (getAttr o (Str.ofString "left") true)
      letTemporaryGo e o r
      pure r) := by intro _; with_unfolding_all rfl) : EvR c n l (.Attribute e (Str.ofString "left") pos) (IV ((b.length : Int) - i)) := by
  obtain ⟨k1, k2, k3, tb, ti, te, m⟩ := h2
  refine .prop he h1 m pp_left (fun v hv => by obtain ⟨t, rfl⟩ := hv; rfl) (fun Q k => ?_) hx
  refine At.enterC (c := c.up 0 1) (by exact rfl) hroom [Str.ofString "self"] [] [(Str.ofString "self", some (.ref x))] fun c' RQ hI => ?_
  exact .retQ <| EvR.isub (EvP.r (P := IV (b.length : Int)) (.attr (.name rfl) h1 m pl_end rfl rfl) ⟨_, rfl⟩) (EvP.r (P := IV (i : Int)) (.attr (.name rfl) h1 m pl_at rfl rfl) ⟨_, rfl⟩) _ fun v hv => hI.ret _ _ _ (k v hv)
theorem Mt.scan {x d : Addr} {b : Bs} {i : Nat} {name : Str} {f : Addr} (h1 : (x, instObj 271 d) ∈ n) (h2 : ScAt w n d b i) (hf : findIn (KK w) (.ref 271) name = some (some (.ref f))) (ht : isFn (KK w) (.ref f) = true) (hg : plainGet (KK w) 271 name = true)
    (hl : ∀ k1 k2 k3 tb ti te, getL name (scanEs w k1 k2 k3 (.bytes b.toArray tb) (i : Int) ti (b.length : Int) te) = some none) : Mt c n l (.ref x) name (.ref f) [.ref x] := by
  obtain ⟨k1, k2, k3, tb, ti, te, m⟩ := h2
  exact Mt.inst h1 m hg hf ht (hl _ _ _ _ _ _)
theorem CaG.find4 {x : UInt8} {b : Bs} {t t0 t1 t2 : Tok} {i : Nat} (hi : i ≤ b.length) : CaG c n l (.builtin "bytes.find") [.bytes b.toArray t, .bytes [x].toArray t0, .int (i : Int) t1, .int (b.length : Int) t2] fun r n' => IV (match seek x (b.drop i) i with | some j => (j : Int) | none => -1) r ∧ n' = n := fun Q kk h tk H =>
  _root_.Mine.find4 (kk _ _ ⟨⟨_, congrArg (Value.int · tk) (fnd_seek hi _ (.inr rfl))⟩, rfl⟩ h _ H)
theorem up_to_L {b : Bs} {x d : Addr} {x0 : UInt8} {i : Nat} {tc : Tok} {Q : Value → Shared → Prop} (hroom : c.dp + 2 < recursionLimit) (hi : i ≤ b.length) (hb : b.length ≤ 1000) (h1 : (x, instObj 271 d) ∈ n) (h2 : ScAt w n d b i) (hne : @Ne Nat x d)
    (hbad : cut x0 (b.drop i) = none → ∀ e, Rai c n l e)
    (k : ∀ u v r n', cut x0 (b.drop i) = some (u, v) → BW u r → ScTo w n n' d b (i + u.length + 1) → Go c n' l Q r) : At c n l (call (.ref 261) [.ref x, .bytes [x0].toArray tc]) Q := by
  obtain ⟨k1, k2, k3, tb, ti, te, m⟩ := h2
  refine At.enter (by exact rfl) (by lia) [Str.ofString "self", Str.ofString "sign"] [Str.ofString "place", Str.ofString "found"] [(Str.ofString "self", some (.ref x)), (Str.ofString "sign", some (.bytes [x0].toArray tc)), (Str.ofString "place", none), (Str.ofString "found", none)] fun c' RQ hI => ?_
  have hw := hI.wk
  refine .assignQ <| .eMethA (.attr (.name rfl) h1 m pl_octets rfl rfl) (Mt.bytes slot_bytes_find type_bytes_find) .blt <| .argP (.name rfl) <| .argP (.attr (.name rfl) h1 m pl_at rfl rfl) <| .argP (.attr (.name rfl) h1 m pl_end rfl rfl) <| .arg0 <| .cq <| CaG.find4 hi _ fun r n' hr => ?_
  obtain ⟨⟨tr, rfl⟩, rfl⟩ := hr
  refine .aq hw ?_
  cases hs : cut x0 (b.drop i) with
  | none =>
    rw [show seek x0 (b.drop i) i = none by unfold seek; rw [hs]; rfl]
    exact .guard (.cmp (EvP.r (P := IV (-1)) (.name rfl) ⟨_, rfl⟩) .int fun a b ha hb => .iLt ha hb) (fun _ => At.raise hw (by omega) fun x t d hne h tk H => hI.rai (hbad hs x) h tk H hne) fun hp => absurd (by decide) hp
  | some uv =>
    obtain ⟨u, v⟩ := uv
    have hcd := cut_drop hs
    rw [show seek x0 (b.drop i) i = some (i + u.length) by unfold seek; rw [hs]; rfl]
    refine .guard (.cmp (EvP.r (P := IV ((i + u.length : Nat) : Int)) (.name rfl) ⟨_, rfl⟩) .int fun a b ha hb => .iLt ha hb) (fun hp => absurd hp (Int.not_lt.mpr (Int.natCast_nonneg _))) fun _ => ?_
    refine .assignR hw (.cutB (EvP.r (P := BW b) (.attr (.name rfl) h1 m pl_octets rfl rfl) ⟨_, rfl⟩) (.some (EvP.r (P := IV (i : Int)) (.attr (.name rfl) h1 m pl_at rfl rfl) ⟨_, rfl⟩)) (.some (EvP.r (P := IV ((i + u.length : Nat) : Int)) (.name rfl) ⟨_, rfl⟩)) (by lia)) fun r hr => ?_
    rw [slc_mid (by lia) (by lia)] at hr
    have e1 : (b.drop i).take (i + u.length - i) = u := by
      rw [(cut_some hs).1, Nat.add_sub_cancel_left]
      simp
    rw [e1] at hr
    refine .setA <| EvR.iadd (EvP.r (P := IV ((i + u.length : Nat) : Int)) (.name rfl) ⟨_, rfl⟩) .int _ fun v2 hv2 => ?_
    obtain ⟨t2, rfl⟩ := hv2
    refine Go.setA rfl <| At.set (es' := scanEs w k1 k2 k3 (.bytes b.toArray tb) ((i + u.length + 1 : Nat) : Int) t2 (b.length : Int) te) (k' := 3) h1 m hne ps_at rfl (fun _ => rfl) (Nat.le_of_ble_eq_true rfl) fun n2 M2 => ?_
    exact At.retP (.name rfl) (hI.ret _ _ _ (k _ _ _ _ hs hr (.of M2)))
theorem raw_L {b : Bs} {x d : Addr} {i : Nat} {tm : Tok} {Q : Value → Shared → Prop} (hroom : c.dp + 2 < recursionLimit) (hi : i ≤ b.length) (hb : b.length ≤ 1000) (h1 : (x, instObj 271 d) ∈ n) (h2 : ScAt w n d b i) (hne : @Ne Nat x d)
    (hbad : b.length < i + 4 → ∀ e, Rai c n l e)
    (k : ∀ r n', i + 4 ≤ b.length → BW ((b.drop i).take 4) r → ScTo w n n' d b (i + 4) → Go c n' l Q r) : At c n l (call (.ref 240) [.ref x, .int 4 tm]) Q := by
  have h2' := h2
  obtain ⟨k1, k2, k3, tb, ti, te, m⟩ := h2
  refine At.enter (by exact rfl) (by omega) [Str.ofString "self", Str.ofString "many"] [] [(Str.ofString "self", some (.ref x)), (Str.ofString "many", some (.int 4 tm))] fun c' RQ hI => ?_
  have hw := hI.wk
  refine .guard (.or2 (.cmp (EvP.r (P := IV 4) (.name rfl) ⟨_, rfl⟩) .int fun a b ha hb => .iLt ha hb) fun _ => .cmp (EvP.r (P := IV 4) (.name rfl) ⟨_, rfl⟩) (.left (by rw [hw.dp]; lia) (.name rfl) h1 h2') fun a b ha hb => .iGt ha hb)
    (fun hp => At.raise hw (by omega) fun x t d hne h tk H => hI.rai (hbad (by lia) x) h tk H hne) fun hp => ?_
  have hlt : i + 4 ≤ b.length := by lia
  refine .augA rfl h1 m pl_at rfl (EvP.r (P := IV 4) (.name rfl) ⟨_, rfl⟩) fun t' => At.set (es' := scanEs w k1 k2 k3 (.bytes b.toArray tb) ((i : Int) + 4) t' (b.length : Int) te) (k' := 3) h1 m hne ps_at rfl (fun _ => rfl) (Nat.le_of_ble_eq_true rfl) fun n2 M2 => ?_
  have h3 := M2.sub _ h1 hne
  refine At.retQ ?_
  refine (EvR.cutB (EvP.r (P := BW b) (.attr (.name rfl) h3 M2.mem pl_octets rfl rfl) ⟨_, rfl⟩) (.some (.isub (EvP.r (P := IV ((i : Int) + 4)) (.attr (.name rfl) h3 M2.mem pl_at rfl rfl) ⟨_, rfl⟩) (EvP.r (P := IV 4) (.name rfl) ⟨_, rfl⟩))) (.some (EvP.r (P := IV ((i : Int) + 4)) (.attr (.name rfl) h3 M2.mem pl_at rfl rfl) ⟨_, rfl⟩)) (by lia) : EvR c' n2 _ _ _) _ fun r hr => ?_
  rw [show (i : Int) + 4 - 4 = (i : Int) by lia, show (i : Int) + 4 = ((i + 4 : Nat) : Int) by lia, slc_mid (by omega) (by lia), Nat.add_sub_cancel_left] at hr
  exact hI.ret _ _ _ (k _ _ hlt hr (.of M2))
end
end
section
noncomputable def tnum (c : Bs) : Option Int := if c = [45, 49] then some (-1 : Int) else (num c).map fun (k : Nat) => (k : Int)
noncomputable def rhead (r : Bs) : Option (Bs × Int × Nat × Bs) :=
  match cut 0 r with
  | none => none
  | some (nm, r1) => match cut 32 r1 with
    | none => none
    | some (c, r2) => match cut 10 r2 with
      | none => none
      | some (m, r3) => match tnum c, num m with
        | some told, some many => some (nm, told, many, r3)
        | _, _ => none
noncomputable def roid (told : Int) (r : Bs) : Option (Option Bs × Bs) := if told < 0 then some (none, r) else if r.length < 4 then none else some (some (r.take 4), r.drop 4)
theorem rhead_len {r : Bs} {nm : Bs} {told : Int} {many : Nat} {r3 : Bs} (h : rhead r = some (nm, told, many, r3)) : r3.length + 3 ≤ r.length ∧ -1 ≤ told := by
  unfold rhead at h
  cases h1 : cut 0 r with
  | none => rw [h1] at h; cases h
  | some p1 =>
    obtain ⟨n1, r1⟩ := p1
    rw [h1] at h
    dsimp only at h
    cases h2 : cut 32 r1 with
    | none => rw [h2] at h; cases h
    | some p2 =>
      obtain ⟨c, r2⟩ := p2
      rw [h2] at h
      dsimp only at h
      cases h3 : cut 10 r2 with
      | none => rw [h3] at h; cases h
      | some p3 =>
        obtain ⟨m, r4⟩ := p3
        rw [h3] at h
        dsimp only at h
        have l1 := cut_len h1
        have l2 := cut_len h2
        have l3 := cut_len h3
        split at h
        · rename_i a b ha hb
          cases h
          refine ⟨by lia, ?_⟩
          unfold tnum at ha
          split at ha
          · cases ha; lia
          · refine X1_2 (Option.map_eq_some_iff.mp ha) ?_; rintro k _ rfl
            lia
        · cases h
theorem roid_len {told : Int} {r : Bs} {o : Option Bs} {r2 : Bs} (h : roid told r = some (o, r2)) : r2.length ≤ r.length := by
  unfold roid at h
  split at h
  · cases h; exact Nat.le_refl _
  · split at h
    · cases h
    · cases h; simp
noncomputable def rone (rec : Nat → Bs → Option (List Tree × Bs)) (inner : Bool) (r : Bs) : Option (Tree × Bs) :=
  match rhead r with
  | none => none
  | some (nm, told, many, r1) => if nm.isEmpty = inner then none else match roid told r1 with
    | none => none
    | some (o, r2) => match rec many r2 with
      | none => none
      | some (ts, r3) => some (.mk nm told o ts, r3)
noncomputable def rds : Nat → Nat → Bs → Option (List Tree × Bs)
  | _, 0, r => some ([], r)
  | 0, _ + 1, _ => none
  | f + 1, k + 1, r => match rone (rds f) true r with
    | none => none
    | some (t, r1) => match rds f k r1 with
      | none => none
      | some (ts, r2) => some (t :: ts, r2)
theorem rone_len {rec : Nat → Bs → Option (List Tree × Bs)} (hrec : ∀ k r ts r', rec k r = some (ts, r') → r'.length ≤ r.length) {inner : Bool} {r : Bs} {t : Tree} {r' : Bs} (h : rone rec inner r = some (t, r')) : r'.length + 3 ≤ r.length := by
  unfold rone at h
  cases h1 : rhead r with
  | none => rw [h1] at h; cases h
  | some p =>
    obtain ⟨nm, told, many, r1⟩ := p
    rw [h1] at h
    dsimp only at h
    split at h
    · cases h
    cases h2 : roid told r1 with
    | none => rw [h2] at h; cases h
    | some p2 =>
      obtain ⟨o, r2⟩ := p2
      rw [h2] at h
      dsimp only at h
      cases h3 : rec many r2 with
      | none => rw [h3] at h; cases h
      | some p3 =>
        obtain ⟨ts, r3⟩ := p3
        rw [h3] at h
        cases h
        have := (rhead_len h1).1
        have := roid_len h2
        have := hrec _ _ _ _ h3
        lia
theorem rds_len : ∀ {f k : Nat} {r : Bs} {ts : List Tree} {r' : Bs}, rds f k r = some (ts, r') → r'.length + 3 * k ≤ r.length
  | f, 0, r, ts, r', h => by unfold rds at h; cases h; simp
  | 0, k + 1, r, ts, r', h => by unfold rds at h; cases h
  | f + 1, k + 1, r, ts, r', h => by
    unfold rds at h
    cases h1 : rone (rds f) true r with
    | none => rw [h1] at h; cases h
    | some p =>
      obtain ⟨t, r1⟩ := p
      rw [h1] at h
      dsimp only at h
      cases h2 : rds f k r1 with
      | none => rw [h2] at h; cases h
      | some p2 =>
        obtain ⟨us, r2⟩ := p2
        rw [h2] at h
        cases h
        have := rone_len (fun k r ts r' q => by have := rds_len q; lia) h1
        have := rds_len h2
        lia
theorem rone_congr {rec rec' : Nat → Bs → Option (List Tree × Bs)} {inner : Bool} {r : Bs} (h : ∀ k r', r'.length + 3 ≤ r.length → rec k r' = rec' k r') : rone rec inner r = rone rec' inner r := by
  unfold rone
  cases h1 : rhead r with
  | none => rfl
  | some p =>
    obtain ⟨nm, told, many, r1⟩ := p
    dsimp only
    split
    · rfl
    cases h2 : roid told r1 with
    | none => rfl
    | some p2 =>
      obtain ⟨o, r2⟩ := p2
      dsimp only
      have := (rhead_len h1).1
      have := roid_len h2
      rw [h many r2 (by lia)]
theorem rds_fuel : ∀ {f g k : Nat} {r : Bs}, r.length ≤ f → r.length ≤ g → rds f k r = rds g k r
  | f, g, 0, r, _, _ => by unfold rds; rfl
  | 0, 0, k + 1, r, _, _ => rfl
  | 0, g + 1, k + 1, r, hf, _ => by
    have : r = [] := List.length_eq_zero_iff.mp (by lia)
    subst this
    rfl
  | f + 1, 0, k + 1, r, _, hg => by
    have : r = [] := List.length_eq_zero_iff.mp (by omega)
    subst this
    rfl
  | f + 1, g + 1, k + 1, r, hf, hg => by
    unfold rds
    rw [rone_congr (rec' := rds g) fun k r' hr => rds_fuel (by lia) (by lia)]
    cases h1 : rone (rds g) true r with
    | none => rfl
    | some p =>
      obtain ⟨t, r1⟩ := p
      dsimp only
      have := rone_len (fun k r ts r' q => by have := rds_len q; lia) h1
      rw [rds_fuel (f := f) (g := g) (by omega) (by omega)]
noncomputable def rdl (k : Nat) (r : Bs) : Option (List Tree × Bs) := rds r.length k r
theorem rdl_zero {r : Bs} : rdl 0 r = some ([], r) := by unfold rdl rds; rfl
theorem rdl_succ {k : Nat} {r : Bs} : rdl (k + 1) r = match rone rdl true r with
    | none => none
    | some (t, r1) => match rdl k r1 with
      | none => none
      | some (ts, r2) => some (t :: ts, r2) := by
  have e : rdl (k + 1) r = rds (r.length + 1) (k + 1) r := rds_fuel (Nat.le_refl _) (Nat.le_succ _)
  rw [e]
  unfold rds
  rw [rone_congr (rec' := rdl) fun k r' hr => rds_fuel (by lia) (Nat.le_refl _)]
  cases h1 : rone rdl true r with
  | none => rfl
  | some p =>
    obtain ⟨t, r1⟩ := p
    dsimp only
    have := rone_len (rec := rdl) (fun k r ts r' q => by have := rds_len q; omega) h1
    rw [show rds r.length k r1 = rdl k r1 from rds_fuel (by omega) (Nat.le_refl _)]
theorem rdl_len {k : Nat} {r : Bs} {ts : List Tree} {r' : Bs} (h : rdl k r = some (ts, r')) : r'.length + 3 * k ≤ r.length := rds_len h
noncomputable def rtop (b : Bs) : Option Tree := match rone rdl false b with
  | some (t, []) => some t
  | _ => none
theorem rone_good {rec : Nat → Bs → Option (List Tree × Bs)} {inner : Bool} {r r1 r2 r3 nm : Bs} {told : Int} {many : Nat} {o : Option Bs} {ts : List Tree} (h1 : rhead r = some (nm, told, many, r1)) (h2 : nm.isEmpty ≠ inner) (h3 : roid told r1 = some (o, r2)) (h4 : rec many r2 = some (ts, r3)) :
    rone rec inner r = some (.mk nm told o ts, r3) := by
  unfold rone
  rw [h1]
  dsimp only
  rw [if_neg h2, h3]
  dsimp only
  rw [h4]
theorem rone_none {rec : Nat → Bs → Option (List Tree × Bs)} {inner : Bool} {r : Bs} (h : ∀ nm told many r1 o r2, rhead r = some (nm, told, many, r1) → nm.isEmpty ≠ inner → roid told r1 = some (o, r2) → rec many r2 = none) :
    rone rec inner r = none := by
  unfold rone
  cases h1 : rhead r with
  | none => rfl
  | some p =>
    obtain ⟨nm, told, many, r1⟩ := p
    dsimp only
    split
    · rfl
    · rename_i h2
      cases h3 : roid told r1 with
      | none => rfl
      | some p2 =>
        obtain ⟨o, r2⟩ := p2
        dsimp only
        rw [h _ _ _ _ _ _ h1 h2 h3]
theorem rdl_cnt : ∀ {k : Nat} {r : Bs} {ts : List Tree} {r' : Bs}, rdl k r = some (ts, r') → ts.length = k
  | 0, r, ts, r', h => by rw [rdl_zero] at h; cases h; rfl
  | k + 1, r, ts, r', h => by
    rw [rdl_succ] at h
    cases h1 : rone rdl true r with
    | none => rw [h1] at h; cases h
    | some p =>
      obtain ⟨t, r1⟩ := p
      rw [h1] at h
      dsimp only at h
      cases h2 : rdl k r1 with
      | none => rw [h2] at h; cases h
      | some p2 =>
        obtain ⟨us, r2⟩ := p2
        rw [h2] at h
        cases h
        rw [List.length_cons, rdl_cnt h2]
theorem rdl_none_of {k : Nat} {r b : Bs} {i : Nat} (hr : r.length ≤ b.length) (h : b.length < k) (_ : i = i) : rdl k r = none := by
  cases e : rdl k r with
  | none => rfl
  | some p =>
    obtain ⟨ts, r'⟩ := p
    have := rdl_len e
    lia
theorem rdl_bad {b : Bs} {i k : Nat} (h : ∀ nm told many r1 o r2, rhead (b.drop i) = some (nm, told, many, r1) → nm.isEmpty = false → roid told r1 = some (o, r2) → b.length < many) : rdl (k + 1) (b.drop i) = none := by
  rw [rdl_succ, rone_none]
  intro nm told many r1 o r2 h1 h2 h3
  have l1 := rhead_len h1
  have l2 := roid_len h3
  rw [List.length_drop] at l1
  exact rdl_none_of (b := b) (i := 0) (by omega) (h nm told many r1 o r2 h1 (by simpa using h2) h3) rfl
theorem rdl_bad1 {b : Bs} {i i2 k : Nat} {nm r1 : Bs} {told : Int} {many : Nat} {o : Option Bs} (h1 : rhead (b.drop i) = some (nm, told, many, r1)) (h2 : nm.isEmpty = false) (h3 : roid told r1 = some (o, b.drop i2)) (h : rdl many (b.drop i2) = none) :
    rdl (k + 1) (b.drop i) = none := by
  rw [rdl_succ, rone_none]
  intro nm' told' many' r1' o' r2' g1 g2 g3
  rw [h1] at g1
  cases g1
  rw [h3] at g3
  cases g3
  exact h
theorem rdl_bad2 {b : Bs} {i i2 i3 k : Nat} {nm r1 : Bs} {told : Int} {many : Nat} {o : Option Bs} {ts : List Tree} (h1 : rhead (b.drop i) = some (nm, told, many, r1)) (h2 : nm.isEmpty = false) (h3 : roid told r1 = some (o, b.drop i2)) (h4 : rdl many (b.drop i2) = some (ts, b.drop i3)) (h : rdl k (b.drop i3) = none) :
    rdl (k + 1) (b.drop i) = none := by
  rw [rdl_succ, rone_good h1 (by simp [h2]) h3 h4]
  dsimp only
  rw [h]
theorem rdl_good {b : Bs} {i i2 i3 i4 k : Nat} {nm r1 : Bs} {told : Int} {many : Nat} {o : Option Bs} {ts ts2 : List Tree} (h1 : rhead (b.drop i) = some (nm, told, many, r1)) (h2 : nm.isEmpty = false) (h3 : roid told r1 = some (o, b.drop i2)) (h4 : rdl many (b.drop i2) = some (ts, b.drop i3)) (h : rdl k (b.drop i3) = some (ts2, b.drop i4)) :
    rdl (k + 1) (b.drop i) = some (.mk nm told o ts :: ts2, b.drop i4) := by
  rw [rdl_succ, rone_good h1 (by simp [h2]) h3 h4]
  dsimp only
  rw [h]
theorem rtop_bad {b : Bs} (h : ∀ nm told many r1 o r2, rhead (b.drop 0) = some (nm, told, many, r1) → nm.isEmpty = true → roid told r1 = some (o, r2) → b.length < many) : rtop b = none := by
  unfold rtop
  rw [rone_none]
  intro nm told many r1 o r2 h1 h2 h3
  have l1 := rhead_len h1
  have l2 := roid_len h3
  exact rdl_none_of (b := b) (i := 0) (by lia) (h nm told many r1 o r2 h1 (by simpa using h2) h3) rfl
theorem rtop_bad1 {b : Bs} {i2 : Nat} {nm r1 : Bs} {told : Int} {many : Nat} {o : Option Bs} (h1 : rhead (b.drop 0) = some (nm, told, many, r1)) (_ : nm.isEmpty = true) (h3 : roid told r1 = some (o, b.drop i2)) (h : rdl many (b.drop i2) = none) : rtop b = none := by
  unfold rtop
  rw [rone_none]
  intro nm' told' many' r1' o' r2' g1 g2 g3
  rw [List.drop_zero] at h1
  rw [h1] at g1
  cases g1
  rw [h3] at g3
  cases g3
  exact h
theorem rtop_end {b : Bs} {i2 i3 : Nat} {nm r1 : Bs} {told : Int} {many : Nat} {o : Option Bs} {ts : List Tree} (h1 : rhead (b.drop 0) = some (nm, told, many, r1)) (h2 : nm.isEmpty = true) (h3 : roid told r1 = some (o, b.drop i2)) (h4 : rdl many (b.drop i2) = some (ts, b.drop i3)) :
    (i3 < b.length → rtop b = none) ∧ (i3 = b.length → rtop b = some (.mk nm told o ts)) := by
  rw [List.drop_zero] at h1
  unfold rtop
  rw [rone_good (inner := false) h1 (by simp [h2]) h3 h4]
  constructor
  · intro hlt
    cases e : b.drop i3 with
    | nil => rw [List.drop_eq_nil_iff] at e; omega
    | cons c r => rfl
  · rintro rfl
    rw [List.drop_length]
theorem rhead_n1 {r : Bs} (h : cut 0 r = none) : rhead r = none := by unfold rhead; rw [h]
theorem rhead_n2 {r u v : Bs} (h : cut 0 r = some (u, v)) (h2 : cut 32 v = none) : rhead r = none := by unfold rhead; rw [h]; dsimp only; rw [h2]
theorem rhead_n3 {r u v u2 v2 : Bs} (h : cut 0 r = some (u, v)) (h2 : cut 32 v = some (u2, v2)) (h3 : cut 10 v2 = none) : rhead r = none := by unfold rhead; rw [h]; dsimp only; rw [h2]; dsimp only; rw [h3]
noncomputable def rhM (u v3 : Bs) (a : Option Int) (m : Option Nat) : Option (Bs × Int × Nat × Bs) := match a, m with
  | some told, some many => some (u, told, many, v3)
  | _, _ => none
theorem rhead_eq {r u v u2 v2 u3 v3 : Bs} (h : cut 0 r = some (u, v)) (h2 : cut 32 v = some (u2, v2)) (h3 : cut 10 v2 = some (u3, v3)) : rhead r = rhM u v3 (tnum u2) (num u3) := by
  unfold rhead; rw [h]; dsimp only; rw [h2]; dsimp only; rw [h3]; rfl
noncomputable def BadRow (b : Bs) (i : Nat) (fb : Bool) : Prop := ∀ nm told many r1 o r2, rhead (b.drop i) = some (nm, told, many, r1) → nm.isEmpty = fb → roid told r1 = some (o, r2) → b.length < many
theorem BadRow.of {b : Bs} {i : Nat} {fb : Bool} (h : rhead (b.drop i) = none) : BadRow b i fb := fun _ _ _ _ _ _ e => by rw [h] at e; cases e
theorem BadRow.at_ {b : Bs} {i : Nat} {fb : Bool} {nm : Bs} {told : Int} {many : Nat} {r1 : Bs} (h : rhead (b.drop i) = some (nm, told, many, r1)) (h2 : nm.isEmpty = fb → ∀ o r2, roid told r1 = some (o, r2) → b.length < many) : BadRow b i fb := fun nm' told' many' r1' o r2 e => by
  rw [h] at e
  cases e
  exact fun q => h2 q o r2
end
section
structure RdS (w : World) (N : Led) (b : Bs) (ds wl : Addr) (i : Nat) (us : List Value) (n : Led) : Prop where
  at_ : ScAt w n ds b i
  wl : ∃ k, (wl, lstN us k) ∈ n
  le : i ≤ b.length
  bnd : us.length + 100 * (b.length - i) ≤ 50000
  sub : ∀ q ∈ N, q ∈ n
structure RdN (w : World) (N : Led) (ds wl : Addr) (n : Led) (x d p : Addr) (nm : Bs) (cn : Int) (od : Option Bs) (vs : List Value) : Prop where
  mx : (x, instObj 207 d) ∈ n
  md : ∃ t1 t2 t3 t4 t5 tn vo, (d, dictOf (treeEs w t1 t2 t3 t4 t5 (.bytes nm.toArray tn) vo cn p) 4) ∈ n ∧ OV vo od
  mp : ∃ k, (p, lstN vs k) ∈ n
  xs : @Ne Nat x ds
  xw : @Ne Nat x wl
  xp : @Ne Nat x p
  xd : @Ne Nat x d
  dd : @Ne Nat d ds
  dw : @Ne Nat d wl
  dp : @Ne Nat d p
  ps : @Ne Nat p ds
  pw : @Ne Nat p wl
  nd : ∀ q ∈ N, @Ne Nat q.1 d
  np : ∀ q ∈ N, @Ne Nat q.1 p
theorem RdN.sub {w : World} {N : Led} {ds wl : Addr} {n n' : Led} {x d p : Addr} {nm : Bs} {cn : Int} {od : Option Bs} {vs vs' : List Value} (h : RdN w N ds wl n x d p nm cn od vs) (hs : ∀ q ∈ n, @Ne Nat q.1 ds → @Ne Nat q.1 wl → @Ne Nat q.1 p → q ∈ n') (hp : ∃ k, (p, lstN vs' k) ∈ n') : RdN w N ds wl n' x d p nm cn od vs' :=
  ⟨hs _ h.mx h.xs h.xw h.xp, h.md.elim fun t1 ⟨t2, t3, t4, t5, tn, vo, m, o⟩ => Y7_2 t1 t2 t3 t4 t5 tn vo (hs _ m h.dd h.dw h.dp) o, hp, h.xs, h.xw, h.xp, h.xd, h.dd, h.dw, h.dp, h.ps, h.pw, h.nd, h.np⟩
inductive RdM (n n' : Led) (ds wl xa da pa : Addr) (vs : List Value) : Bool → Addr → Addr → Addr → Prop
  | root (keep : ∀ q ∈ n, @Ne Nat q.1 ds → @Ne Nat q.1 wl → @Ne Nat q.1 da → q ∈ n') : RdM n n' ds wl xa da pa vs true xa da pa
  | part {x d p : Addr} (keep : ∀ q ∈ n, @Ne Nat q.1 ds → @Ne Nat q.1 wl → @Ne Nat q.1 pa → q ∈ n') (mp : ∃ k, (pa, lstN (vs ++ [.ref x]) k) ∈ n') (nx : ∀ q ∈ n, @Ne Nat q.1 x) (nd : ∀ q ∈ n, @Ne Nat q.1 d) (np : ∀ q ∈ n, @Ne Nat q.1 p) : RdM n n' ds wl xa da pa vs false x d p
theorem RdM.step {n k k' : Led} {ds wl xa da pa x d p : Addr} {vs : List Value} {fb : Bool} (h : RdM n k ds wl xa da pa vs fb x d p) (hp : ∃ o, (pa, o) ∈ n) (h1 : @Ne Nat pa ds) (h2 : @Ne Nat pa wl) (hs : ∀ q ∈ k, @Ne Nat q.1 ds → @Ne Nat q.1 wl → @Ne Nat q.1 d → q ∈ k') : RdM n k' ds wl xa da pa vs fb x d p := by
  cases h with
  | root keep => exact .root fun q hq a b c => hs q (keep q hq a b c) a b c
  | part keep mp nx nd np =>
    obtain ⟨o, ho⟩ := hp
    obtain ⟨k, mp⟩ := mp
    exact .part (fun q hq a b c => hs q (keep q hq a b c) a b (nd q hq)) ⟨k, hs _ mp h1 h2 (show @Ne Nat pa d from nd _ ho)⟩ nx nd np
structure RdG (n n' : Led) (ds wl pa : Addr) (tl : Led) : Prop where
  keep : ∀ q ∈ n, @Ne Nat q.1 ds → @Ne Nat q.1 wl → @Ne Nat q.1 pa → q ∈ n'
  new : ∀ q ∈ tl, q ∈ n'
  ap : Apart n tl
theorem apart_via {n n1 tl : Led} {ds wl pa : Addr} {o1 o2 o3 : Obj} (ha : Apart n1 tl) (hk : ∀ q ∈ n, @Ne Nat q.1 ds → @Ne Nat q.1 wl → @Ne Nat q.1 pa → q ∈ n1) (h1 : (ds, o1) ∈ n1) (h2 : (wl, o2) ∈ n1) (h3 : (pa, o3) ∈ n1) : Apart n tl := fun q hq p hp => by
  by_cases e1 : q.1 = ds
  · rw [e1]; exact ha _ h1 p hp
  by_cases e2 : q.1 = wl
  · rw [e2]; exact ha _ h2 p hp
  by_cases e3 : q.1 = pa
  · rw [e3]; exact ha _ h3 p hp
  exact ha _ (hk q hq e1 e2 e3) p hp
noncomputable def TurnT (w : World) (W : Led → Fm → Prop) (Fr : Bool → Fm → Prop) (Z : Prop) (N : Led) (b : Bs) (ds wl xr : Addr) : Prop :=
  ∀ (fb : Bool) (i : Nat) (us : List Value) (xa da pa : Addr) (na : Bs) (ca : Int) (oa : Option Bs) (vs : List Value) (n : Led) (l : Fm), RdS w N b ds wl i (us ++ [.ref xa]) n → RdN w N ds wl n xa da pa na ca oa vs → (fb = true → vs = [] ∧ na = [] ∧ xa = xr) → vs.length ≤ i → Fr fb l →
    (BadRow b i fb → Z) →
    (∀ nm told many r1 o i2 n' l' x d p, rhead (b.drop i) = some (nm, told, many, r1) → nm.isEmpty = fb → roid told r1 = some (o, b.drop i2) → many ≤ b.length → i + 3 ≤ i2 → Fr false l' →
      RdS w N b ds wl i2 (us ++ List.replicate many (.ref x)) n' → RdN w N ds wl n' x d p nm told o [] → RdM n n' ds wl xa da pa vs fb x d p → W n' l') → W n l
theorem rows_W {w : World} {W : Led → Fm → Prop} {Fr : Bool → Fm → Prop} {Z : Prop} {N : Led} {b : Bs} {ds wl xr : Addr} (hb : b.length ≤ 200) (turn : TurnT w W Fr Z N b ds wl xr) : ∀ (f k i : Nat) (us : List Value) (xa da pa : Addr) (na : Bs) (ca : Int) (oa : Option Bs) (vs : List Value) (n : Led) (l : Fm), 1000 * (b.length - i) + k ≤ f →
    RdS w N b ds wl i (us ++ List.replicate k (.ref xa)) n → RdN w N ds wl n xa da pa na ca oa vs → vs.length ≤ i → Fr false l → (rdl k (b.drop i) = none → Z) →
    (∀ ts i2 ws n' l' tl, rdl k (b.drop i) = some (ts, b.drop i2) → Fr false l' → RdS w N b ds wl i2 us n' → RdN w N ds wl n' xa da pa na ca oa (vs ++ ws) → RdG n n' ds wl pa tl → TreesIn w tl ws ts → W n' l') → W n l := by
  intro f
  induction f with
  | zero =>
    intro k i us xa da pa na ca oa vs n l hf hS hN hv hF hbad cont
    obtain rfl : k = 0 := by lia
    rw [List.replicate_zero, List.append_nil] at hS
    exact cont [] i [] n l [] rdl_zero hF hS (by rw [List.append_nil]; exact hN) ⟨fun _ h _ _ _ => h, fun _ h => (nomatch h), Apart.nil⟩ (trivial)
  | succ f ih =>
    intro k i us xa da pa na ca oa vs n l hf hS hN hv hF hbad cont
    cases k with
    | zero =>
      rw [List.replicate_zero, List.append_nil] at hS
      exact cont [] i [] n l [] rdl_zero hF hS (by rw [List.append_nil]; exact hN) ⟨fun _ h _ _ _ => h, fun _ h => (nomatch h), Apart.nil⟩ (trivial)
    | succ k =>
      rw [List.replicate_succ', ← List.append_assoc] at hS
      refine turn false i _ xa da pa na ca oa vs n l hS hN (fun h => nomatch h) hv hF (fun hB => hbad (rdl_bad hB)) ?_
      intro nm told many r1 o i2 n1 l1 x d p h1 h2 h3 h4 h5 hF1 hS1 hN1 hM
      cases hM with
      | part keep mp nx nd np =>
      have hle := hS1.le
      refine ih many i2 _ x d p nm told o [] n1 l1 (by lia) hS1 hN1 (Nat.zero_le _) hF1 (fun e => hbad (rdl_bad1 h1 h2 h3 e)) ?_
      intro ts1 i3 ws1 n2 l2 tl1 g1 hF2 hS2 hN2 hG1 hT1
      rw [List.nil_append] at hN2
      have hlen := rdl_len g1
      rw [List.length_drop, List.length_drop] at hlen
      have hle3 := hS2.le
      have pn : ∃ o, (pa, o) ∈ n := hN.mp.elim fun _ h => ⟨_, h⟩
      obtain ⟨opa, pn⟩ := pn
      have kp2 : ∀ q ∈ n, @Ne Nat q.1 ds → @Ne Nat q.1 wl → @Ne Nat q.1 pa → q ∈ n2 := fun q hq a b c => hG1.keep q (keep q hq a b c) a b (np q hq)
      have mpa : ∃ k, (pa, lstN (vs ++ [.ref x]) k) ∈ n2 := mp.elim fun k m => ⟨k, hG1.keep _ m hN.ps hN.pw (show @Ne Nat pa p from np _ pn)⟩
      refine ih k i3 us xa da pa na ca oa (vs ++ [.ref x]) n2 l2 (by lia) hS2 (hN.sub kp2 mpa) (by rw [List.length_append, show [Value.ref x].length = 1 from rfl]; lia) hF2 (fun e => hbad (rdl_bad2 h1 h2 h3 g1 e)) ?_
      intro ts2 i4 ws2 n3 l3 tl2 g2 hF3 hS3 hN3 hG2 hT2
      refine X7_2 hN2.md fun t1 t2 t3 t4 t5 tn vo md ho => ?_
      obtain ⟨kp, mp2⟩ := hN2.mp
      have apn : Apart n tl1 := by
        obtain ⟨_, _, _, _, _, _, m1⟩ := hS1.at_
        obtain ⟨_, m2⟩ := hS1.wl
        obtain ⟨_, m3⟩ := mp
        exact apart_via hG1.ap keep m1 m2 m3
      have apn2 : Apart n tl2 := by
        obtain ⟨_, _, _, _, _, _, m1⟩ := hS2.at_
        obtain ⟨_, m2⟩ := hS2.wl
        obtain ⟨_, m3⟩ := mpa
        exact apart_via hG2.ap kp2 m1 m2 m3
      have npa := np _ pn
      have up : ∀ q ∈ n2, @Ne Nat q.1 ds → @Ne Nat q.1 wl → @Ne Nat q.1 pa → q ∈ n3 := hG2.keep
      have sc1 : ∀ q ∈ tl1, q ∈ n3 := fun q hq => by
        obtain ⟨_, _, _, _, _, _, m1⟩ := hS1.at_
        obtain ⟨_, m2⟩ := hS1.wl
        obtain ⟨_, m3⟩ := mp
        exact up q (hG1.new q hq) (Ne.symm (hG1.ap _ m1 q hq)) (Ne.symm (hG1.ap _ m2 q hq)) (Ne.symm (hG1.ap _ m3 q hq))
      refine cont (.mk nm told o ts1 :: ts2) i4 (.ref x :: ws2) n3 l3 ((x, instObj 207 d) :: (d, dictOf (treeEs w t1 t2 t3 t4 t5 (.bytes nm.toArray tn) vo told p) 4) :: (p, lstN ws1 kp) :: (tl1 ++ tl2)) (rdl_good h1 h2 h3 g1 g2) hF3 hS3 (by rw [List.append_assoc] at hN3; exact hN3) ⟨fun q hq a b c => up q (kp2 q hq a b c) a b c, ?_, ?_⟩ ?_
      · intro q hq
        rcases List.mem_cons.mp hq with rfl | hq
        · exact up _ hN2.mx hN2.xs hN2.xw (Ne.symm (nx _ pn))
        rcases List.mem_cons.mp hq with rfl | hq
        · exact up _ md hN2.dd hN2.dw (Ne.symm (nd _ pn))
        rcases List.mem_cons.mp hq with rfl | hq
        · exact up _ mp2 hN2.ps hN2.pw (Ne.symm npa)
        rcases List.mem_append.mp hq with hq | hq
        · exact sc1 q hq
        · exact hG2.new q hq
      · intro q hq p' hp'
        rcases List.mem_cons.mp hp' with rfl | hp'
        · exact nx q hq
        rcases List.mem_cons.mp hp' with rfl | hp'
        · exact nd q hq
        rcases List.mem_cons.mp hp' with rfl | hp'
        · exact np q hq
        rcases List.mem_append.mp hp' with hp' | hp'
        · exact apn q hq p' hp'
        · exact apn2 q hq p' hp'
      · have hl1 := trees_len hT1
        have hc1 := rdl_cnt g1
        show _ ∧ _
        refine ⟨?_, hT2.mono fun q hq => .tail _ (.tail _ (.tail _ (List.mem_append_right _ hq)))⟩
        show Exists _
        exact Y12_7 x d tn vo p t1 t2 t3 t4 t5 ws1 kp rfl (.head _) (.tail _ (.head _)) ho (.tail _ (.tail _ (.head _))) (hT1.mono fun q hq => .tail _ (.tail _ (.tail _ (List.mem_append_left _ hq)))) (by lia)
end
section
section
variable {w : World} {c : Cx w} {n : Led} {l : Fm} {rest : List Stmt} {sc : Scope} {d u : Nat} {b : Bool}
theorem ScAt.sub {n' : Led} {d : Addr} {b : Bs} {i : Nat} (h : ScAt w n d b i) (hs : ∀ q ∈ n, q.1 = d → q ∈ n') : ScAt w n' d b i := by
  obtain ⟨k1, k2, k3, tb, ti, te, m⟩ := h
  exact ⟨k1, k2, k3, tb, ti, te, hs _ m rfl⟩
theorem EvR.cmpV {e1 e2 : PySem.Expr} {op : CmpOp} {pos : Pos} {P1 P2 : Value → Prop} {p : Prop} (h1 : EvR c n l e1 P1) (h2 : EvR c n l e2 P2) (hc : ∀ a b, P1 a → P2 b → Cmp op a b p) (hm : behindInMarks op e2 = false := by with_unfolding_all rfl) :
    EvR c n l (.Compare e1 [op] [e2] pos) fun v => ∃ x, v = .bool x ∧ (x = true ↔ p) := fun Q kk => .eCmp (fun h tk H => h1 _ (fun a ha h tk H => h2 _ (fun b hb h tk H => hc a b ha hb _ _ _ _ _ _ fun x hx => kk _ (Y1_2 x rfl hx) h tk H) h tk H) h tk H) hm
theorem Cmp.boolNe {p q : Prop} {x y : Bool} (hx : x = true ↔ p) (hy : y = true ↔ q) : Cmp .NotEq (.bool x) (.bool y) (¬ (p ↔ q)) := fun _ _ _ _ _ _ k => ne_bool (k _ (by rw [← hx, ← hy]; cases x <;> cases y <;> simp))
theorem Tst.or4 {e1 e2 e3 e4 : PySem.Expr} {pos : Pos} {p q r s : Prop} (h1 : Tst c n l e1 p) (h2 : ¬ p → Tst c n l e2 q) (h3 : ¬ p → ¬ q → Tst c n l e3 r) (h4 : ¬ p → ¬ q → ¬ r → Tst c n l e4 s) : Tst c n l (.BoolOp .Or [e1, e2, e3, e4] pos) (p ∨ q ∨ r ∨ s) := fun Q k1 k2 h tk H =>
  isTrue_or (h1 (fun b s' => if b = true then Q true s' else wpAny (model PR w) c.A (isTrue (.BoolOp .Or [e2, e3, e4] pos) c.env (eval (.BoolOp .Or [e2, e3, e4] pos) c.env)) Q c.E s')
    (fun hp h tk H => ite_tt (k1 (.inl hp) h tk H))
    (fun hp h tk H => ite_ff (Tst.or3 (h2 hp) (h3 hp) (h4 hp) Q (fun hq => k1 (.inr hq)) (fun hq => k2 fun x => x.elim hp hq) h tk H)) h tk H)
noncomputable def Nx2 {w : World} (c : Cx w) (R : Led → Fm → Prop) (Q : Flow → Shared → Prop) (f : Flow) (s' : Shared) : Prop := match f with
  | .next => ∃ h tk n' l', s' = { c.s with heap := h, toks := tk } ∧ R n' l' ∧ Hp c n' l' h
  | f => Q f s'
theorem Go.nx2 {R : Led → Fm → Prop} {Q : Flow → Shared → Prop} (h : R n l) : Go c n l (Nx2 c R Q) .next := fun h' tk H => Y4_3 h' tk n l rfl h H
theorem At.ifJ2 {test : PySem.Expr} {body orelse : List Stmt} {pos : Pos} {p : Prop} {R : Led → Fm → Prop} {Q : Flow → Shared → Prop} (h : Tst c n l test p) (k1 : p → At c n l (execs body c.env) (Nx2 c R Q)) (k2 : ¬ p → At c n l (execs orelse c.env) (Nx2 c R Q)) (k : ∀ n' l', R n' l' → At c n' l' (execs rest c.env) Q) : At c n l (execs (.If test body orelse pos :: rest) c.env) Q :=
  have go : ∀ f s', Nx2 c R Q f s' → Th c rest Q f s' := fun f s' q => by
    cases f with
    | next =>
      refine X4_3 q ?_; clear q; rintro h' tk n' l' rfl r H
      exact k n' l' r h' tk H
    | _ => exact q
  .if_ h (fun hp => (k1 hp).mono go) fun hp => (k2 hp).mono go
theorem Go.mul1 {a : Addr} {v v2 : Value} {k : Nat} {x : Nat} {Q : Value → Shared → Prop} (ha : (a, lstN [v] k) ∈ n) (hv : IV (x : Int) v2) (hx : x ≤ 256) (kk : ∀ D n', New n n' D (lstN (List.replicate x v) 0) → Go c n' l Q (.ref D)) : At c n l (binaryOp .Mult (.ref a) v2) Q := fun h tk H => by
  obtain ⟨t, rfl⟩ := hv
  obtain ⟨m, hid, hV, F, N, O⟩ := H
  exact KMa.mul F N (News.isList N (List.mem_append_right _ ha)) (by lia) (by omega) (by simpa using hx) (by rw [Int.toNat_natCast]; exact List.flatten_replicate_singleton) fun D h' F' N' lt => kk D _ (New.of fun p hp => lt p (List.mem_append_right _ hp)) h' tk (Hp.new hV O F' N' lt)
end
noncomputable def TV (v : Value) : Option Int → Prop
  | none => v = .none
  | some k => IV k v
theorem NV.tv {v : Value} {o : Option Nat} (h : NV v o) : TV v (o.map fun (k : Nat) => (k : Int)) := by
  cases o with
  | none => exact h
  | some k => exact h
noncomputable abbrev frRd (b : Bs) (tb t4 : Tok) (sc ro wt fi ab nm ct mn tl on : Option Value) : Fm := [(Str.ofString "octets", some (.bytes b.toArray tb)), (Str.ofString "size", some (.int 4 t4)), (Str.ofString "scan", sc), (Str.ofString "root", ro), (Str.ofString "waiting", wt), (Str.ofString "is_first", fi), (Str.ofString "above", ab), (Str.ofString "name", nm), (Str.ofString "count", ct), (Str.ofString "many", mn), (Str.ofString "told", tl), (Str.ofString "one", on)]
inductive FrRd (b : Bs) (tb t4 : Tok) (xs xr wl : Addr) (fb : Bool) : Fm → Prop
  | mk (ab nm ct mn tl on : Option Value) : FrRd b tb t4 xs xr wl fb (frRd b tb t4 (some (.ref xs)) (some (.ref xr)) (some (.ref wl)) (some (.bool fb)) ab nm ct mn tl on)
theorem At.viaG {w : World} {c : Cx w} {n : Led} {l : Fm} {e : PySem.Expr} {R : Value → Led → Prop} {Q : Value → Shared → Prop} (h : EvG c n l e R) (k : ∀ v n', R v n' → Go c n' l Q v) : At c n l (eval e c.env) Q := h Q k
theorem roid_neg {told : Int} {r : Bs} (h : ¬ 0 ≤ told) : roid told r = some (none, r) := if_pos (by lia)
theorem roid_few {told : Int} {r : Bs} (h : 0 ≤ told) (h2 : r.length < 4) : roid told r = none := by
  unfold roid
  rw [if_neg (by lia), if_pos h2]
theorem roid_pos {told : Int} {r : Bs} (h : 0 ≤ told) (h2 : ¬ r.length < 4) : roid told r = some (some (r.take 4), r.drop 4) := by
  unfold roid
  rw [if_neg (by omega), if_neg h2]
theorem RdM.kept {n n' : Led} {ds wl xa da pa x d p : Addr} {vs : List Value} {fb : Bool} (h : RdM n n' ds wl xa da pa vs fb x d p) {q : Addr × Obj} (hq : q ∈ n) (h1 : @Ne Nat q.1 ds) (h2 : @Ne Nat q.1 wl) (h3 : @Ne Nat q.1 da) (h4 : @Ne Nat q.1 pa) : q ∈ n' := by
  cases h with
  | root keep => exact keep q hq h1 h2 h3
  | part keep mp nx nd np => exact keep q hq h1 h2 h4
inductive RdJ (w : World) (N n0 : Led) (b : Bs) (ds wl xa da pa : Addr) (vs us : List Value) (fb : Bool) (i : Nat) (nm : Bs) (F : Addr → Fm) (k : Led) (l : Fm) : Prop
  | mk (x d p : Addr) (cn : Int) (od : Option Bs) (j : Nat) (hl : l = F x) (hN : RdN w N ds wl k x d p nm cn od []) (hM : RdM n0 k ds wl xa da pa vs fb x d p) (at_ : ScAt w k ds b i) (mw : (wl, lstN us j) ∈ k) : RdJ w N n0 b ds wl xa da pa vs us fb i nm F k l
theorem read_L {w : World} {c : Cx w} {n : Led} {l : Fm} {b : Bs} {tb t4 : Tok} {Q : Value → Shared → Prop} (hb : b.length ≤ 200) (hu : c.un + 20 < cLine) (hroom : c.dp + 5 < recursionLimit) (hbad : rtop b = none → ∀ e, Rai c n l e)
    (kk : ∀ r n' tl t, rtop b = some t → Ext n n' tl → TreeIn w tl r t → Go c n' l Q r) : At c n l (call (.ref 289) [.bytes b.toArray tb, .int 4 t4]) Q := by
  refine At.enter (by exact rfl) (by lia) [Str.ofString "octets", Str.ofString "size"] [Str.ofString "scan", Str.ofString "root", Str.ofString "waiting", Str.ofString "is_first", Str.ofString "above", Str.ofString "name", Str.ofString "count", Str.ofString "many", Str.ofString "told", Str.ofString "one"]
    (frRd b tb t4 none none none none none none none none none none) fun c' RQ hI => ?_
  have hw := hI.wk
  have hr2 : c'.dp + 3 < recursionLimit := by rw [hw.dp]; lia
  refine .assignQ <| .eCall (.glob hw rfl) (.ref rfl) <| .argP (.name rfl) <| .argR .int fun v0 h0 => .argR (.lenB hw (EvP.r (P := BW b) (.name rfl) ⟨_, rfl⟩) (by lia)) fun v1 h1 => .arg0 <| .cq ?_
  obtain ⟨u0, rfl⟩ := h0
  obtain ⟨u1, rfl⟩ := h1
  refine scan_L (by lia) fun xs ds k1 o hN1 hA1 => Go.aq hw ?_
  refine .assignQ <| .eCall (.glob hw rfl) (.ref rfl) <| .argR .bytes fun vb hb0 => .argR (.neg .int) fun vm hm => .argP .none <| .argQ <| .eList <| .arg0 <| At.newLst fun pr k2 hN2 => At.arg0 <| Go.cq ?_
  obtain ⟨ub, rfl⟩ := hb0
  obtain ⟨um, rfl⟩ := hm
  refine At.mk (by omega) fun xr dr q1 q2 q3 q4 k3 hN3 => Go.aq hw ?_
  refine At.swapQ (xs := [Str.ofString "waiting", Str.ofString "is_first"]) hw <| .eTup <| .argQ <| .eList <| .argP (.name rfl) <| .arg0 <| At.newLst fun wl k4 hN4 => At.argP .bool <| At.arg0 <| At.newTup fun T k5 hT => Go.swp2 hw hT.mem ?_
  refine .whA ?_
  have i2 := hN2.sub
  have i3 := hN3.sub
  have i4 := hN4.sub
  have i5 := hT.sub
  have hNs : ∀ q ∈ (xs, instObj 271 ds) :: n, @Ne Nat q.1 ds := fun q hq => by
    rcases List.mem_cons.mp hq with rfl | hq
    · exact hN1.ne
    · exact hN1.nd q hq
  have hN1' : ∀ q ∈ (xs, instObj 271 ds) :: n, q ∈ k1 := fun q hq => by
    rcases List.mem_cons.mp hq with rfl | hq
    · exact hN1.m1
    · exact hN1.sub q hq
  have hNw : ∀ q ∈ (xs, instObj 271 ds) :: n, @Ne Nat q.1 wl := fun q hq => hN4.ne q (i3 q (i2 q (hN1' q hq)))
  have hws : @Ne Nat wl ds := Ne.symm (hN4.ne _ (i3 _ (i2 _ hN1.m2)))
  have hxs : @Ne Nat xs ds := hN1.ne
  have hsub0 : ∀ q ∈ n, q ∈ (xs, instObj 271 ds) :: n := fun q hq => .tail _ hq
  have hapN : ∀ q ∈ (xs, instObj 271 ds) :: n, @Ne Nat q.1 xr ∧ @Ne Nat q.1 dr ∧ @Ne Nat q.1 pr := fun q hq => Y0_3 (hN3.nx q (i2 q (hN1' q hq))) (hN3.nd q (i2 q (hN1' q hq))) (hN2.ne q (hN1' q hq))
  have hxN : (xs, instObj 271 ds) ∈ (xs, instObj 271 ds) :: n := .head _
  generalize (xs, instObj 271 ds) :: n = N at *
  generalize hW : WhA c' _ _ _ _ = W
  have turn : TurnT w W (FrRd b tb t4 xs xr wl) (∀ e, Rai c n l e) N b ds wl xr := by
    intro fb i us xa da pa na ca oa vs n0 l0 hS hN hfb hv hF hbd cont
    obtain ⟨o1, o2, o3, o4, o5, o6⟩ := hF
    rw [← hW]
    have hnS := hS.sub
    have hle := hS.le
    have hbn := hS.bnd
    rw [List.length_append, show [Value.ref xa].length = 1 from rfl] at hbn
    have hbd0 := hbd
    have hbd : BadRow b i fb → ∀ e k l', (∀ q ∈ N, q ∈ k) → Rai c' k l' e := fun h e k l' hs => hI.pas (Rai.sub (hbd h e) fun q hq => hs q (hsub0 q hq))
    obtain ⟨jw, mw⟩ := hS.wl
    refine WhA.turn hw (.neNil (.name rfl) mw (by rw [hw.un]; lia)) (fun _ => ?_) fun hP => absurd hP (by simp)
    refine .assignQ <| .eMeth0 (.name rfl) (.list mw PySem.F.slot_list_pop PySem.F.type_list_pop) .blt <| Hp.pop (v := .ref xa) mw (by lia) _ fun r k1 hr => ?_
    refine X0_2 hr ?_; clear hr; rintro rfl ⟨jw1, M1⟩
    refine Go.aq hw ?_
    have a1 : ScAt w k1 ds b i := hS.at_.sub fun q hq e => M1.sub q hq (by rw [e]; exact Ne.symm hws)
    have n1 : ∀ q ∈ N, q ∈ k1 := fun q hq => M1.sub q (hnS q hq) (hNw q hq)
    refine .assignQ <| .eMeth (.name rfl) (.scan (n1 _ hxN) a1 rfl rfl rfl fun _ _ _ _ _ _ => rfl) (.ref rfl) <| .argR .bytes fun v hv => .arg0 <| .cq ?_
    obtain ⟨tv, rfl⟩ := hv
    refine up_to_L (by lia) hle (by lia) (n1 _ hxN) a1 hxs (fun h e => hbd (.of (rhead_n1 h)) e _ _ n1) fun y1 z1 r1 k2 c1 hr1 S2 => Go.aq hw ?_
    have d1 := cut_drop c1
    have n2 : ∀ q ∈ N, q ∈ k2 := fun q hq => S2.sub q (n1 q hq) (hNs q hq)
    refine .assignQ <| .eMeth (.name rfl) (.scan (n2 _ hxN) S2.at_ rfl rfl rfl fun _ _ _ _ _ _ => rfl) (.ref rfl) <| .argR .bytes fun v hv => .arg0 <| .cq ?_
    obtain ⟨tv2, rfl⟩ := hv
    refine up_to_L (by lia) (by lia) (by lia) (n2 _ hxN) S2.at_ hxs (fun h e => hbd (.of (rhead_n2 c1 (by rw [d1.1] at h; exact h))) e _ _ n2) fun y2 z2 r2 k3 c2 hr2 S3 => Go.aq hw ?_
    have d2 := cut_drop c2
    rw [d1.1] at c2
    have n3 : ∀ q ∈ N, q ∈ k3 := fun q hq => S3.sub q (n2 q hq) (hNs q hq)
    refine .assignQ <| .eCall (.glob hw rfl) (.ref rfl) <| .argQ <| .eMeth (.name rfl) (.scan (n3 _ hxN) S3.at_ rfl rfl rfl fun _ _ _ _ _ _ => rfl) (.ref rfl) <| .argR .bytes fun v hv => .arg0 <| .cq ?_
    obtain ⟨tv3, rfl⟩ := hv
    refine up_to_L (by lia) (by lia) (by lia) (n3 _ hxN) S3.at_ hxs (fun h e => hbd (.of (rhead_n3 c1 c2 (by rw [d2.1] at h; exact h))) e _ _ n3) fun y3 z3 r3 k4 c3 hr3 S4 => At.arg0 <| Go.cq ?_
    have d3 := cut_drop c3
    have l3 := cut_len c3
    rw [d2.1] at c3
    have l2 := cut_len c2
    obtain ⟨tr3, rfl⟩ := hr3
    obtain ⟨tr2, rfl⟩ := hr2
    refine number_of_L (by lia) (by rw [List.length_drop] at l3; lia) _ fun vm k4' hvm => ?_
    obtain ⟨hvm, rfl⟩ := hvm
    refine Go.aq hw ?_
    have n4 : ∀ q ∈ N, q ∈ k4' := fun q hq => S4.sub q (n3 q hq) (hNs q hq)
    refine .assignG hw (R := fun v k => TV v (tnum y2) ∧ k = k4') (fun Q kk => .ifE (.cmp (EvP.r (P := BW y2) (.name rfl) ⟨_, rfl⟩) .bytes fun a b ha hb => .bEq ha hb) (fun e => EvR.neg .int _ fun v hv => kk v _ ⟨by rw [show tnum y2 = some (-1) from if_pos e]; exact hv, rfl⟩) fun e => .eCall (.glob hw rfl) (.ref rfl) <| .argP (.name rfl) <| .arg0 <| .cq <| number_of_L (by omega) (by rw [← d1.1, List.length_drop] at l2; lia) _ fun v k hv => ?_) fun vt k6 hvt => ?_
    · obtain ⟨hv, rfl⟩ := hv
      exact kk v _ ⟨by rw [show tnum y2 = (num y2).map fun (k : Nat) => (k : Int) from if_neg e]; exact hv.tv, rfl⟩
    obtain ⟨hvt, rfl⟩ := hvt
    have hrh := rhead_eq c1 c2 c3
    generalize hT2 : tnum y2 = tn at hvt hrh
    generalize hM3 : num y3 = mn at hvm hrh
    have hbr : (tn = none ∨ mn = none ∨ ¬ (fb = true ↔ y1 = []) ∨ ∃ m, mn = some m ∧ b.length < m) → BadRow b i fb := fun hp => by
      cases tn with
      | none => exact .of hrh
      | some told =>
        cases mn with
        | none => exact .of hrh
        | some many =>
          refine .at_ hrh fun e _ _ _ => ?_
          rcases hp with h | h | h | ⟨m, h, hlt⟩
          · cases h
          · cases h
          · exact absurd (by rw [← e]; exact List.isEmpty_iff) h
          · cases h
            exact hlt
    refine .guard (p := tn = none ∨ mn = none ∨ ¬ (fb = true ↔ y1 = []) ∨ ∃ m, mn = some m ∧ b.length < m) (.or4 (.cast (.cmp (EvP.r (P := fun v => v = vt) (.name rfl) rfl) (EvP.r (P := fun v => v = .none) .none rfl) fun a b ha hb => by subst ha; subst hb; exact .isNone) ?_) (fun _ => .cast (.cmp (EvP.r (P := fun v => v = vm) (.name rfl) rfl) (EvP.r (P := fun v => v = .none) .none rfl) fun a b ha hb => by subst ha; subst hb; exact .isNone) ?_)
      (fun _ _ => .cmp (EvP.r (P := fun v => v = .bool fb) (.name rfl) rfl) (.cmpV (EvP.r (P := BW y1) (.name rfl) hr1) .bytes fun a b ha hb => .bEq ha hb) fun a b ha hb => by subst ha; refine X1_2 hb ?_; clear hb; rintro x rfl hx; exact .boolNe Iff.rfl hx)
      fun _ hm _ => ?_) (fun hp => At.raise hw (by lia) fun x t d hne h tk H => hI.rai (Rai.sub (hbd0 (hbr hp) x) fun q hq => n4 q (hsub0 q hq)) h tk H hne) fun hp => ?_
    · cases tn with
      | none => exact ⟨fun _ => rfl, fun _ => hvt⟩
      | some told =>
        obtain ⟨t, rfl⟩ := hvt
        exact ⟨fun h => (nomatch h), fun h => nomatch h⟩
    · cases mn with
      | none => exact ⟨fun _ => rfl, fun _ => hvm⟩
      | some many =>
        obtain ⟨t, rfl⟩ := hvm
        exact ⟨fun h => (nomatch h), fun h => nomatch h⟩
    · cases mn with
      | none => exact absurd rfl hm
      | some many =>
        exact .cast (.cmp (EvP.r (P := IV (many : Int)) (.name rfl) hvm) (.lenB hw (EvP.r (P := BW b) (.name rfl) ⟨_, rfl⟩) (by lia)) fun a b ha hb => .iGt ha hb) ⟨fun h => Y1_2 _ rfl (by lia), fun ⟨m, e, h⟩ => by cases e; lia⟩
    cases tn with
    | none => exact absurd (.inl rfl) hp
    | some told =>
    cases mn with
    | none => exact absurd (.inr (.inl rfl)) hp
    | some many =>
    obtain ⟨tt, rfl⟩ := hvt
    obtain ⟨tm, rfl⟩ := hvm
    have hfy : fb = true ↔ y1 = [] := Classical.byContradiction fun h => hp (.inr (.inr (.inl h)))
    have hmb : many ≤ b.length := Nat.le_of_not_lt fun h => hp (.inr (.inr (.inr (Y1_2 _ rfl h))))
    clear hp hbr
    have keep : ∀ q ∈ n0, @Ne Nat q.1 ds → @Ne Nat q.1 wl → q ∈ k6 := fun q hq a e => S4.sub q (S3.sub q (S2.sub q (M1.sub q hq e) a) a) a
    have mw4 : (wl, lstN us jw1) ∈ k6 := S4.sub _ (S3.sub _ (S2.sub _ M1.mem hws) hws) hws
    refine .assign hw (.name rfl) <| .ifJ2 (R := RdJ w N n0 b ds wl xa da pa vs us fb (i + y1.length + 1 + y2.length + 1 + y3.length + 1) y1 fun x => frRd b tb t4 (some (.ref xs)) (some (.ref xr)) (some (.ref wl)) (some (.bool fb)) (some (.ref xa)) (some r1) (some (.bytes y2.toArray tr2)) (some (.int many tm)) (some (.int told tt)) (some (.ref x)))
      (.not (.val (p := fb = true) (EvP.r (.name rfl) (Y1_2 fb rfl Iff.rfl)))) (fun hfb1 => ?_) (fun hfb1 => ?_) fun k5 l5 hJ => ?_
    · have hff : fb = false := by cases fb with | true => exact absurd rfl hfb1 | false => rfl
      subst hff
      refine .assignQ <| .eCall (.glob hw rfl) (.ref rfl) <| .argP (.name rfl) <| .argR (.neg .int) fun vm hm => .argP .none <| .argQ <| .eList <| .arg0 <| At.newLst fun p k7 hP => At.arg0 <| Go.cq ?_
      obtain ⟨um, rfl⟩ := hm
      obtain ⟨ty, rfl⟩ := hr1
      refine At.mk (by lia) fun x d e1 e2 e3 e4 k8 hX => Go.aq hw ?_
      have up : ∀ q ∈ k6, q ∈ k8 := fun q hq => hX.sub q (hP.sub q hq)
      refine X7_2 hN.md fun g1 g2 g3 g4 g5 tn vo md ho => ?_
      obtain ⟨jp, mp⟩ := hN.mp
      have mpa := up _ (keep _ mp hN.ps hN.pw)
      refine .exprQ <| .eMethA (.pt (.name rfl) (up _ (keep _ hN.mx hN.xs hN.xw)) (up _ (keep _ md hN.dd hN.dw))) (.list mpa PySem.F.slot_list_append PySem.F.type_list_append) .blt <| .argP (.name rfl) <| .arg0 <| .cq <| Hp.app mpa (by lia) _ fun r k9 hr => ?_
      refine X0_2 hr ?_; clear hr; rintro rfl ⟨jp2, M5⟩
      refine Go.xq <| .nil <| .nx2 ?_
      have mpa6 := keep _ mp hN.ps hN.pw
      have nxk : ∀ q ∈ k6, @Ne Nat q.1 x := fun q hq => hX.nx q (hP.sub q hq)
      have ndk : ∀ q ∈ k6, @Ne Nat q.1 d := fun q hq => hX.nd q (hP.sub q hq)
      have npk := hP.ne
      have low : ∀ {a : Addr}, (∀ q ∈ k6, @Ne Nat q.1 a) → ∀ q ∈ n0, @Ne Nat q.1 a := fun h q hq => by
        by_cases e1 : q.1 = ds
        · obtain ⟨_, _, _, _, _, _, m⟩ := S4.at_
          rw [e1]; exact h _ m
        by_cases e2 : q.1 = wl
        · rw [e2]; exact h _ mw4
        exact h q (keep q hq e1 e2)
      obtain ⟨_, _, _, _, _, _, mds⟩ := S4.at_
      have xpa : @Ne Nat x pa := Ne.symm (nxk _ mpa6)
      have dpa : @Ne Nat d pa := Ne.symm (ndk _ mpa6)
      have ppa : @Ne Nat p pa := Ne.symm (npk _ mpa6)
      refine ⟨x, d, p, -1, none, jw1, rfl, ⟨M5.sub _ hX.m1 xpa, Y7_2 _ _ _ _ _ _ _ (M5.sub _ hX.m2 dpa) rfl, ⟨_, M5.sub _ (hX.sub _ hP.mem) ppa⟩, Ne.symm (nxk _ mds), Ne.symm (nxk _ mw4), Ne.symm (hX.nx _ hP.mem), Ne.symm hX.ne, Ne.symm (ndk _ mds), Ne.symm (ndk _ mw4), Ne.symm (hX.nd _ hP.mem), Ne.symm (npk _ mds), Ne.symm (npk _ mw4), fun q hq => ndk q (n4 q hq), fun q hq => npk q (n4 q hq)⟩,
        .part (fun q hq a e z => M5.sub q (up q (keep q hq a e)) z) ⟨_, M5.mem⟩ (low nxk) (low ndk) (low npk), S4.at_.sub fun q hq e => M5.sub q (up q hq) (by rw [e]; exact Ne.symm hN.ps), M5.sub _ (up _ mw4) (Ne.symm hN.pw)⟩
    · have hft : fb = true := Classical.not_not.mp hfb1
      subst hft
      refine X0_3 (hfb rfl) ?_; rintro rfl rfl rfl
      obtain rfl := hfy.mp rfl
      exact .nil <| .nx2 ⟨xa, da, pa, ca, oa, jw1, rfl, hN.sub (fun q hq a e _ => keep q hq a e) (hN.mp.elim fun j m => ⟨j, keep _ m hN.ps hN.pw⟩), .root fun q hq a e _ => keep q hq a e, S4.at_, mw4⟩
    clear keep mw4 n4 S4 S3 S2 M1 n1 n2 n3 a1
    obtain ⟨x, d, p, cn, od, jw2, rfl, hX, hM, at_, mw⟩ := hJ
    refine X7_2 hX.md fun g1 g2 g3 g4 g5 tn vo md ho => ?_
    refine .setA <| (EvP.name rfl) _ <| Go.setA rfl <| At.setCount hX.mx md hX.xd fun k7 M6 => ?_
    have n5 : ∀ q ∈ N, q ∈ k5 := fun q hq => hM.kept (hnS q hq) (hNs q hq) (hNw q hq) (hN.nd q hq) (hN.np q hq)
    have n7 : ∀ q ∈ N, q ∈ k7 := fun q hq => M6.sub q (n5 q hq) (hX.nd q hq)
    have a7 := at_.sub (n' := k7) fun q hq e => M6.sub q hq (by rw [e]; exact Ne.symm hX.dd)
    refine At.setA ?_
    refine At.viaG (R := fun v k => ∃ o i5, roid told z3 = some (o, b.drop i5) ∧ i + 3 ≤ i5 ∧ i5 ≤ b.length ∧ OV v o ∧ ScTo w k7 k ds b i5) (fun Q kk => ?_) fun v k8 hv => ?_
    · refine .ifE (.cmp (EvP.r (P := IV told) (.name rfl) ⟨_, rfl⟩) .int fun a b ha hb => .iGe ha hb) (fun h => ?_) fun h => EvP.none _ <| kk _ _ ⟨none, i + y1.length + 1 + y2.length + 1 + y3.length + 1, by rw [roid_neg h, d3.1], by lia, by lia, rfl, a7, fun _ h _ => h⟩
      refine .eMeth (.name rfl) (.scan (n7 _ hxN) a7 rfl rfl rfl fun _ _ _ _ _ _ => rfl) (.ref rfl) <| .argP (.name rfl) <| .arg0 <| .cq <| raw_L (by lia) (by omega) (by lia) (n7 _ hxN) a7 hxs (fun hlt e => hbd (.at_ hrh fun _ o r2 hro => by rw [roid_few h (by lia)] at hro; cases hro) e _ _ n7) fun r k hlt hr S => ?_
      rw [d3.1] at hr
      exact kk _ _ (Y2_5 (some (z3.take 4)) _ (by rw [roid_pos h (by lia), ← List.drop_drop, d3.1]) (by lia) hlt hr S)
    refine X2_5 hv ?_; clear hv; rintro o i5 hro hi5 hi6 hov S
    refine Go.setA rfl <| At.setOid (S.sub _ (M6.sub _ hX.mx hX.xd) hX.xs) (S.sub _ M6.mem hX.dd) hX.xd fun k9 M7 => ?_
    have mw9 : (wl, lstN us jw2) ∈ k9 := M7.sub _ (S.sub _ (M6.sub _ mw (Ne.symm hX.dw)) hws) (Ne.symm hX.dw)
    refine At.exprQ <| .eMeth (.name rfl) (.list mw9 PySem.F.slot_list_extend PySem.F.type_list_extend) .blt <| .argQ <| .eBin <| .eList <| .argP (.name rfl) <| .arg0 <| At.newLst fun D1 k10 hD1 => (EvP.name rfl) _ <| Go.mul1 hD1.mem ⟨_, rfl⟩ (by lia) fun D2 k11 hD2 => At.arg0 <| Go.cq <| Hp.ext (hD2.sub _ (hD1.sub _ mw9)) hD2.mem (Ne.symm (hD2.ne _ (hD1.sub _ mw9))) (by lia) (by rw [List.length_replicate]; lia) _ fun r k12 hr => ?_
    refine X0_2 hr ?_; clear hr; rintro rfl ⟨jw3, M8⟩
    have up : ∀ q ∈ k5, @Ne Nat q.1 ds → @Ne Nat q.1 wl → @Ne Nat q.1 d → q ∈ k12 := fun q hq a e z => M8.sub q (hD2.sub q (hD1.sub q (M7.sub q (S.sub q (M6.sub q hq z) a) z))) e
    refine Go.xq <| .assign hw .bool <| .nil <| WhA.next ?_
    rw [hW]
    obtain ⟨jp, mp⟩ := hX.mp
    obtain ⟨jpa, mpa⟩ := hN.mp
    refine cont y1 told many z3 o i5 k12 _ x d p hrh ?_ hro hmb hi5 ⟨_, _, _, _, _, _⟩ ⟨S.at_.sub fun q hq e => ?_, ⟨_, M8.mem⟩, hi6, ?_, fun q hq => up q (n5 q hq) (hNs q hq) (hNw q hq) (hX.nd q hq)⟩
      ⟨up _ hX.mx hX.xs hX.xw hX.xd, Y7_2 _ _ _ _ _ _ _ (M8.sub _ (hD2.sub _ (hD1.sub _ M7.mem)) hX.dw) hov, ⟨_, up _ mp hX.ps hX.pw (Ne.symm hX.dp)⟩, hX.xs, hX.xw, hX.xp, hX.xd, hX.dd, hX.dw, hX.dp, hX.ps, hX.pw, hX.nd, hX.np⟩ (hM.step ⟨_, mpa⟩ hN.ps hN.pw up)
    · cases fb with
      | true => rw [hfy.mp rfl]; rfl
      | false => cases y1 with
        | nil => exact absurd (hfy.mpr rfl) (fun h => nomatch h)
        | cons _ _ => rfl
    · exact M8.sub q (hD2.sub q (hD1.sub q (M7.sub q hq (by rw [e]; exact Ne.symm hX.dd)))) (by rw [e]; exact Ne.symm hws)
    · rw [List.length_append, List.length_replicate]
      lia
  refine turn true 0 [] xr dr pr [] (-1) none [] k5 _ ⟨hA1.sub fun q hq _ => i5 q (i4 q (i3 q (i2 q hq))), ⟨_, hT.sub _ hN4.mem⟩, Nat.zero_le _, by have : ([] ++ [Value.ref xr]).length = 1 := rfl; lia, fun q hq => i5 q (i4 q (i3 q (i2 q (hN1' q hq))))⟩
    ⟨i5 _ (i4 _ hN3.m1), Y7_2 _ _ _ _ _ _ _ (i5 _ (i4 _ hN3.m2)) rfl, ⟨_, i5 _ (i4 _ (i3 _ hN2.mem))⟩, Ne.symm (hN3.nx _ (i2 _ hN1.m2)), hN4.ne _ hN3.m1, Ne.symm (hN3.nx _ hN2.mem), Ne.symm hN3.ne, Ne.symm (hN3.nd _ (i2 _ hN1.m2)), hN4.ne _ hN3.m2, Ne.symm (hN3.nd _ hN2.mem), Ne.symm (hN2.ne _ hN1.m2), hN4.ne _ (i3 _ hN2.mem), fun q hq => (hapN q hq).2.1, fun q hq => (hapN q hq).2.2⟩
    (fun _ => Y0_3 rfl rfl rfl) (Nat.zero_le _) ⟨_, _, _, _, _, _⟩ (fun hB => hbad (rtop_bad hB)) ?_
  intro nm told many r1 o i2 n1 l1 x d p h1 h2 h3 h4 h5 hF1 hS1 hM1 hM
  cases hM with
  | root keep =>
  refine rows_W hb turn _ many i2 [] xr dr pr nm told o [] n1 l1 (Nat.le_refl _) hS1 hM1 (Nat.zero_le _) hF1 (fun e => hbad (rtop_bad1 h1 h2 h3 e)) ?_
  intro ts i3 ws n2 l2 tl g1 hF2 hS2 hM2 hG hT2
  obtain ⟨o1, o2, o3, o4, o5, o6⟩ := hF2
  rw [← hW]
  obtain ⟨jw, mw⟩ := hS2.wl
  have hle := hS2.le
  have hn : ∀ q ∈ n, q ∈ n2 := fun q hq => hS2.sub q (hsub0 q hq)
  refine WhA.turn hw (.neNil (.name rfl) mw (by rw [hw.un]; lia)) (fun hP => absurd rfl hP) fun _ => ?_
  refine .guard (.cmp (.left (by lia) (.name rfl) (hS2.sub _ hxN) hS2.at_) .int fun a b ha hb => .iGt ha hb) (fun hp => At.raise hw (by lia) fun x t d hne h tk H => hI.rai (Rai.sub (hbad ((rtop_end h1 h2 h3 g1).1 (by lia)) x) hn) h tk H hne) fun hp => ?_
  refine X7_2 hM2.md fun t1 t2 t3 t4' t5 tn vo md ho => ?_
  obtain ⟨kp, mp⟩ := hM2.mp
  have hl1 := trees_len hT2
  have hc1 := rdl_cnt g1
  refine .retP (.name rfl) (hI.ret _ _ _ (kk _ _ ((xr, instObj 207 dr) :: (dr, dictOf (treeEs w t1 t2 t3 t4' t5 (.bytes nm.toArray tn) vo told pr) 4) :: (pr, lstN ws kp) :: tl) _ ((rtop_end h1 h2 h3 g1).2 (by lia)) ⟨hn, fun q hq => ?_, fun q hq p hp => ?_⟩ ?_))
  · rcases List.mem_cons.mp hq with rfl | hq
    · exact hM2.mx
    rcases List.mem_cons.mp hq with rfl | hq
    · exact md
    rcases List.mem_cons.mp hq with rfl | hq
    · exact mp
    · exact hG.new q hq
  · refine X0_3 (hapN q (hsub0 q hq)) fun e1 e2 e3 => ?_
    rcases List.mem_cons.mp hp with rfl | hp
    · exact e1
    rcases List.mem_cons.mp hp with rfl | hp
    · exact e2
    rcases List.mem_cons.mp hp with rfl | hp
    · exact e3
    · exact hG.ap q (hS1.sub q (hsub0 q hq)) p hp
  · show Exists _
    exact Y12_7 xr dr tn vo pr t1 t2 t3 t4' t5 ws kp rfl (.head _) (.tail _ (.head _)) ho (.tail _ (.tail _ (.head _))) (hT2.mono fun q hq => .tail _ (.tail _ (.tail _ hq))) (by lia)
end
section
theorem ht_le : ∀ (n : Nat) {k : Nat} {r : Bs} {ts : List Tree} {r' : Bs}, r.length ≤ n → rdl k r = some (ts, r') → Tree.hts ts ≤ r.length := by
  intro n
  induction n using Nat.strongRecOn with
  | _ n ih =>
  intro k
  induction k with
  | zero => intro r ts r' _ h; rw [rdl_zero] at h; cases h; simp [Tree.hts]
  | succ k ihk =>
    intro r ts r' hn h
    rw [rdl_succ] at h
    cases h1 : rone rdl true r with
    | none => rw [h1] at h; cases h
    | some p =>
      obtain ⟨t, r1⟩ := p
      rw [h1] at h
      dsimp only at h
      have hl := rone_len (rec := rdl) (fun k r ts r' q => by have := rdl_len q; lia) h1
      cases h2 : rdl k r1 with
      | none => rw [h2] at h; cases h
      | some p2 =>
        obtain ⟨us, r2⟩ := p2
        rw [h2] at h
        cases h
        have a2 := ihk (by lia) h2
        unfold rone at h1
        cases e1 : rhead r with
        | none => rw [e1] at h1; cases h1
        | some q =>
          obtain ⟨nm, told, many, r3⟩ := q
          rw [e1] at h1
          dsimp only at h1
          split at h1
          · cases h1
          cases e2 : roid told r3 with
          | none => rw [e2] at h1; cases h1
          | some q2 =>
            obtain ⟨o, r4⟩ := q2
            rw [e2] at h1
            dsimp only at h1
            cases e3 : rdl many r4 with
            | none => rw [e3] at h1; cases h1
            | some q3 =>
              obtain ⟨ws, r5⟩ := q3
              rw [e3] at h1
              cases h1
              have l1 := (rhead_len e1).1
              have l2 := roid_len e2
              have a1 := ih r4.length (by lia) (Nat.le_refl _) e3
              unfold Tree.hts Tree.ht
              lia
theorem rtop_ht {b : Bs} {t : Tree} (h : rtop b = some t) : t.ht ≤ b.length + 1 := by
  unfold rtop at h
  split at h
  · rename_i t' e
    cases h
    unfold rone at e
    cases e1 : rhead b with
    | none => rw [e1] at e; cases e
    | some q =>
      obtain ⟨nm, told, many, r3⟩ := q
      rw [e1] at e
      dsimp only at e
      split at e
      · cases e
      cases e2 : roid told r3 with
      | none => rw [e2] at e; cases e
      | some q2 =>
        obtain ⟨o, r4⟩ := q2
        rw [e2] at e
        dsimp only at e
        cases e3 : rdl many r4 with
        | none => rw [e3] at e; cases e
        | some q3 =>
          obtain ⟨ws, r5⟩ := q3
          rw [e3] at e
          cases e
          have l1 := (rhead_len e1).1
          have l2 := roid_len e2
          have a1 := ht_le r4.length (Nat.le_refl _) e3
          unfold Tree.ht
          lia
  · cases h
noncomputable def HV (tl : Led) (v : Value) : Option Tree → Prop
  | none => v = .none
  | some t => ToldIn tl v t
theorem heard_L {w : World} {c : Cx w} {n : Led} {l : Fm} {b : Bs} {tb : Tok} (hout : c.outer = []) (XB : (KK w).In c.base) (TB : Top c.p c.loose c.mean c.mg c.mb c.base) (hb : b.length ≤ 200) (hu : c.un + 30 < cLine) (hroom : c.dp + 300 < recursionLimit) :
    CaG c n l (.ref 350) [.bytes b.toArray tb] fun r n' => ∃ tl, Ext n n' tl ∧ HV tl r (rtop b) := fun Q kk => by
  refine At.enterT (by exact rfl) (by lia) hout [Str.ofString "octets"] [] [(Str.ofString "octets", some (.bytes b.toArray tb))] fun c' L' hid m g0 hV hI => ?_
  refine At.tryN hI XB TB fun ct TQ hwt het hst nxt ret rai => ?_
  refine .retQ <| .eCall (.glob hwt rfl) (.ref rfl) <| .argQ <| .eCall (.glob hwt rfl) (.ref rfl) <| .argP (.name rfl) <| .argR .int fun v hv => .arg0 <| .cq ?_
  obtain ⟨t4, rfl⟩ := hv
  refine read_L hb (by rw [hwt.un]; lia) (by rw [hwt.dp]; lia) (fun hnone e => rai _ _ e fun c'' hI'' => hand_none (hI''.ret hV (kk _ _ (Y1_2 [] .rfl' (by rw [hnone]; rfl))))) fun r n' tl t ht hE hT => ?_
  have hh := rtop_ht ht
  refine At.arg0 <| Go.cq <| told_L t (by rw [hwt.dp]; lia) (hT.mono hE.new) _ fun r2 n2 hr => ret _ _ _ (hI.ret hV (kk _ _ ?_))
  refine X1_2 hr ?_; clear hr; rintro tl2 hE2 hr2
  exact Y1_2 tl2 ⟨fun q hq => hE2.sub q (hE.sub q hq), hE2.new, fun q hq p hp => hE2.apart q (hE.sub q hq) p hp⟩ (by rw [ht]; exact hr2)
end
section
theorem seek_some {x : UInt8} {r : Bs} {i j : Nat} (h : seek x r i = some j) : i ≤ j ∧ j < i + r.length := by
  unfold seek at h
  refine X1_2 (Option.map_eq_some_iff.mp h) ?_; rintro p hp rfl
  obtain ⟨u, v⟩ := p
  have := cut_len hp
  dsimp only
  lia
noncomputable def sk (x : UInt8) (b : Bs) (o : Option Nat) : Option Nat := o.bind fun j => seek x (b.drop (j + 1)) (j + 1)
noncomputable def iv : Option Nat → Int
  | some j => (j : Int)
  | none => -1
theorem iv_nn {o : Option Nat} (h : 0 ≤ iv o) : ∃ j, o = some j ∧ iv o = (j : Int) := by
  cases o with
  | none => exact absurd h (by show ¬ (0 : Int) ≤ -1; lia)
  | some j => exact Y1_2 j rfl rfl
theorem iv_neg {o : Option Nat} (h : ¬ 0 ≤ iv o) : o = none := by
  cases o with
  | none => rfl
  | some j => exact absurd (show (0 : Int) ≤ (j : Int) by lia) h
theorem fnd_iv {b : Bs} {x : UInt8} {i : Nat} (hi : i ≤ b.length) : fnd b.toArray #[x] (some (i : Int)) none = iv (seek x (b.drop i) i) := by
  rw [fnd_seek hi _ (.inl rfl)]
  cases seek x (b.drop i) i <;> rfl
noncomputable def pos3 (b : Bs) (i : Nat) : List (Option Nat) := [seek 0 (b.drop i) i, sk 32 b (seek 0 (b.drop i) i), sk 10 b (sk 32 b (seek 0 (b.drop i) i))]
theorem seek_cut {x : UInt8} {r : Bs} {i j : Nat} (h : seek x r i = some j) : ∃ u v, cut x r = some (u, v) ∧ j = i + u.length := by
  unfold seek at h
  refine X1_2 (Option.map_eq_some_iff.mp h) ?_; rintro p hp rfl
  exact Y2_2 p.1 p.2 hp rfl
theorem seek_none {x : UInt8} {r : Bs} {i : Nat} (h : seek x r i = none) : cut x r = none := by
  unfold seek at h
  exact Option.map_eq_none_iff.mp h
theorem pos_some {b : Bs} {i : Nat} (h : (-1 : Int) ∉ (pos3 b i).map iv) : ∃ u1 v1 u2 v2 u3 v3, cut 0 (b.drop i) = some (u1, v1) ∧ cut 32 v1 = some (u2, v2) ∧ cut 10 v2 = some (u3, v3) ∧
    b.drop (i + u1.length + 1) = v1 ∧ b.drop (i + u1.length + 1 + u2.length + 1) = v2 ∧ b.drop (i + u1.length + 1 + u2.length + 1 + u3.length + 1) = v3 ∧ i + u1.length + 1 + u2.length + 1 + u3.length + 1 + v3.length = b.length ∧
    (pos3 b i).map iv = [((i + u1.length : Nat) : Int), ((i + u1.length + 1 + u2.length : Nat) : Int), ((i + u1.length + 1 + u2.length + 1 + u3.length : Nat) : Int)] := by
  unfold pos3 at h ⊢
  simp only [List.map, List.mem_cons, List.not_mem_nil, or_false, not_or] at h ⊢
  refine X0_3 h ?_; clear h; rintro h1 h2 h3
  cases e1 : seek 0 (b.drop i) i with
  | none => rw [e1] at h1; exact absurd rfl h1
  | some j1 =>
    rw [e1] at h2 h3
    refine X2_2 (seek_cut e1) ?_; rintro u1 v1 c1 rfl
    obtain ⟨d1, l1⟩ := cut_drop c1
    cases e2 : sk 32 b (some (i + u1.length)) with
    | none => rw [e2] at h2; exact absurd rfl h2
    | some j2 =>
      rw [e2] at h3
      refine X2_2 (seek_cut (show seek 32 (b.drop (i + u1.length + 1)) (i + u1.length + 1) = some j2 from e2)) ?_; rintro u2 v2 c2 rfl
      obtain ⟨d2, l2⟩ := cut_drop c2
      rw [d1] at c2
      cases e3 : sk 10 b (some (i + u1.length + 1 + u2.length)) with
      | none => rw [e3] at h3; exact absurd rfl h3
      | some j3 =>
        refine X2_2 (seek_cut (show seek 10 (b.drop (i + u1.length + 1 + u2.length + 1)) (i + u1.length + 1 + u2.length + 1) = some j3 from e3)) ?_; rintro u3 v3 c3 rfl
        obtain ⟨d3, l3⟩ := cut_drop c3
        rw [d2] at c3
        exact Y6_8 u1 v1 u2 v2 u3 v3 c1 c2 c3 d1 d2 d3 l3 rfl
theorem pos_vars {b : Bs} {i : Nat} (h : (-1 : Int) ∉ (pos3 b i).map iv) : ∃ u1 v1 u2 v2 u3 v3 j1 j2 j3, cut 0 (b.drop i) = some (u1, v1) ∧ cut 32 v1 = some (u2, v2) ∧ cut 10 v2 = some (u3, v3) ∧
    b.drop (j1 + 1) = v1 ∧ b.drop (j2 + 1) = v2 ∧ b.drop (j3 + 1) = v3 ∧ j3 + 1 + v3.length = b.length ∧ j1 = i + u1.length ∧ j2 = j1 + 1 + u2.length ∧ j3 = j2 + 1 + u3.length ∧
    (pos3 b i).map iv = [(j1 : Int), (j2 : Int), (j3 : Int)] := by
  refine X6_8 (pos_some h) fun u1 v1 u2 v2 u3 v3 c1 c2 c3 d1 d2 d3 l e => ?_
  exact Y9_11 u1 v1 u2 v2 u3 v3 _ _ _ c1 c2 c3 d1 d2 d3 l rfl rfl rfl e
theorem pos_none {b : Bs} {i : Nat} (h : (-1 : Int) ∈ (pos3 b i).map iv) : rhead (b.drop i) = none := by
  unfold pos3 at h
  simp only [List.map, List.mem_cons, List.not_mem_nil, or_false] at h
  unfold rhead
  cases e1 : seek 0 (b.drop i) i with
  | none => rw [seek_none e1]
  | some j1 =>
    rw [e1] at h
    refine X2_2 (seek_cut e1) ?_; rintro u1 v1 c1 rfl
    obtain ⟨d1, l1⟩ := cut_drop c1
    rw [c1]
    dsimp only
    cases e2 : sk 32 b (some (i + u1.length)) with
    | none =>
      have := seek_none (show seek 32 (b.drop (i + u1.length + 1)) (i + u1.length + 1) = none from e2)
      rw [d1] at this
      rw [this]
    | some j2 =>
      rw [e2] at h
      refine X2_2 (seek_cut (show seek 32 (b.drop (i + u1.length + 1)) (i + u1.length + 1) = some j2 from e2)) ?_; rintro u2 v2 c2 rfl
      obtain ⟨d2, l2⟩ := cut_drop c2
      rw [d1] at c2
      rw [c2]
      dsimp only
      cases e3 : sk 10 b (some (i + u1.length + 1 + u2.length)) with
      | none =>
        have := seek_none (show seek 10 (b.drop (i + u1.length + 1 + u2.length + 1)) (i + u1.length + 1 + u2.length + 1) = none from e3)
        rw [d2] at this
        rw [this]
      | some j3 =>
        rw [e3] at h
        have h' : (-1 : Int) = ((i + u1.length : Nat) : Int) ∨ (-1 : Int) = ((i + u1.length + 1 + u2.length : Nat) : Int) ∨ (-1 : Int) = (j3 : Int) := h
        exfalso
        lia
theorem sk_lt {x : UInt8} {b : Bs} {o : Option Nat} {j : Nat} (h : sk x b o = some j) : j < b.length := by
  unfold sk at h
  refine X1_2 (Option.bind_eq_some_iff.mp h) fun k _ hk => ?_
  have := seek_some hk
  rw [List.length_drop] at this
  omega
theorem slc_cut {x : UInt8} {b u v : Bs} {i : Nat} (h : cut x (b.drop i) = some (u, v)) {lo hi : Int} (h1 : lo = (i : Int)) (h2 : hi = ((i + u.length : Nat) : Int)) : slc b (some lo) (some hi) = u := by
  have l := (cut_drop h).2
  rw [h1, h2, slc_mid (by lia) (by lia), Nat.add_sub_cancel_left, (cut_some h).1]
  simp
theorem slc_over {b : Bs} {i : Nat} (hi : i ≤ b.length) {lo hi' : Int} (h1 : lo = (i : Int)) (h2 : hi' = ((i + 4 : Nat) : Int)) : slc b (some lo) (some hi') = (b.drop i).take 4 := by
  subst h1 h2
  unfold slc
  simp only [Option.elim, clipAt_nat]
  rw [Nat.min_eq_left hi]
  by_cases h : i + 4 ≤ b.length
  · rw [Nat.min_eq_left h, Nat.add_sub_cancel_left]
  · rw [Nat.min_eq_right (by lia), List.take_of_length_le (by rw [List.length_drop]; lia), List.take_of_length_le (by rw [List.length_drop]; omega)]
theorem ints3 {vs : List Value} {a b c : Int} (h : IntsAre vs [a, b, c]) : ∃ t u v, vs = [.int a t, .int b u, .int c v] := by
  cases h with
  | cons _ t h => cases h with
    | cons _ u h => cases h with
      | cons _ v h => cases h; exact Y3_1 t u v rfl
theorem rone_head {rec : Nat → Bs → Option (List Tree × Bs)} {inner : Bool} {r : Bs} (h : rhead r = none) : rone rec inner r = none := by
  unfold rone
  rw [h]
theorem seek_lt {x : UInt8} {b : Bs} {i j : Nat} (hi : i ≤ b.length) (h : seek x (b.drop i) i = some j) : j < b.length := by
  have := seek_some h
  rw [List.length_drop] at this
  omega
theorem ints_at {vs : List Value} {ns : List Int} (h : IntsAre vs ns) : ∀ {j : Nat} {k : Int}, ns[j]? = some k → ∃ v, vs[j]? = some v ∧ IV k v := by
  induction h with
  | nil => intro j k e; simp at e
  | cons _ t _ ih =>
    intro j k e
    cases j with
    | zero => simp at e; subst e; exact Y1_2 _ rfl ⟨t, rfl⟩
    | succ j => exact ih (by simpa using e)
theorem pos_step {b : Bs} {i : Nat} (hi : i ≤ b.length) {m : Nat} {t1 t2 : Tok} {v : Value} (h : [Value.bytes [32].toArray t1, .bytes [10].toArray t2][m]? = some v) :
    ∃ x t o, v = .bytes [x].toArray t ∧ (((pos3 b i).take (m + 1)).map iv)[m]? = some (iv o) ∧ (((pos3 b i).take (m + 1)).map iv).length = m + 1 ∧ (∀ j, o = some j → j < b.length) ∧ ((pos3 b i).take (m + 1 + 1)).map iv = ((pos3 b i).take (m + 1)).map iv ++ [iv (sk x b o)] := by
  match m, h with
  | 0, h => obtain rfl := Option.some.inj h; exact Y3_5 32 t1 _ rfl rfl rfl (fun j e => seek_lt hi e) rfl
  | 1, h => obtain rfl := Option.some.inj h; exact Y3_5 10 t2 _ rfl rfl rfl (fun j e => sk_lt e) rfl
  | m + 2, h => simp at h
theorem rdl_step {k : Nat} {b : Bs} {i1 : Nat} : rdl (k + 1) (b.drop i1) = (rone rdl true (b.drop i1)).bind fun p => (rdl k p.2).map fun q => (p.1 :: q.1, q.2) := by
  rw [rdl_succ]
  cases rone rdl true (b.drop i1) with
  | none => rfl
  | some p =>
    obtain ⟨t, r⟩ := p
    show (match rdl k r with | none => none | some (ts, r2) => some (t :: ts, r2)) = _
    rw [Option.bind_some]
    cases rdl k r with
    | none => rfl
    | some q => rfl
noncomputable def LRV (b : Bs) (tl : Led) (v : Value) : Option (Tree × Bs) → Prop
  | none => v = .none
  | some (t, r) => ∃ R T i tk, v = .ref R ∧ (R, tup [T, .int ((i : Nat) : Int) tk]) ∈ tl ∧ ToldIn tl T t ∧ b.drop i = r ∧ i ≤ b.length
theorem LRV.none_ {b : Bs} {tl : Led} {v : Value} (h : LRV b tl v none) : v = .none := h
end
section
section
variable {prog : Program} {w : World} {A : Around} {E : Value → Shared → Prop} {s : Shared} {env : Env} {h₀ : Heap} {x : Str} {body : List Stmt} {Q : Flow → Shared → Prop} {m₀ : Str → Option Value} {news : Led}
theorem loopTm {l : Addr} {vs : List Value} (hh : A.handled = none) (F : Fr h₀ env.locals s.heap m₀) (N : News h₀ env.locals s.heap news) (hl : (l, tup vs) ∈ news)
    (J : (Str → Option Value) → Nat → (Str → Option Value) → Led → Prop) (hJ : ∀ i m n, J m₀ i m n → (l, tup vs) ∈ n) (h0 : J m₀ 0 m₀ news)
    (turn : ∀ i v m₁ news₁ h tk I oI, vs[i]? = some v → J m₀ i m₁ news₁ → (∀ p ∈ news₁, @Ne Nat p.1 I) → Fr h₀ env.locals h (fun y => if y = x then some v else m₁ y) → News h₀ env.locals h ((I, oI) :: news₁) →
      wpAny (model prog w) A (execs body env) (TurnEnd h₀ env.locals I oI (J m₀ (i + 1)) { s with heap := h, toks := tk } Q) E { s with heap := h, toks := tk })
    (done : ∀ m₁ news₁ h tk, J m₀ vs.length m₁ news₁ → Fr h₀ env.locals h m₁ → News h₀ env.locals h news₁ → Q .next { s with heap := h, toks := tk }) :
    wpAny (model prog w) A (pyIter (.ref l)) (fun it s₂ => LoopAtV prog w A h₀ env x body Q E it s₂) E s := by
  have hls : s.heap.IsTuple l vs.toArray := Y1_3 _ ((N _ hl).1) rfl ⟨_, rfl⟩
  have hne : l ≠ s.heap.objs.size := Nat.ne_of_lt (Heap.lt_size (N _ hl).1)
  refine wpAny_pyIter_tuple hls ?_
  have W := Walks.tuple (prog := prog) (w := w) hh s.heap.objs.size l hne vs.toArray
  refine loopW W ⟨Y1_3 _ (Heap.get?_push_size _ rfl) rfl rfl, (Y1_3 _ (Heap.get?_push_of_some _ (N _ hl).1) rfl ⟨_, rfl⟩)⟩ (F.push _) (fun p hp => ⟨Heap.get?_push_of_some _ (N p hp).1, (N p hp).2⟩) ⟨_, Heap.get?_push_size _ rfl⟩ (next_is_new F)
    (fun p hp => Nat.ne_of_lt (Heap.lt_size (N p hp).1)) (fun b hb => ?_) (J m₀) (fun _ => tup vs) (fun i m n hj b hb hbI hn => ?_) h0 (fun i h st => ?_) ?_ ?_
  · rcases List.mem_cons.mp hb with rfl | hb
    · exact Nat.ne_of_gt F.ns.lt
    · rw [List.mem_singleton.mp hb]; exact (N _ hl).2.1
  · rcases List.mem_cons.mp hb with rfl | hb
    · exact absurd rfl hbI
    · rw [List.mem_singleton.mp hb]; exact hJ _ _ _ hj
  · refine X1_2 st.1 fun o ho _ => ?_; exact ⟨o, ho⟩
  · intro i v m₁ news₁ h tk oI hi hP hj ne F₁ N₁
    exact turn i v m₁ news₁ h tk _ oI (by simpa using hP) hj ne F₁ N₁
  · intro m₁ news₁ h tk hj _ F₁ N₁
    exact done m₁ news₁ h tk (by simpa using hj) F₁ N₁
end
end
section
section
variable {w : World} {c : Cx w} {n : Led} {l : Fm} {rest : List Stmt} {sc : Scope} {d u : Nat} {b : Bool}
theorem LpS.tuple {a : Addr} {vs : List Value} : LpS c (.ref a) vs.length (fun i v => vs[i]? = some v) fun n => (a, tup vs) ∈ n := fun x body Q h tk m₀ news J F N hJ h0 turn done => loopTm (s := { c.s with heap := h, toks := tk }) rfl F N (hJ _ _ _ h0) (fun _ => J) hJ h0 turn done
theorem CaG.find3 {x : UInt8} {b : Bs} {t t0 t1 : Tok} {i : Nat} (hi : i ≤ b.length) : CaG c n l (.builtin "bytes.find") [.bytes b.toArray t, .bytes [x].toArray t0, .int (i : Int) t1] fun r n' => IV (iv (seek x (b.drop i) i)) r ∧ n' = n := fun Q kk h tk H =>
  _root_.Mine.find3 (kk _ _ ⟨⟨_, congrArg (Value.int · tk) (fnd_iv hi)⟩, rfl⟩ h _ H)
theorem Tst.inInts {e1 e2 : PySem.Expr} {pos : Pos} {k : Int} {a : Addr} {vs : List Value} {j : Nat} {ns : List Int} (h1 : EvR c n l e1 (IV k)) (h2 : EvP c n l e2 (.ref a)) (ha : (a, lstN vs j) ∈ n) (hi : IntsAre vs ns) (hm : behindInMarks .In e2 = false := by with_unfolding_all rfl) : Tst c n l (.Compare e1 [.In] [e2] pos) (k ∈ ns) := fun Q k1 k2 h tk H => by
  refine wpAny_isTrue_Compare1 (h1 _ (fun v hv h tk H => h2 _ (fun h tk H => ?_) h tk H) h tk H) hm
  obtain ⟨t, rfl⟩ := hv
  have H' := H
  obtain ⟨m, hid, hV, F, N, O⟩ := H
  refine in_list_ints (News.isList N (List.mem_append_right _ ha)) hi (wpAny_truthy_bool ?_)
  cases e : ns.any (· == k) with
  | true => exact k1 (by simpa using e) h tk H'
  | false => exact k2 (fun hk => by rw [List.any_eq_false] at e; exact e k hk (by simp)) h tk H'
theorem EvP.itemT {value slice : PySem.Expr} {pos : Pos} {a : Addr} {vs : List Value} {j : Nat} {v : Value} (hv : EvP c n l value (.ref a)) (ha : (a, tup vs) ∈ n) (hi : EvR c n l slice (IV (j : Int))) (hj : j < 100) (hx : vs[j]? = some v)
    (hs : ∀ o i, subscripted slice false o i = operate [o, i] (getItem o i) := by intro _ _; rfl) : EvP c n l (.Subscript value slice pos) v := fun Q kk h tk H =>
  Subscript_ (hv _ (fun h tk H => hi _ (fun i hiv h tk H => by
    obtain ⟨t, rfl⟩ := hiv
    have H' := H
    obtain ⟨m, hid, hV, F, N, O⟩ := H
    have hl : IsTup h a vs.toArray := Y1_3 _ ((N _ (List.mem_append_right _ ha)).1) rfl ⟨_, rfl⟩
    have hlt := (List.getElem?_eq_some_iff.mp hx).1
    have hj2 : seqIndex? (j : Int) vs.toArray.size = some j := by
      unfold seqIndex?
      have h0 : ¬ (j : Int) < 0 := by lia
      simp only [h0, if_false, List.size_toArray]
      rw [if_pos (by rw [Bool.and_eq_true, decide_eq_true_eq, decide_eq_true_eq]; lia)]
      rfl
    exact tail_any hl.typeIs slot_tuple_getitem.lookup (getItem_tuple hl (by lia) (by omega) hj2 (by simpa using hx) (kk h tk H')) (hs _ _)) h tk H) h tk H)
end
noncomputable abbrev frLr (b : Bs) (tb : Tok) (at_ inn cu sg nm td ct mn od ps pt : Option Value) : Fm := [(Str.ofString "octets", some (.bytes b.toArray tb)), (Str.ofString "at", at_), (Str.ofString "is_inner", inn), (Str.ofString "cuts", cu), (Str.ofString "sign", sg), (Str.ofString "name", nm), (Str.ofString "told", td), (Str.ofString "count", ct), (Str.ofString "many", mn), (Str.ofString "oid", od), (Str.ofString "parts", ps), (Str.ofString "part", pt)]
theorem rone_inner {rec : Nat → Bs → Option (List Tree × Bs)} {inner : Bool} {r nm r1 : Bs} {told : Int} {many : Nat} (h : rhead r = some (nm, told, many, r1)) (h2 : nm.isEmpty = inner) : rone rec inner r = none := by
  unfold rone
  rw [h]
  exact if_pos h2
theorem rone_oid {rec : Nat → Bs → Option (List Tree × Bs)} {inner : Bool} {r nm r1 : Bs} {told : Int} {many : Nat} (h : rhead r = some (nm, told, many, r1)) (h2 : ¬ nm.isEmpty = inner) (h3 : roid told r1 = none) : rone rec inner r = none := by
  unfold rone
  rw [h]
  dsimp only
  rw [if_neg h2, h3]
theorem rone_rec {rec : Nat → Bs → Option (List Tree × Bs)} {inner : Bool} {r nm r1 r2 : Bs} {told : Int} {many : Nat} {o : Option Bs} (h : rhead r = some (nm, told, many, r1)) (h2 : ¬ nm.isEmpty = inner) (h3 : roid told r1 = some (o, r2)) (h4 : rec many r2 = none) : rone rec inner r = none := by
  unfold rone
  rw [h]
  dsimp only
  rw [if_neg h2, h3]
  dsimp only
  rw [h4]
inductive LrK (N : Led) (b : Bs) (tb : Tok) (inner : Bool) (cl pl : Addr) (i : Nat) (told : Int) (r1 : Bs) (nm td ct mn : Value) (k : Led) : Fm → Prop
  | mk (i5 : Nat) (t5 : Tok) (vo : Value) (o : Option Bs) {sg : Option Value} (hs : ∀ q ∈ N, q ∈ k) (hn : ∀ q ∈ N, @Ne Nat q.1 pl) (mp : (pl, lstN [] 0) ∈ k) (h3 : i + 3 ≤ i5) (hle : i5 ≤ b.length) (ho : roid told r1 = some (o, b.drop i5)) (hv : OV vo o) :
    LrK N b tb inner cl pl i told r1 nm td ct mn k (frLr b tb (some (.int (i5 : Int) t5)) (some (.bool inner)) (some (.ref cl)) sg (some nm) (some td) (some ct) (some mn) (some vo) (some (.ref pl)) none)
inductive LrW (N : Led) (b : Bs) (tb : Tok) (inner : Bool) (cl pl : Addr) (i5 many : Nat) (nm td ct mn vo : Value) (m : Nat) (k : Led) : Fm → Prop
  | mk (i1 : Nat) (t1 : Tok) (ts : List Tree) (ws : List Value) (tl : Led) (jp : Nat) (pt sg : Option Value) (hs : ∀ q ∈ N, q ∈ k) (hn : ∀ q ∈ N, @Ne Nat q.1 pl) (mp : (pl, lstN ws jp) ∈ k) (ht : ToldsIn tl ws ts) (hnew : ∀ q ∈ tl, q ∈ k) (hap : Apart N tl) (hpl : ∀ q ∈ tl, @Ne Nat q.1 pl) (hm : ws.length + m = many)
    (h3 : i5 ≤ i1) (hw : ws.length ≤ i1) (hle : i1 ≤ b.length) (hr : rdl many (b.drop i5) = (rdl m (b.drop i1)).map fun p => (ts ++ p.1, p.2)) :
    LrW N b tb inner cl pl i5 many nm td ct mn vo m k (frLr b tb (some (.int (i1 : Int) t1)) (some (.bool inner)) (some (.ref cl)) sg (some nm) (some td) (some ct) (some mn) (some vo) (some (.ref pl)) pt)
noncomputable abbrev LrZ := Addr × Tok × Tok
noncomputable abbrev LrZ.vs (z : LrZ) : List Value := [.bytes [32].toArray z.2.1, .bytes [10].toArray z.2.2]
inductive LrJ (N : Led) (b : Bs) (i : Nat) (tb ti : Tok) (inner : Bool) (cl : Addr) (z : LrZ) (m : Nat) (k : Led) : Fm → Prop
  | mk (vs : List Value) (j : Nat) (sg : Option Value) (ha : IntsAre vs (((pos3 b i).take (m + 1)).map iv)) (mc : (cl, lstN vs j) ∈ k) (mz : (z.1, tup z.vs) ∈ k) (hs : ∀ q ∈ N, q ∈ k) (hz : @Ne Nat z.1 cl) (hn : ∀ q ∈ N, @Ne Nat q.1 cl) : LrJ N b i tb ti inner cl z m k (frLr b tb (some (.int (i : Int) ti)) (some (.bool inner)) (some (.ref cl)) sg none none none none none none none)
theorem lread_L : ∀ (f : Nat) {w : World} {c : Cx w} {n : Led} {l : Fm} {b : Bs} {i : Nat} {tb ti : Tok} {inner : Bool}, (b.drop i).length ≤ f → i ≤ b.length → b.length ≤ 200 → c.un + 4 * f + 40 < cLine → c.dp + f + 10 < recursionLimit →
    CaG c n l (.ref 333) [.bytes b.toArray tb, .int ((i : Nat) : Int) ti, .bool inner] fun r n' => ∃ tl, Ext n n' tl ∧ LRV b tl r (rone rdl inner (b.drop i)) := by
  intro f
  induction f using Nat.strongRecOn with
  | _ f ih =>
  intro w c n l b i tb ti inner hf hi hb hu hroom Q kk
  refine At.enter (by exact rfl) (by lia) [Str.ofString "octets", Str.ofString "at", Str.ofString "is_inner"] [Str.ofString "cuts", Str.ofString "sign", Str.ofString "name", Str.ofString "told", Str.ofString "count", Str.ofString "many", Str.ofString "oid", Str.ofString "parts", Str.ofString "part"]
    (frLr b tb (some (.int (i : Int) ti)) (some (.bool inner)) none none none none none none none none none) fun c' RQ hI => ?_
  have hw := hI.wk
  have bad : rone rdl inner (b.drop i) = none → ∀ k l', (∀ q ∈ n, q ∈ k) → Go c' k l' RQ (.ret .none) := fun e k l' hs => hI.ret _ _ _ (kk _ _ (Y1_2 [] ⟨hs, fun _ h => (nomatch h), Apart.nil⟩ (by rw [e]; rfl)))
  refine .assignQ <| .eList <| .argQ <| .eMeth (.name rfl) (Mt.bytes slot_bytes_find type_bytes_find) .blt <| .argR .bytes fun v hv => .argP (.name rfl) <| .arg0 <| .cq ?_
  obtain ⟨tv, rfl⟩ := hv
  refine CaG.find3 hi _ fun r k0 hr => ?_
  obtain ⟨⟨t0, rfl⟩, rfl⟩ := hr
  refine At.arg0 <| At.newLst fun cl k1 hC => Go.aq hw ?_
  refine .forX (α := LrZ) (cnt := 2) (P := fun z m v => z.vs[m]? = some v) (S := fun z n => (z.1, tup z.vs) ∈ n) hw (LrJ k0 b i tb ti inner cl) (fun Q2 k2 => .eTup <| .argR .bytes fun v1 h1 => .argR .bytes fun v2 h2 => .arg0 <| At.newTup fun T k3 hT => ?_) (fun z m k l' hid h => ?_) (fun z m v k l' ci TQ hv hJ hT => ?_) (fun z k l' hJ => ?_) rfl (by intro _ _; rfl)
  · obtain ⟨x1, rfl⟩ := h1
    obtain ⟨x2, rfl⟩ := h2
    exact k2 _ _ (Y1_2 (T, x1, x2) LpS.tuple ⟨_, _, _, .cons _ _ .nil, hT.sub _ hC.mem, hT.mem, fun q hq => hT.sub q (hC.sub q hq), Ne.symm (hT.ne _ hC.mem), hC.ne⟩)
  · obtain ⟨vs, j, sg, ha, mc, mz, hs, hz, hn⟩ := h
    exact ⟨List.mem_append_right _ mz, rfl⟩
  · obtain ⟨vs, j, sg, ha, mc, mz, hs, hz, hn⟩ := hJ
    refine X3_5 (pos_step hi hv) ?_; rintro x tx o rfl g1 g2 g3 g4
    refine X1_2 (ints_at ha g1) fun v0 hv0 hiv => ?_
    have hlen := ha.length
    rw [g2] at hlen
    have hm2 : m < 2 := (List.getElem?_eq_some_iff.mp hv).1
    have hback : ∀ (j' : Nat) (pos : Pos) (p1 p2 p3 : Pos), EvR ci k (put (frLr b tb (some (.int (i : Int) ti)) (some (.bool inner)) (some (.ref cl)) sg none none none none none none none) (Str.ofString "sign") (.bytes [x].toArray tx)) (.Subscript (.Name (Str.ofString "cuts") p1) (.UnaryOp .USub (.Constant (.int 1) j' p2) p3) pos) (IV (iv o)) := fun j' pos p1 p2 p3 =>
      EvP.r (.back (.name rfl) mc (.neg .int) (by lia) (by lia) (by lia) (by rw [show (-1 + (vs.length : Int)).toNat = m by omega]; exact hv0)) hiv
    refine .exprQ <| .eMeth (.name rfl) (.list mc PySem.F.slot_list_append PySem.F.type_list_append) .blt <| .argR (P := IV (iv (sk x b o))) (.ifE (.cmp (hback _ _ _ _ _) .int fun a b ha hb => .iGe ha hb) (fun h => ?_) fun h => ?_) fun v2 hv2 => .arg0 <| .cq <| Hp.app mc (by lia) _ fun r k2 hr => ?_
    · refine X1_2 (iv_nn h) ?_; rintro j0 rfl e1
      rw [e1] at hback
      have hj0 := g3 j0 rfl
      intro Q2 kk2
      refine .eMeth (.name rfl) (Mt.bytes slot_bytes_find type_bytes_find) .blt <| .argP (.name rfl) <| .argR (.iadd (hback _ _ _ _ _) .int) fun v hv => .arg0 <| .cq ?_
      obtain ⟨tv2, rfl⟩ := hv
      exact CaG.find3 (i := j0 + 1) hj0 _ fun r k0 hr => by
        obtain ⟨hr, rfl⟩ := hr
        exact kk2 _ hr
    · rw [iv_neg h]
      exact .neg .int
    · refine X0_2 hr ?_; clear hr; rintro rfl ⟨j2, M⟩
      obtain ⟨tv2, rfl⟩ := hv2
      exact Go.xq <| .nil <| hT.next _ _ ⟨_, _, _, by rw [g4]; exact ints_snoc ha, M.mem, M.sub _ mz hz, fun q hq => M.sub q (hs q hq) (hn q hq), hz, hn⟩
  · obtain ⟨vs, j, sg, ha, mc, mz, hs, hz, hn⟩ := hJ
    have ha : IntsAre vs ((pos3 b i).map iv) := ha
    refine .guard (.inInts (.neg .int) (.name rfl) mc ha) (fun hm => .retP .none (bad (rone_head (pos_none hm)) _ _ hs)) fun hm => ?_
    refine X9_7 (pos_vars hm) ?_; rintro u1 v1 u2 v2 u3 v3 j1 j2 j3 c1 c2 c3 d1 d2 d3 zz; obtain ⟨hlen, hj1, hj2, hj3, hpos⟩ := zz
    rw [hpos] at ha
    refine X3_1 (ints3 ha) ?_; rintro ta tb2 tc rfl
    clear ha hm
    have l1 := cut_len c1
    have l2 := cut_len c2
    have l3 := cut_len c3
    have hrh := rhead_eq c1 c2 c3
    clear l1 l2 l3
    refine At.swapQ (xs := [Str.ofString "name", Str.ofString "told"]) hw ?_
    refine .eTup <| .argR (P := BW u1) ?_ fun r1 hr1 => .argR (P := BW u2) ?_ fun r2 hr2 => .arg0 <| At.newTup fun T2 k4 hT2 => Go.swp2 hw hT2.mem ?_
    · have e : slc b (some (i : Int)) (some (j1 : Int)) = u1 := slc_cut c1 rfl (by rw [hj1])
      rw [← e]
      exact .cutB (EvP.r (P := BW b) (.name rfl) ⟨_, rfl⟩) (.some (EvP.r (P := IV (i : Int)) (.name rfl) ⟨_, rfl⟩)) (.some (EvP.r (P := IV (j1 : Int)) (.item (.name rfl) mc .int (by decide) (by decide) rfl) ⟨_, rfl⟩)) (by lia)
    · have e : slc b (some ((j1 : Int) + 1)) (some (j2 : Int)) = u2 := slc_cut (i := j1 + 1) (by rw [d1]; exact c2) (by lia) (by rw [hj2])
      rw [← e]
      exact .cutB (EvP.r (P := BW b) (.name rfl) ⟨_, rfl⟩) (.some (.iadd (EvP.r (P := IV (j1 : Int)) (.item (.name rfl) mc .int (by decide) (by decide) rfl) ⟨_, rfl⟩) .int)) (.some (EvP.r (P := IV (j2 : Int)) (.item (.name rfl) mc .int (by decide) (by decide) rfl) ⟨_, rfl⟩)) (by omega)
    obtain ⟨tr1, rfl⟩ := hr1
    obtain ⟨tr2, rfl⟩ := hr2
    have hs4 : ∀ q ∈ k0, q ∈ k4 := fun q hq => hT2.sub q (hs q hq)
    have mc4 := hT2.sub _ mc
    refine .assignG hw (R := fun v k' => TV v (tnum u2) ∧ ∀ q ∈ k4, q ∈ k') (fun Q kk => .ifE (.cmp (EvP.r (P := BW u2) (.name rfl) ⟨_, rfl⟩) .bytes fun a b ha hb => .bEq ha hb) (fun e => EvR.neg .int _ fun v hv => kk v _ ⟨by rw [show tnum u2 = some (-1) from if_pos e]; exact hv, fun _ h => h⟩) fun e => .eCall (.glob hw rfl) (.ref rfl) <| .argP (.name rfl) <| .arg0 <| .cq <| law_number_L (by rw [hw.dp]; lia) (by rw [hw.un]; lia) (by lia) _ fun v k hv => ?_) fun vt k5 hvt => ?_
    · exact kk v _ ⟨by rw [show tnum u2 = (num u2).map fun (k : Nat) => (k : Int) from if_neg e]; exact hv.1.tv, hv.2⟩
    obtain ⟨hvt, hs5⟩ := hvt
    have mc5 := hs5 _ mc4
    refine .assignQ <| .eCall (.glob hw rfl) (.ref rfl) <| .argR (P := BW u3) ?_ fun v hv => .arg0 <| .cq ?_
    · have e : slc b (some ((j2 : Int) + 1)) (some (j3 : Int)) = u3 := slc_cut (i := j2 + 1) (by rw [d2]; exact c3) (by lia) (by rw [hj3])
      rw [← e]
      exact .cutB (EvP.r (P := BW b) (.name rfl) ⟨_, rfl⟩) (.some (.iadd (EvP.r (P := IV (j2 : Int)) (.item (.name rfl) mc5 .int (by decide) (by decide) rfl) ⟨_, rfl⟩) .int)) (.some (EvP.r (P := IV (j3 : Int)) (.item (.name rfl) mc5 .int (by decide) (by decide) rfl) ⟨_, rfl⟩)) (by omega)
    obtain ⟨tv3, rfl⟩ := hv
    refine law_number_L (by rw [hw.dp]; omega) (by rw [hw.un]; omega) (by lia) _ fun vm k6 hvm => Go.aq hw ?_
    obtain ⟨hvm, hs6⟩ := hvm
    have mc6 := hs6 _ mc5
    generalize hT2 : tnum u2 = tn at hvt hrh
    generalize hM3 : num u3 = mn at hvm hrh
    have hs06 : ∀ q ∈ k0, q ∈ k6 := fun q hq => hs6 q (hs5 q (hs4 q hq))
    refine .guard (p := tn = none ∨ mn = none ∨ ¬ (¬ u1 = [] ↔ inner = true)) (.or3 (.cast (.cmp (EvP.r (P := fun v => v = vt) (.name rfl) rfl) (EvP.r (P := fun v => v = .none) .none rfl) fun a b ha hb => by subst ha; subst hb; exact .isNone) ?_) (fun _ => .cast (.cmp (EvP.r (P := fun v => v = vm) (.name rfl) rfl) (EvP.r (P := fun v => v = .none) .none rfl) fun a b ha hb => by subst ha; subst hb; exact .isNone) ?_)
      fun _ _ => .cmp (.cmpV (EvP.r (P := BW u1) (.name rfl) ⟨_, rfl⟩) .bytes fun a b ha hb => .bNe ha hb) (EvP.r (P := fun v => v = .bool inner) (.name rfl) rfl) fun a b ha hb => by subst hb; refine X1_2 ha ?_; clear ha; rintro x rfl hx; exact .boolNe hx Iff.rfl)
      (fun hp => .retP .none (bad ?_ _ _ hs06)) fun hp => ?_
    · cases tn with
      | none => exact ⟨fun _ => rfl, fun _ => hvt⟩
      | some told =>
        obtain ⟨t, rfl⟩ := hvt
        exact ⟨fun h => (nomatch h), fun h => nomatch h⟩
    · cases mn with
      | none => exact ⟨fun _ => rfl, fun _ => hvm⟩
      | some many =>
        obtain ⟨t, rfl⟩ := hvm
        exact ⟨fun h => (nomatch h), fun h => nomatch h⟩
    · cases tn with
      | none => exact rone_head hrh
      | some told =>
        cases mn with
        | none => exact rone_head hrh
        | some many =>
          refine rone_inner hrh ?_
          rcases hp with h | h | h
          · cases h
          · cases h
          · cases inner <;> cases u1 <;> simp_all
    cases tn with
    | none => exact absurd (.inl rfl) hp
    | some told =>
    cases mn with
    | none => exact absurd (.inr (.inl rfl)) hp
    | some many =>
    obtain ⟨tt, rfl⟩ := hvt
    obtain ⟨tm, rfl⟩ := hvm
    have hin : ¬ u1.isEmpty = inner := fun e => hp (.inr (.inr (by subst e; cases u1 <;> simp)))
    clear hp
    refine At.swapQ (xs := [Str.ofString "at", Str.ofString "oid", Str.ofString "parts"]) hw <| .eTup <| .argR (.iadd (EvP.r (P := IV (j3 : Int)) (.item (.name rfl) mc6 .int (by decide) (by decide) rfl) ⟨_, rfl⟩) .int) fun va hva => .argP .none <| .argQ <| .eList <| .arg0 <| At.newLst fun pl k7 hP => At.arg0 <| At.newTup fun T3 k8 hT3 => Go.swp3 hw hT3.mem ?_
    obtain ⟨ta4, rfl⟩ := hva
    have hs8 : ∀ q ∈ k0, q ∈ k8 := fun q hq => hT3.sub q (hP.sub q (hs06 q hq))
    have hpl : ∀ q ∈ k0, @Ne Nat q.1 pl := fun q hq => hP.ne q (hs06 q hq)
    have mp8 := hT3.sub _ hP.mem
    refine .ifJ2 (R := LrK k0 b tb inner cl pl i told v3 (.bytes u1.toArray tr1) (.bytes u2.toArray tr2) (.int told tt) (.int many tm)) (.cmp (EvP.r (P := IV told) (.name rfl) ⟨_, rfl⟩) .int fun a b ha hb => .iGe ha hb) (fun h => ?_) (fun h => ?_) fun k9 l9 hK => ?_
    · refine At.swapQ (xs := [Str.ofString "at", Str.ofString "oid"]) hw ?_
      refine .eTup <| .argR (.iadd (EvP.r (P := IV ((j3 : Int) + 1)) (.name rfl) ⟨_, rfl⟩) .int) fun va hva => .argR (P := BW ((b.drop (j3 + 1)).take 4)) ?_ fun vo hvo => .arg0 <| At.newTup fun T4 k9 hT4 => Go.swp2 hw hT4.mem ?_
      · have e : slc b (some ((j3 : Int) + 1)) (some ((j3 : Int) + 1 + 4)) = (b.drop (j3 + 1)).take 4 := slc_over (by lia) rfl rfl
        rw [← e]
        exact .cutB (EvP.r (P := BW b) (.name rfl) ⟨_, rfl⟩) (.some (EvP.r (P := IV ((j3 : Int) + 1)) (.name rfl) ⟨_, rfl⟩)) (.some (.iadd (EvP.r (P := IV ((j3 : Int) + 1)) (.name rfl) ⟨_, rfl⟩) .int)) (by lia)
      obtain ⟨ta5, rfl⟩ := hva
      rw [d3] at hvo
      obtain ⟨to, rfl⟩ := hvo
      have hs9 : ∀ q ∈ k0, q ∈ k9 := fun q hq => hT4.sub q (hs8 q hq)
      refine .guard (.cmp (.lenB hw (EvP.r (P := BW (v3.take 4)) (.name rfl) ⟨_, rfl⟩) (by rw [List.length_take]; omega)) .int fun a b ha hb => .iLt ha hb) (fun hp => .retP .none (bad (rone_oid hrh hin (roid_few h ?_)) _ _ hs9)) fun hp => .nil <| .nx2 ⟨j3 + 5, _, _, some (v3.take 4), hs9, hpl, hT4.sub _ mp8, by lia, ?_, ?_, ⟨_, rfl⟩⟩
      · have := List.length_take (i := 4) (l := v3)
        lia
      · have := List.length_take (i := 4) (l := v3)
        lia
      · rw [roid_pos h (by have := List.length_take (i := 4) (l := v3); omega), show j3 + 5 = j3 + 1 + 4 from rfl, ← List.drop_drop, d3]
    · exact .nil <| .nx2 ⟨j3 + 1, _, _, none, hs8, hpl, mp8, by lia, by omega, by rw [roid_neg h, d3], rfl⟩
    obtain ⟨i5, t5, vo, o, hs9, hn9, mp9, h35, hle5, hro, hov⟩ := hK
    have hrone : ∀ ts r, rdl many (b.drop i5) = some (ts, r) → rone rdl inner (b.drop i) = some (.mk u1 told o ts, r) := fun ts r e => rone_good hrh hin hro e
    have hrnone : rdl many (b.drop i5) = none → rone rdl inner (b.drop i) = none := rone_rec hrh hin hro
    refine .while_ hw (LrW k0 b tb inner cl pl i5 many (.bytes u1.toArray tr1) (.bytes u2.toArray tr2) (.int told tt) (.int many tm) vo) (k₀ := many) ⟨i5, _, [], [], [], 0, _, _, hs9, hn9, mp9, trivial, fun _ h => (nomatch h), Apart.nil, fun _ h => (nomatch h), Nat.zero_add _, Nat.le_refl _, Nat.zero_le _, hle5, ?_⟩ ?_
    · cases rdl many (b.drop i5) <;> rfl
    intro m k l' TQ hJ next ret
    obtain ⟨i1, t1, ts, ws, tl, jp, pt, sg, hs, hn, mp, ht, hnew, hap, hplt, hm, h3, hwl, hle, hr⟩ := hJ
    refine Y1_3 _ (.cmp (.lenL hw (.name rfl) mp (by lia)) (EvP.r (P := IV (many : Int)) (.name rfl) ⟨_, rfl⟩) fun a b ha hb => .iLt ha hb) (fun hlt => ?_) (fun hlt => ?_)
    · obtain ⟨m', rfl⟩ : ∃ m', m = m' + 1 := ⟨m - 1, by lia⟩
      rw [rdl_step] at hr
      refine .assignQ <| .eCall (.glob hw rfl) (.ref rfl) <| .argP (.name rfl) <| .argP (.name rfl) <| .argP .bool <| .arg0 <| .cq <| ih (b.drop i1).length (by rw [List.length_drop] at hf ⊢; lia) (Nat.le_refl _) hle hb (by rw [hw.un, List.length_drop]; rw [List.length_drop] at hf; lia) (by rw [hw.dp, List.length_drop]; rw [List.length_drop] at hf; lia) _ fun r k2 hr2 => Go.aq hw ?_
      refine X1_2 hr2 ?_; clear hr2; rintro tl2 hE hV
      generalize hro1 : rone rdl true (b.drop i1) = ro at hr hV
      cases ro with
      | none =>
        obtain rfl := LRV.none_ hV
        refine .guard (.cmp (EvP.r (P := fun v => v = .none) (.name rfl) rfl) (EvP.r (P := fun v => v = .none) .none rfl) fun a b ha hb => by subst ha; subst hb; exact .isNone) (fun _ => .retP .none (ret _ _ _ (bad (hrnone (by rw [hr]; rfl)) _ _ fun q hq => hE.sub q (hs q hq)))) fun h => absurd rfl h
      | some p =>
        obtain ⟨t, r'⟩ := p
        refine X4_5 hV ?_; clear hV; rintro R T i3 tk rfl hR hT rfl hi3
        have hl3 := rone_len (rec := rdl) (fun k r ts r' q => by have := rdl_len q; lia) hro1
        rw [List.length_drop, List.length_drop] at hl3
        refine .guard (.cmp (EvP.r (P := fun v => v = .ref R) (.name rfl) rfl) (EvP.r (P := fun v => v = .none) .none rfl) fun a b ha hb => by subst ha; subst hb; exact .isNone) (fun h => by cases h) fun _ => ?_
        have mp2 := hE.sub _ mp
        refine .exprQ <| .eMeth (.name rfl) (.list mp2 PySem.F.slot_list_append PySem.F.type_list_append) .blt <| .argP (.itemT (.name rfl) (hE.new _ hR) .int (by decide) rfl) <| .arg0 <| .cq <| Hp.app mp2 (by lia) _ fun r k3 hr3 => ?_
        refine X0_2 hr3 ?_; clear hr3; rintro rfl ⟨jp3, M⟩
        have pl2 : ∀ q ∈ tl2, @Ne Nat q.1 pl := fun q hq => Ne.symm (hE.apart _ mp q hq)
        refine Go.xq <| .assignR hw (P := IV (i3 : Int)) (EvP.r (.itemT (.name rfl) (M.sub _ (hE.new _ hR) (pl2 _ hR)) .int (by decide) rfl) ⟨_, rfl⟩) fun v hv => .nil ?_
        obtain ⟨t3, rfl⟩ := hv
        refine next m' _ _ (Nat.lt_succ_self _) ⟨i3, _, ts ++ [t], ws ++ [T], tl ++ tl2, jp3, _, _, fun q hq => M.sub q (hE.sub q (hs q hq)) (hn q hq), hn, M.mem, tolds_snoc (ht.mono in_l) (hT.mono in_r), fun q hq => ?_, hap.app fun q hq p hp => hE.apart q (hs q hq) p hp, fun q hq => ?_, ?_, by lia, ?_, hi3, ?_⟩
        · rcases List.mem_append.mp hq with hq | hq
          · exact M.sub q (hE.sub q (hnew q hq)) (hplt q hq)
          · exact M.sub q (hE.new q hq) (pl2 q hq)
        · rcases List.mem_append.mp hq with hq | hq
          · exact hplt q hq
          · exact pl2 q hq
        · rw [List.length_append, ← hm, Nat.add_assoc, Nat.add_comm m' 1]
          rfl
        · rw [List.length_append]
          exact Nat.le_trans (Nat.add_le_add_right hwl 1) (by lia)
        · rw [hr, Option.bind_some]
          show Option.map _ (Option.map _ (rdl m' (b.drop i3))) = Option.map _ (rdl m' (b.drop i3))
          cases rdl m' (b.drop i3) with
          | none => rfl
          | some q =>
            show some (ts ++ ([t] ++ q.1), q.2) = some ((ts ++ [t]) ++ q.1, q.2)
            rw [List.append_assoc]
    · obtain rfl : m = 0 := by lia
      rw [rdl_zero] at hr
      have e := hrone _ _ hr
      rw [List.append_nil] at e
      refine .retQ <| .eTup <| .argQ <| .eTup <| .argP (.name rfl) <| .argP (.name rfl) <| .argP (.name rfl) <| .argP (.name rfl) <| .arg0 <| At.newTup fun T k2 hT => At.argP (.name rfl) <| At.arg0 <| At.newTup fun R k3 hR => hI.ret _ _ _ (kk _ _ (Y1_2 ((R, tup [.ref T, .int (i1 : Int) t1]) :: (T, tup [.bytes u1.toArray tr1, .int told tt, vo, .ref pl]) :: (pl, lstN ws jp) :: tl) ⟨fun q hq => hR.sub q (hT.sub q (hs q hq)), fun q hq => ?_, fun q hq p hp => ?_⟩ ?_))
      · rcases List.mem_cons.mp hq with rfl | hq
        · exact hR.mem
        rcases List.mem_cons.mp hq with rfl | hq
        · exact hR.sub _ hT.mem
        rcases List.mem_cons.mp hq with rfl | hq
        · exact hR.sub _ (hT.sub _ mp)
        · exact hR.sub _ (hT.sub _ (hnew q hq))
      · rcases List.mem_cons.mp hp with rfl | hp
        · exact hR.ne q (hT.sub q (hs q hq))
        rcases List.mem_cons.mp hp with rfl | hp
        · exact hT.ne q (hs q hq)
        rcases List.mem_cons.mp hp with rfl | hp
        · exact hn q hq
        · exact hap q hq p hp
      · rw [e]
        refine Y4_5 R (.ref T) i1 t1 rfl (.head _) ?_ rfl hle
        show Exists _
        exact Y7_6 T tr1 vo pl tt ws jp rfl (.tail _ (.head _)) hov (.tail _ (.tail _ (.head _))) (ht.mono fun q hq => .tail _ (.tail _ (.tail _ hq))) (by lia)
end
section
theorem slc_to {b : Bs} {k : Int} (h0 : 0 ≤ k) (h1 : k ≤ b.length) : slc b none (some k) = b.take k.toNat := by
  unfold slc
  obtain ⟨n, rfl⟩ := Int.eq_ofNat_of_zero_le h0
  simp only [Option.elim, clipAt_nat, Int.toNat_natCast, List.drop_zero, Nat.sub_zero]
  rw [Nat.min_eq_left (by lia)]
theorem slc_from {b : Bs} {k : Int} (h0 : 0 ≤ k) : slc b (some k) none = b.drop k.toNat := by
  unfold slc
  obtain ⟨n, rfl⟩ := Int.eq_ofNat_of_zero_le h0
  simp only [Option.elim, clipAt_nat, Int.toNat_natCast]
  rw [List.take_of_length_le (by rw [List.length_drop]; lia)]
  by_cases h : n ≤ b.length
  · rw [Nat.min_eq_left h]
  · rw [Nat.min_eq_right (by lia), List.drop_eq_nil_of_le (by lia), List.drop_eq_nil_of_le (by omega)]
theorem At.itemG {w : World} {c : Cx w} {n : Led} {l : Fm} {value slice : PySem.Expr} {pos : Pos} {x : Bs} {R : Value → Led → Prop} {Q : Value → Shared → Prop} (hv : EvR c n l value (BW x)) (hi : EvG c n l slice R) (hz : x.length ≤ 100000) (k : ∀ j n', R j n' → ∃ i, IV i j ∧ 0 ≤ i ∧ i < (x.length : Int) ∧ ∀ v, IV (((x.getD i.toNat 0).toNat : Nat) : Int) v → Go c n' l Q v)
    (hs : ∀ o j, subscripted slice false o j = operate [o, j] (getItem o j) := by intro _ _; rfl) (ht : ∀ o t r, letTemporaryGo value (.bytes o t) r = pure () := by intro _ _ _; with_unfolding_all rfl) : At c n l (eval (.Subscript value slice pos) c.env) Q := fun h tk H =>
  Subscript_ (hv _ (fun o ho h tk H => hi _ (fun j n' hj h tk H => by
    refine X1_4 (k j n' hj) fun i hij h0 h1 kk => ?_
    obtain ⟨t, rfl⟩ := ho
    obtain ⟨t', rfl⟩ := hij
    exact bytes_item_K (by lia) h0 h1 rfl (kk _ ⟨_, rfl⟩ h _ H) (hs _ _) (ht _ _)) h tk H) h tk H)
noncomputable abbrev frBn (da : Addr) (b : Bs) (tb : Tok) (wy pl sg : Option Value) : Fm := [(Str.ofString "deck", some (.ref da)), (Str.ofString "octets", some (.bytes b.toArray tb)), (Str.ofString "way", wy), (Str.ofString "place", pl), (Str.ofString "sign", sg)]
theorem bent_L {w : World} {c : Cx w} {n : Led} {l : Fm} {da ca : Addr} {cs : List Value} {b : Bs} {tb : Tok} (hroom : c.dp + 1 < recursionLimit) (hb : b.length ≤ 180) (hD : DkAt w n da ca cs) : CaG c n l (.ref 357) [.ref da, .bytes b.toArray tb] fun r n' => (∃ x : Bs, BW x r ∧ x.length ≤ b.length + 1) ∧ DkT w n n' da ca cs := fun Q kk => by
  refine At.enter (by exact rfl) (by lia) [Str.ofString "deck", Str.ofString "octets"] [Str.ofString "way", Str.ofString "place", Str.ofString "sign"] (frBn da b tb none none none) fun c' RQ hI => ?_
  have hw := hI.wk
  have hr : c'.dp < recursionLimit := by rw [hw.dp]; exact hroom
  refine At.swapQ (xs := [Str.ofString "way", Str.ofString "place"]) hw <| .eTup <| .argQ <| .eCall (.glob hw rfl) (.ref rfl) <| .argP (.name rfl) <| .argR .int fun v hv => .arg0 <| .cq ?_
  obtain ⟨t1, rfl⟩ := hv
  refine draw_L hr hD (by decide) _ fun r k1 hr1 => ?_
  obtain ⟨⟨wy, hwy, hw0, hw1⟩, T1⟩ := hr1
  refine At.argQ <| At.eCall (.glob hw rfl) (.ref rfl) <| At.argP (.name rfl) <| At.argR (.iadd (.lenB hw (EvP.r (P := BW b) (.name rfl) ⟨_, rfl⟩) (by lia)) .int) fun v hv => At.arg0 <| Go.cq ?_
  obtain ⟨t2, rfl⟩ := hv
  refine draw_L hr T1.at_ (by lia) _ fun r2 k2 hr2 => ?_
  obtain ⟨⟨pl, hpl, hp0, hp1⟩, T2⟩ := hr2
  refine At.arg0 <| At.newTup fun T k3 hT => Go.swp2 hw hT.mem ?_
  refine .assignQ <| .eCall (.blt hw rfl (by boot_fast)) .typ <| .argQ <| .eList <| .argQ ?_
  refine At.itemG .bytes (R := fun v k => (∃ x, IV x v ∧ 0 ≤ x ∧ x < 10) ∧ DkT w k3 k da ca cs) (fun Q2 kk2 => .eCall (.glob hw rfl) (.ref rfl) <| .argP (.name rfl) <| .argR .int fun v hv => .arg0 <| .cq ?_) (Nat.le_of_ble_eq_true rfl) fun j k4 hj => ?_
  · obtain ⟨t3, rfl⟩ := hv
    exact draw_L hr (T2.at_.sub hT.sub) (by decide) _ kk2
  obtain ⟨⟨x, hx, hx0, hx1⟩, T3⟩ := hj
  refine Y1_4 x hx hx0 hx1 (fun v hv => ?_)
  obtain ⟨y, tv, rfl⟩ : ∃ y : UInt8, IV ((y.toNat : Nat) : Int) v := ⟨_, hv⟩
  refine At.arg0 <| At.newLst fun D k5 hD5 => At.arg0 <| Go.cq <| CaG.bytesL hD5.mem (.cons _ _ .nil) (fun n hn => ?_) (Nat.le_of_ble_eq_true rfl) _ fun r k6 hr6 => ?_
  · have := y.toNat_lt
    simp only [List.mem_singleton] at hn
    lia
  obtain ⟨⟨t6, rfl⟩, rfl⟩ := hr6
  have e1 : byteArr [((y.toNat : Nat) : Int)] = ([y] : Bs).toArray := by simp [byteArr]
  rw [e1]
  have fin : DkT w n k6 da ca cs := ⟨T3.at_.sub hD5.sub, fun q hq hn => hD5.sub q (T3.sub q (hT.sub q (T2.sub q (T1.sub q hq hn) hn)) hn)⟩
  refine Go.aq hw <| .retQ <| .ifE (.cmp (EvP.r (P := IV wy) (.name rfl) hwy) .int fun a b ha hb => .iEq ha hb) (fun e => ?_) fun e => ?_
  · exact (EvR.cutB (EvP.r (P := BW b) (.name rfl) ⟨_, rfl⟩) .none (.some (EvP.r (P := IV pl) (.name rfl) hpl)) (by lia) : EvR c' k6 _ _ _) _ fun v hv => hI.ret _ _ _ (kk _ _ ⟨Y1_2 _ hv (by rw [slc_to hp0 (by lia), List.length_take]; omega), fin⟩)
  · have hz : (slc b none (some pl)).length = pl.toNat := by rw [slc_to hp0 (by omega), List.length_take]; lia
    have hz2 : (slc b (some (pl + wy - 1)) none).length = b.length - (pl + wy - 1).toNat := by rw [slc_from (by lia), List.length_drop]
    have hy : ([y] : Bs).length = 1 := rfl
    refine (EvR.addB (.addB (.cutB (EvP.r (P := BW b) (.name rfl) ⟨_, rfl⟩) .none (.some (EvP.r (P := IV pl) (.name rfl) hpl)) (by lia)) (EvP.r (P := BW [y]) (.name rfl) ⟨_, rfl⟩) (by lia)) (.cutB (EvP.r (P := BW b) (.name rfl) ⟨_, rfl⟩) (.some (.isub (.iadd (EvP.r (P := IV pl) (.name rfl) hpl) (EvP.r (P := IV wy) (.name rfl) hwy)) .int)) .none (by omega)) (by rw [List.length_append]; omega) : EvR c' k6 _ _ _) _ fun v hv => hI.ret _ _ _ (kk _ _ ⟨Y1_2 _ hv (by rw [List.length_append, List.length_append]; omega), fin⟩)
end
section
noncomputable def Tree.forgot : List Bs → Tree → Tree
  | [], t => t
  | [x], .mk n _ o ps => .mk n (-1) o (ps.filter fun p => decide (p.nm ≠ x))
  | x :: y :: r, .mk n _ o ps => .mk n (-1) o (ps.map fun p => if p.nm = x then p.forgot (y :: r) else p)
theorem tolds_open {l : Led} {P : Prop} {ps : List Tree} {vs : List Value} {i : Nat} {v : Value} (h : ToldsIn l vs ps) (e : vs[i]? = some v)
    (k : ∀ n c o qs a tn vo pl t us j, ps[i]? = some (.mk n c o qs) → ToldIn l v (.mk n c o qs) → v = .ref a → (a, tup [.bytes n.toArray tn, .int c t, vo, .ref pl]) ∈ l → OV vo o → (pl, lstN us j) ∈ l → ToldsIn l us qs → us.length ≤ 1000 → P) : P := by
  refine X1_2 (tolds_get h e) ?_; rintro ⟨n, c, o, qs⟩ h1 h2
  exact h2.open fun a tn vo pl t us j e1 => k n c o qs a tn vo pl t us j h1 h2 e1
theorem bvs_cons {vs : List Value} {x : Bs} {r : List Bs} (h : BVs vs (x :: r)) : ∃ t us, vs = .bytes x.toArray t :: us ∧ BVs us r := by
  cases vs with
  | nil => exact False.elim h
  | cons v us => change _ ∧ _ at h; obtain ⟨⟨t, rfl⟩, h2⟩ := h; exact Y2_2 t us rfl h2
theorem Go.tup4 {w : World} {c : Cx w} {n : Led} {l : Fm} {rest : List Stmt} {sc : Scope} {d u : Nat} {x y z p : Str} {px py pz pp tp : Pos} {j : Nat} {a : Addr} {v1 v2 v3 v4 : Value} {Q : Flow → Shared → Prop} (hw : Wk c sc d u true) (ha : (a, tup [v1, v2, v3, v4]) ∈ n) (k : At c n (put (put (put (put l x v1) y v2) z v3) p v4) (execs rest c.env) Q)
    (hx : (l.map (·.1)).contains x = true := by rfl) (hy : ((put l x v1).map (·.1)).contains y = true := by rfl) (hz : ((put (put l x v1) y v2).map (·.1)).contains z = true := by rfl) (hp : ((put (put (put l x v1) y v2) z v3).map (·.1)).contains p = true := by rfl) : Go c n l (Uq c [.Name x px, .Name y py, .Name z pz, .Name p pp] j tp rest Q) (.ref a) :=
  At.unp (ts := [PySem.assign (.Name x px) c.env, PySem.assign (.Name y py) c.env, PySem.assign (.Name z pz) c.env, PySem.assign (.Name p pp) c.env]) ha rfl (.ord hw hx (.ord hw hy (.ord hw hz (.ord hw hp (.ord0 k)))))
theorem map_take {α β : Type} {f : α → β} {ps : List α} {i : Nat} {p : α} (h : ps[i]? = some p) : (ps.take (i + 1)).map f = (ps.take i).map f ++ [f p] := by
  rw [List.take_add_one, h, List.map_append]
  rfl
theorem filter_take {α : Type} {f : α → Bool} {ps : List α} {i : Nat} {p : α} (h : ps[i]? = some p) : (ps.take (i + 1)).filter f = (ps.take i).filter f ++ if f p then [p] else [] := by
  rw [List.take_add_one, h, List.filter_append]
  show _ ++ List.filter f [p] = _
  rw [List.filter_cons, List.filter_nil]
noncomputable abbrev frFg (v : Value) (nl : Addr) (nm ct od pt : Option Value) : Fm := [(Str.ofString "told", some v), (Str.ofString "names", some (.ref nl)), (Str.ofString "name", nm), (Str.ofString "count", ct), (Str.ofString "oid", od), (Str.ofString "parts", pt)]
theorem forgotten_L : ∀ (names : List Bs) (t : Tree) {w : World} {c : Cx w} {n old : Led} {l : Fm} {v : Value} {nl : Addr} {vn : List Value} {kn : Nat}, names ≠ [] → names.length ≤ 3 → c.dp + names.length + 1 < recursionLimit → (∀ q ∈ old, q ∈ n) → ToldIn old v t → (nl, lstN vn kn) ∈ n → BVs vn names →
    CaG c n l (.ref 377) [v, .ref nl] fun r n' => ∃ tl, Ext n n' tl ∧ ToldIn (old ++ tl) r (t.forgot names) := by
  intro names
  induction names with
  | nil => intro t w c n old l v nl vn kn h; exact absurd rfl h
  | cons x rest ih =>
  rintro ⟨nm, cn, o, ps⟩ w c n old l v nl vn kn hne hnm hroom hold ht hnl hvn Q kk
  refine X2_2 (bvs_cons hvn) ?_; rintro tx vr rfl hvr
  have hlv := bvs_len hvr
  rw [List.length_cons] at hnm hroom
  refine ht.open ?_
  rintro a tn vo pl t vs i rfl h1' h2 h3' h4 h5
  have h1 := hold _ h1'
  have h3 := hold _ h3'
  refine At.enter (by exact rfl) (by lia) [Str.ofString "told", Str.ofString "names"] [Str.ofString "name", Str.ofString "count", Str.ofString "oid", Str.ofString "parts"] (frFg (.ref a) nl none none none none) fun c' RQ hI => ?_
  have hw := hI.wk
  refine .tupQ <| (EvP.name rfl) _ <| Go.tup4 hw h1 ?_
  have hpl := tolds_len h4
  refine .guard (.cmp (.lenL hw (.name rfl) hnl (by rw [List.length_cons]; lia)) .int fun a b ha hb => .iEq ha hb) (fun e => ?_) fun e => ?_
  · have hr0 : rest = [] := List.eq_nil_of_length_eq_zero (by rw [List.length_cons] at e; lia)
    subst hr0
    refine .retQ <| .eTup <| .argP (.name rfl) <| .argR (.neg .int) fun v1 hv1 => .argP (.name rfl) <| .argQ <| .eCompT hw (.name rfl) h3 h5 (fun i ys k => k = n ∧ ToldsIn old ys ((ps.take i).filter fun p => decide (p.nm ≠ x)) ∧ ys.length ≤ i) (Y0_3 rfl True.intro (Nat.le_refl _)) (fun i ys k h => by rw [h.1]; exact h3) (fun i v ys k c2 hv hj hw2 => ?_) fun D ys k k' hj hD => At.arg0 <| At.newTup fun T k2 hT => hI.ret _ _ _ (kk _ _ ?_)
    · refine X0_3 hj ?_; clear hj; rintro rfl hT hl
      refine tolds_open h4 hv ?_
      rintro n2 c2' o2 ps2 a2 tn2 vo2 pl2 q2 vs2 i2 hps hin rfl g1' g3 g4' g5 g6
      have hft := filter_take (f := fun p => decide (p.nm ≠ x)) hps
      refine Y1_3 (n2 ≠ x) (.cmp (EvP.r (P := BW n2) (.itemT (.name rfl) (hold _ g1') .int (by decide) rfl) ⟨_, rfl⟩) (EvP.r (P := BW x) (.item (.name rfl) hnl .int (by decide) (by decide) rfl) ⟨_, rfl⟩) fun a b ha hb => .bNe ha hb) (fun e => EvP.g (.name rfl) (Y0_3 rfl ?_ ?_)) (fun e => (Y0_3 rfl ?_ (Nat.le_succ_of_le hl)))
      · rw [hft, if_pos (show decide (Tree.nm (.mk n2 c2' o2 ps2) ≠ x) = true from decide_eq_true e)]
        exact tolds_snoc hT hin
      · rw [List.length_append]
        exact Nat.succ_le_succ hl
      · rw [hft, if_neg (show ¬ decide (Tree.nm (.mk n2 c2' o2 ps2) ≠ x) = true from fun h => e (of_decide_eq_true h)), List.append_nil]
        exact hT
    · refine X0_3 hj ?_; clear hj; rintro rfl hTs hl
      obtain ⟨t1, rfl⟩ := hv1
      rw [hpl, List.take_length] at hTs
      refine Y1_2 ((T, tup [.bytes nm.toArray tn, .int (-1) t1, vo, .ref D]) :: (D, lstN ys ys.length) :: []) ((Ext.rfl'.mk1 hD).mk1 hT) ?_
      unfold Tree.forgot; show Exists _
      exact Y7_6 T tn vo D _ ys _ rfl (List.mem_append_right _ (.head _)) h2 (List.mem_append_right _ (.tail _ (.head _))) (hTs.mono in_l) (Nat.le_trans hl h5)
  · cases rest with
    | nil => exact absurd (by rw [List.length_cons, hlv]; rfl) e
    | cons y r =>
    refine .retQ <| .eTup <| .argP (.name rfl) <| .argR (.neg .int) fun v1 hv1 => .argP (.name rfl) <| .argQ <| .eComp hw (.name rfl) h3 h5 (fun i ys k => ∃ tl, Ext n k tl ∧ ToldsIn (old ++ tl) ys ((ps.take i).map fun p => if p.nm = x then p.forgot (y :: r) else p)) (Y1_2 [] .rfl' True.intro) (fun i ys k h => h.elim fun _ h => h.1.sub _ h3) (fun i v ys k c2 hv hj hw2 Q2 kk2 => ?_) fun D ys k k' hj hD => At.arg0 <| At.newTup fun T k2 hT => hI.ret _ _ _ (kk _ _ ?_)
    · refine X1_2 hj ?_; clear hj; rintro tl hE hT
      refine tolds_open h4 hv ?_
      rintro n2 c2' o2 ps2 a2 tn2 vo2 pl2 q2 vs2 i2 hps hin rfl g1' g3 g4' g5 g6
      have hmt := map_take (f := fun p => if p.nm = x then p.forgot (y :: r) else p) hps
      have hnl2 := hE.sub _ hnl
      refine .ifE (.cmp (EvP.r (P := BW n2) (.itemT (.name rfl) (hE.sub _ (hold _ g1')) .int (by decide) rfl) ⟨_, rfl⟩) (EvP.r (P := BW x) (.item (.name rfl) hnl2 .int (by decide) (by decide) rfl) ⟨_, rfl⟩) fun a b ha hb => .bEq ha hb) (fun e => ?_) fun e => ?_
      · refine .eCall (.glob hw2 rfl) (.ref rfl) <| .argP (.name rfl) <| .argQ <| .cutL (.name rfl) hnl2 (.some .int) .none (by rw [List.length_cons]; lia) fun D k3 hD => At.arg0 <| Go.cq ?_
        have hDm := hD.mem
        rw [pick_from1] at hDm
        refine ih (.mk n2 c2' o2 ps2) (old := old) (List.cons_ne_nil _ _) (by lia) (by rw [hw2.dp]; lia) (fun q hq => hD.sub q (hE.sub q (hold q hq))) hin hDm hvr _ fun r1 k4 hr => kk2 _ _ ?_
        refine X1_2 hr ?_; clear hr; rintro tl2 hE2 hr1
        refine Y1_2 _ ⟨fun q hq => hE2.sub q (hD.sub q (hE.sub q hq)), fun q hq => ?_, hE.apart.app fun q hq p hp => hE2.apart q (hD.sub q (hE.sub q hq)) p hp⟩ ?_
        · rcases List.mem_append.mp hq with hq | hq
          · exact hE2.sub q (hD.sub q (hE.new q hq))
          · exact hE2.new q hq
        · rw [hmt]
          refine tolds_snoc (hT.mono fun q hq => ?_) ?_
          · rcases List.mem_append.mp hq with hq | hq
            · exact List.mem_append_left _ hq
            · exact List.mem_append_right _ (List.mem_append_left _ hq)
          · rw [if_pos (show Tree.nm (.mk n2 c2' o2 ps2) = x from e)]
            refine hr1.mono fun q hq => ?_
            rcases List.mem_append.mp hq with hq | hq
            · exact List.mem_append_left _ hq
            · exact List.mem_append_right _ (List.mem_append_right _ hq)
      · refine (EvP.name rfl) _ (kk2 _ _ (Y1_2 tl hE ?_))
        rw [hmt, if_neg (show ¬ Tree.nm (.mk n2 c2' o2 ps2) = x from e)]
        exact tolds_snoc hT (hin.mono in_l)
    · refine X1_2 hj ?_; clear hj; rintro tl hE hTs
      obtain ⟨t1, rfl⟩ := hv1
      have hl := tolds_len hTs
      rw [hpl, List.take_length] at hTs
      refine Y1_2 _ ((hE.mk1 hD).mk1 hT) ?_
      unfold Tree.forgot; show Exists _
      refine Y7_6 T tn vo D _ ys _ rfl (List.mem_append_right _ (.head _)) h2 (List.mem_append_right _ (.tail _ (.head _))) (hTs.mono fun q hq => ?_) ?_
      · rcases List.mem_append.mp hq with hq | hq
        · exact List.mem_append_left _ hq
        · exact List.mem_append_right _ (.tail _ (.tail _ hq))
      · rw [hl, List.length_map, List.length_take]
        lia
end
section
mutual
noncomputable def Tree.row : Tree → Bs
  | .mk n c o ps => n ++ [0] ++ (figs c ++ [32] ++ figs ps.length ++ [10]) ++ (o.getD [] ++ Tree.rows ps)
noncomputable def Tree.rows : List Tree → Bs
  | [] => []
  | p :: r => p.row ++ Tree.rows r
end
inductive Tree.Fine : Tree → Prop
  | mk {n c o ps} : n.length ≤ 2 → -1 ≤ c → c ≤ 98 → ps.length ≤ 3 → (c < 0 → o = none) → (0 ≤ c → ∃ x, o = some x ∧ x.length ≤ 4) → (∀ p ∈ ps, Tree.Fine p) → Tree.Fine (.mk n c o ps)
theorem rows_app : ∀ {a b : List Tree}, Tree.rows (a ++ b) = Tree.rows a ++ Tree.rows b
  | [], b => by simp [Tree.rows]
  | p :: a, b => by rw [List.cons_append, Tree.rows, rows_app, Tree.rows, List.append_assoc]
theorem szs_rev : ∀ {a : List Tree}, Tree.szs a.reverse = Tree.szs a
  | [] => rfl
  | p :: a => by rw [List.reverse_cons, szs_app, szs_rev]; simp [Tree.szs]; lia
theorem trees_rev {w : World} {l : Led} : ∀ {ps : List Tree} {vs : List Value}, TreesIn w l vs ps → TreesIn w l vs.reverse ps.reverse
  | [], [], _ => trivial
  | [], _ :: _, h => False.elim h
  | _ :: _, [], h => False.elim h
  | p :: ps, v :: vs, h => by
    change _ ∧ _ at h
    rw [List.reverse_cons, List.reverse_cons]
    exact trees_snoc (trees_rev h.2) h.1
theorem trees_join {w : World} {l : Led} : ∀ {ps qs : List Tree} {vs us : List Value}, TreesIn w l vs ps → TreesIn w l us qs → TreesIn w l (vs ++ us) (ps ++ qs)
  | [], _, [], _, _, k => k
  | [], _, _ :: _, _, h, _ => False.elim h
  | _ :: _, _, [], _, h, _ => False.elim h
  | p :: ps, qs, v :: vs, us, h, k => by
    change _ ∧ _ at h
    rw [List.cons_append, List.cons_append]
    show _ ∧ _
    exact ⟨h.1, trees_join h.2 k⟩
theorem trees_last {w : World} {l : Led} {ps : List Tree} {vs : List Value} (h : TreesIn w l vs ps) (hne : vs ≠ []) : ∃ us u qs q, vs = us ++ [u] ∧ ps = qs ++ [q] ∧ TreesIn w l us qs ∧ TreeIn w l u q := by
  have h2 := trees_rev h
  cases e : vs.reverse with
  | nil => exact absurd (List.reverse_eq_nil_iff.mp e) hne
  | cons u r =>
    rw [e] at h2
    cases e2 : ps.reverse with
    | nil => rw [e2] at h2; exact False.elim h2
    | cons q qs =>
      rw [e2] at h2
      change _ ∧ _ at h2
      refine Y4_4 r.reverse u qs.reverse q ?_ ?_ (trees_rev h2.2) h2.1
      · rw [← List.reverse_cons, ← e, List.reverse_reverse]
      · rw [← List.reverse_cons, ← e2, List.reverse_reverse]
theorem row_tree : ∀ f : Fold, f.tree.row = f.row := by
  have key : ∀ ps : List Fold, (∀ q ∈ ps, q.tree.row = q.row) → Tree.rows (Fold.trees ps) = Fold.rows ps := by
    intro ps
    induction ps with
    | nil => intro _; simp [Fold.trees, Tree.rows, Fold.rows]
    | cons p r ih =>
      intro h
      rw [Fold.trees, Tree.rows, Fold.rows, h p (.head _), ih fun q hq => h q (.tail _ hq)]
  intro f
  induction f using Fold.ind with
  | h n c o ps fs m ih =>
    rw [Fold.tree, Tree.row, Fold.row, key ps ih, ← trees_length]
    simp only [List.append_assoc]
theorem nodes_le {d : Nat} (h : d ≤ 2) : nodes d ≤ 13 := by rcases (by lia : d = 0 ∨ d = 1 ∨ d = 2) with rfl | rfl | rfl <;> decide
theorem fine_of : ∀ (d : Nat) (f : Fold), Fold.Ok d f → d ≤ 2 → f.tree.Fine ∧ f.tree.sz ≤ nodes d := by
  have key : ∀ (k : Nat) (ps : List Fold), (∀ p ∈ ps, p.tree.sz ≤ k) → Tree.szs (Fold.trees ps) ≤ ps.length * k := by
    intro k ps
    induction ps with
    | nil => intro _; simp [Fold.trees, Tree.szs]
    | cons p r ih =>
      intro h
      rw [Fold.trees, Tree.szs, List.length_cons, Nat.succ_mul]
      have := h p (.head _)
      have := ih fun q hq => h q (.tail _ hq)
      lia
  have mem : ∀ (ps : List Fold) (P : Tree → Prop), (∀ p ∈ ps, P p.tree) → ∀ t ∈ Fold.trees ps, P t := by
    intro ps P
    induction ps with
    | nil => intro _ t ht; simp [Fold.trees] at ht
    | cons p r ih =>
      intro h t ht
      rw [Fold.trees] at ht
      rcases List.mem_cons.mp ht with rfl | ht
      · exact h p (.head _)
      · exact ih (fun q hq => h q (.tail _ hq)) t ht
  intro d
  induction d with
  | zero =>
    rintro ⟨n, c, o, ps, fs, m⟩ h _
    rw [Fold.Ok_eq] at h
    refine X0_12 h ?_; clear h; rintro h1 _ _ h4 h5 h6 h7 _ _ _ _ h12
    simp at h12
    subst h12
    rw [Fold.tree]
    refine ⟨.mk h1 h4 (by simp [nodes] at h5; lia) (by simp [Fold.trees]) h6 (fun hc => let ⟨x, hx⟩ := h7 hc; (Y1_2 _ hx (by simp))) (by simp [Fold.trees]), ?_⟩
    simp [Tree.sz, Fold.trees, Tree.szs, nodes]
  | succ d ih =>
    rintro ⟨n, c, o, ps, fs, m⟩ h hd
    have hl := h.len
    rw [Fold.Ok_eq] at h
    refine X0_12 h ?_; clear h; rintro h1 _ _ h4 h5 h6 h7 _ _ _ _ h12
    have hn := nodes_le hd
    rw [Fold.tree]
    refine ⟨.mk h1 h4 (by lia) (by rw [← trees_length]; exact hl) h6 (fun hc => let ⟨x, hx⟩ := h7 hc; (Y1_2 _ hx (by simp))) (mem ps _ fun p hp => (ih p (h12 p hp) (by lia)).1), ?_⟩
    have := key (nodes d) ps fun p hp => (ih p (h12 p hp) (by omega)).2
    have hm : ps.length * nodes d ≤ 3 * nodes d := Nat.mul_le_mul_right _ hl
    rw [Tree.sz, nodes]
    lia
end
section
/-! plain laws of the folders -/
theorem figs_back : (List.range 101).all (fun n => tnum (figs ((n : Int) - 1)) == some ((n : Int) - 1) && !(figs ((n : Int) - 1)).contains 32 && !(figs ((n : Int) - 1)).contains 10) = true := by decide +kernel
theorem nums_back : (List.range 100).all (fun n => num (figs (n : Int)) == some n) = true := by decide +kernel
theorem figs_rd {k : Int} (h : -1 ≤ k) (h2 : k ≤ 99) : tnum (figs k) = some k ∧ 32 ∉ figs k ∧ 10 ∉ figs k := by
  have := List.all_eq_true.mp figs_back (k + 1).toNat (List.mem_range.mpr (by lia))
  have e : ((k + 1).toNat : Int) - 1 = k := by lia
  rw [e] at this
  simp only [Bool.and_eq_true, beq_iff_eq, Bool.not_eq_true', List.contains_eq_mem, decide_eq_false_iff_not] at this
  exact Y0_3 this.1.1 this.1.2 this.2
theorem figs_num {k : Nat} (h : k ≤ 99) : num (figs k) = some k := by
  exact eq_of_beq (List.all_eq_true.mp nums_back k (List.mem_range.mpr (by omega)))
theorem rhead_row {nm r : Bs} {c : Int} {k : Nat} (hn : (0 : UInt8) ∉ nm) (h1 : -1 ≤ c) (h2 : c ≤ 99) (h3 : k ≤ 99) : rhead (nm ++ [0] ++ figs c ++ [32] ++ figs k ++ [10] ++ r) = some (nm, c, k, r) := by
  refine X0_3 (figs_rd h1 h2) fun t1 t2 _ => ?_
  refine X0_3 (figs_rd (k := (k : Int)) (by lia) (by lia)) fun _ _ t3 => ?_
  have e : nm ++ [0] ++ figs c ++ [32] ++ figs k ++ [10] ++ r = nm ++ 0 :: (figs c ++ 32 :: (figs k ++ 10 :: r)) := by simp only [List.append_assoc, List.cons_append, List.nil_append]
  rw [e, rhead_eq (cut_app hn) (cut_app t2) (cut_app t3), t1, figs_num h3]; rfl
theorem roid_row {c : Int} {o : Option Bs} {r : Bs} (h1 : c < 0 → o = none) (h2 : 0 ≤ c → ∃ x, o = some [x, 0, 10, 32]) : roid c (o.getD [] ++ r) = some (o, r) := by
  by_cases h : 0 ≤ c
  · obtain ⟨x, rfl⟩ := h2 h
    rw [roid_pos h (by simp)]
    rfl
  · obtain rfl := h1 (by lia)
    exact roid_neg h
theorem name_in {ps : List Fold} (h : (ps.map Fold.name).Sublist [[97], [99], [97, 98]]) {p : Fold} (hp : p ∈ ps) : p.name ∈ [[97], [99], [97, 98]] := h.subset (List.mem_map.mpr (Y1_2 p hp rfl))
theorem rows_back {ps : List Fold} (hp : ∀ p ∈ ps, ∀ r, rone rdl true (p.row ++ r) = some (p.tree, r)) : ∀ r, rdl ps.length (Fold.rows ps ++ r) = some (Fold.trees ps, r) := by
  induction ps with
  | nil => intro r; rw [Fold.rows, Fold.trees, List.length_nil, rdl_zero]; rfl
  | cons p q ih =>
    intro r
    rw [Fold.rows, Fold.trees, List.length_cons, List.append_assoc, rdl_succ, hp p (.head _)]
    dsimp only
    rw [ih fun x hx => hp x (.tail _ hx)]
theorem row_back : ∀ (d : Nat) (f : Fold), Fold.Ok d f → d ≤ 2 → ∀ inner r, ¬ f.name.isEmpty = inner → rone rdl inner (f.row ++ r) = some (f.tree, r) := by
  have step : ∀ (d : Nat) (n : Bs) (c : Int) (o : Option Bs) (ps : List Fold) (fs : List Bs) (m : Int), Fold.Ok d (.mk n c o ps fs m) → d ≤ 2 → (∀ p ∈ ps, ∀ r, rone rdl true (p.row ++ r) = some (p.tree, r)) → ∀ inner r, ¬ n.isEmpty = inner → rone rdl inner ((Fold.mk n c o ps fs m).row ++ r) = some ((Fold.mk n c o ps fs m).tree, r) := by
    intro d n c o ps fs m h hd hp inner r hin
    have hl := h.len
    rw [Fold.Ok_eq] at h
    refine X0_8 h ?_; clear h; rintro _ h2 _ h4 h5 h6 h7 _
    have hn := nodes_le hd
    rw [Fold.row, Fold.tree, List.append_assoc (_ ++ [10]), List.append_assoc (o.getD [])]
    exact rone_good (rhead_row h2 h4 (by lia) (by lia)) hin (roid_row h6 h7) (rows_back hp r)
  intro d
  induction d with
  | zero =>
    rintro ⟨n, c, o, ps, fs, m⟩ h hd inner r hin
    have h' := h
    rw [Fold.Ok_eq] at h'
    have hps : ps = [] := h'.2.2.2.2.2.2.2.2.2.2.2
    exact step 0 n c o ps fs m h hd (by rw [hps]; intro p hp; cases hp) inner r hin
  | succ d ih =>
    rintro ⟨n, c, o, ps, fs, m⟩ h hd inner r hin
    have h' := h
    rw [Fold.Ok_eq] at h'
    refine X0_12 h' ?_; clear h'; rintro _ _ _ _ _ _ _ h8 _ _ _ h12
    refine step (d + 1) n c o ps fs m h hd (fun p hp r => ih p (h12 p hp) (by lia) true r ?_) inner r hin
    have := name_in h8 hp
    simp only [List.mem_cons, List.not_mem_nil, or_false] at this
    rcases this with e | e | e <;> rw [e] <;> decide
theorem rtop_row {f : Fold} (h : Fold.Ok 2 f) (hn : f.name = []) : rtop f.row = some f.tree := by
  have := row_back 2 f h (by decide) false [] (by rw [hn]; decide)
  rw [List.append_nil] at this
  unfold rtop
  rw [this]
theorem rtop_one {b : Bs} : rtop b = match rone rdl false b with | some (t, []) => some t | _ => none := rfl
theorem trees_map : ∀ {ps : List Fold}, (Fold.trees ps).map Tree.nm = ps.map Fold.name
  | [] => rfl
  | .mk n c o qs fs m :: r => by
    rw [Fold.trees, List.map_cons, List.map_cons, trees_map, Fold.tree]
    rfl
theorem good_of : ∀ (d : Nat) (f : Fold), Fold.Ok d f → f.tree.Good := by
  have mem : ∀ (ps : List Fold) (P : Tree → Prop), (∀ p ∈ ps, P p.tree) → ∀ t ∈ Fold.trees ps, P t := by
    intro ps P
    induction ps with
    | nil => intro _ t ht; simp [Fold.trees] at ht
    | cons p r ih =>
      intro h t ht
      rw [Fold.trees] at ht
      rcases List.mem_cons.mp ht with rfl | ht
      · exact h p (.head _)
      · exact ih (fun q hq => h q (.tail _ hq)) t ht
  have pw : ([[97], [99], [97, 98]] : List Bs).Pairwise KLt := by
    refine .cons (fun y hy => ?_) (.cons (fun y hy => ?_) (.cons (fun y hy => (nomatch hy)) .nil))
    · simp only [List.mem_cons, List.not_mem_nil, or_false] at hy
      rcases hy with rfl | rfl
      · exact .inr ⟨rfl, by decide⟩
      · exact .inl (by decide)
    · rw [List.mem_singleton.mp hy]
      exact .inl (by decide)
  intro d
  induction d with
  | zero =>
    rintro ⟨n, c, o, ps, fs, m⟩ h
    rw [Fold.Ok_eq] at h
    have hps : ps = [] := h.2.2.2.2.2.2.2.2.2.2.2
    subst hps
    rw [Fold.tree]
    exact .mk (by simp [Fold.trees]) (by simp [Fold.trees]) (by simp [Fold.trees]) (by simp [Fold.trees])
  | succ d ih =>
    rintro ⟨n, c, o, ps, fs, m⟩ h
    have hl := h.len
    rw [Fold.Ok_eq] at h
    refine X0_12 h ?_; clear h; rintro _ _ _ _ _ _ _ h8 _ _ _ h12
    rw [Fold.tree]
    refine .mk (mem ps _ fun p hp => ih p (h12 p hp)) (by rw [← trees_length]; lia) (by rw [trees_map]; exact pw.sublist h8) fun t ht => ?_
    have : t.nm ∈ (Fold.trees ps).map Tree.nm := List.mem_map.mpr (Y1_2 t ht rfl)
    rw [trees_map] at this
    have := h8.subset this
    simp only [List.mem_cons, List.not_mem_nil, or_false] at this
    rcases this with e | e | e <;> rw [e] <;> decide
theorem klt_irr {x : Bs} : ¬ KLt x x := by
  rintro (h | ⟨_, h⟩)
  · exact Nat.lt_irrefl _ h
  · exact List.lt_irrefl _ h
theorem setFirst_map {x : Bs} {f : Tree → Tree} : ∀ {ps : List Tree}, (ps.map Tree.nm).Pairwise KLt → setFirst x f ps = ps.map fun p => if p.nm = x then f p else p
  | [], _ => rfl
  | p :: r, h => by
    rw [List.map_cons, List.pairwise_cons] at h
    unfold setFirst
    rw [List.map_cons]
    by_cases e : p.nm = x
    · rw [if_pos e, if_pos e]
      congr 1
      have : ∀ q ∈ r, q.nm ≠ x := fun q hq e2 => klt_irr (by have := h.1 q.nm (List.mem_map.mpr (Y1_2 q hq rfl)); rw [e, e2] at this; exact this)
      exact (List.map_id r).symm.trans (List.map_congr_left fun q hq => (if_neg (this q hq)).symm)
    · rw [if_neg e, if_neg e, setFirst_map h.2]
theorem forget_forgot : ∀ (ns : List Bs) (t : Tree), t.Good → t.forget ns = t.forgot ns
  | [], t, _ => by unfold Tree.forget Tree.forgot; rfl
  | [x], .mk n c o ps, _ => by unfold Tree.forget Tree.forgot; rfl
  | x :: y :: r, .mk n c o ps, h => by
    cases h with
    | mk h1 h2 h3 h4 =>
    unfold Tree.forget Tree.forgot
    rw [setFirst_map h3]
    congr 1
    exact List.map_congr_left fun p hp => by rw [forget_forgot (y :: r) p (h1 p hp)]
end
section
section
open LCg SeqAt
variable {w : World} {c : Cx w} {n : Led} {l : Fm} {rest : List Stmt} {sc : Scope} {d u : Nat} {b : Bool}
theorem At.cutGr {value : PySem.Expr} {lower upper : Option PySem.Expr} {p pos : Pos} {a : Addr} {vs : List Value} {lo hi : Option Int} {Q : Value → Shared → Prop} (hv : EvP c n l value (.ref a)) (ha : c.g.IsList a vs.toArray) (hl : PE c n l lower lo) (hu : PE c n l upper hi) (hz : vs.length ≤ 100000)
    (kk : ∀ D n', New n n' D (lstN (kms_pick vs lo hi) 0) → Go c n' l Q (.ref D)) : At c n l (eval (.Subscript value (.Slice lower upper none p) pos) c.env) Q := fun h tk H => by
  refine Subscript_ (hv _ (fun h tk H => wpAny_Slice (hl _ (fun vl pl h tk H => hu _ (fun vu pu h tk H => wpAny_pure ?_) h tk H) h tk H)) h tk H)
  obtain ⟨m, hid, hV, F, N, O⟩ := H
  have hls : h.IsList a vs.toArray := by
    refine X1_2 ha ?_; clear ha; rintro o ho r
    exact Y1_2 o (F.keep _ _ ho) r
  refine sliceL F N hls pl pu .none (fun e => nomatch e) (by rw [List.size_toArray, sizeLine_eq]; lia) (fun D h' F' N' lt => ?_) (hs := rfl)
  rw [kms_pick_eq] at N'
  exact kk D _ (New.of fun p hp => lt p (List.mem_append_right _ hp)) h' tk (Hp.new hV O F' N' lt)
theorem Go.srcL {a : Addr} {vs : List Value} {k : Nat} {R : Led → Prop} (ha : (a, lstN vs k) ∈ n) (h0 : R n) (hz : vs.length ≤ 1000) : Go c n l (fun xv s₁ => wpAny (model PR w) c.A (pyIter xv) (SSrc c l vs.length (fun i v => vs[i]? = some v) (fun h => h.IsList a vs.toArray) R) c.E s₁) (.ref a) := fun h tk H => by
  have H' := H
  obtain ⟨m, hid, hV, F, N, O⟩ := H
  have hls := News.isList N (List.mem_append_right _ ha)
  have hlt : @LT.lt Nat _ a h.objs.size := Heap.lt_size (N _ (List.mem_append_right _ ha)).1
  refine wpAny_pyIter_list hls (one_src H' (walk_mono (Walks.list (prog := PR) (w := w) (A := c.A) rfl h.objs.size a (Nat.ne_of_lt hlt) vs.toArray) fun i v e => by simpa using e) h0 (size1000 hz) (fun b hb => ?_) ⟨Y1_3 _ (Heap.get?_push_size _ rfl) rfl rfl, hls.push _⟩ (fun i g st => let ⟨o, ho, _⟩ := st.1; ⟨o, ho⟩) fun i g g' st hk s => ⟨st.1.at hk, s⟩)
  rcases List.mem_cons.mp hb with rfl | hb
  · exact .inl rfl
  · rw [List.mem_singleton.mp hb]; exact .inr hlt
theorem At.compGr {Q : Value → Shared → Prop} {elt value : PySem.Expr} {lower upper : Option PySem.Expr} {x : Str} {px p ipos pos : Pos} {scope : Scope} {a : Addr} {vs ks : List Value} {lo hi : Option Int} (hw : Wk c sc d u true) (hv : EvP c n l value (.ref a)) (ha : c.g.IsList a vs.toArray) (hl : PE c n l lower lo) (hu : PE c n l upper hi) (hz : vs.length ≤ 100000)
    (hks : kms_pick vs lo hi = ks) (hkz : ks.length ≤ 1000) (J : Nat → List Value → Prop) (h0 : J 0 []) (turn : ∀ i v ys k (c2 : Cx w), ks[i]? = some v → J i ys → Wk c2 (relS scope sc) d u false → ∃ P, EvR c2 k ((x, some v) :: rst l (freeOf scope)) elt P ∧ ∀ y, P y → J (i + 1) (ys ++ [y]))
    (kk : ∀ D ys k n', J ks.length ys → (∀ q ∈ n, q ∈ k) → New k n' D (lstN ys ys.length) → Go c n' l Q (.ref D))
    (hs : CsOk scope sc := by (show CsOkB _ _ = true); decide +kernel) (hx : scope.names.lookup x = some .local := by rfl) (hf : ∀ (env : Env) x, foldedSetIterable (.Subscript value (.Slice lower upper none p) ipos) env x = pure x := by intro _ _; rfl) :
    At c n l (eval (.ListComp elt [⟨.Name x px, .Subscript value (.Slice lower upper none p) ipos, [], 0⟩] scope pos) c.env) Q := by
  subst hks
  refine At.comp (cnt := (kms_pick vs lo hi).length) (α := Addr) (val := fun _ i vals => ∃ v, (kms_pick vs lo hi)[i]? = some v ∧ vals = [v]) (Sk := fun z h => h.IsList z (kms_pick vs lo hi).toArray) hw (fun z i ys k => (z, lstN (kms_pick vs lo hi) 0) ∈ k ∧ (∀ q ∈ n, q ∈ k) ∧ J i ys) ?_ ?_ ?_ ?_ hs (hx1 hx) hf
  · refine At.cutGr hv ha hl hu hz fun D k hD h tk H => ?_
    exact wpAny_mono (Go.srcL (R := fun k' => (D, lstN (kms_pick vs lo hi) 0) ∈ k' ∧ (∀ q ∈ n, q ∈ k') ∧ J 0 []) hD.mem (Y0_3 hD.mem hD.sub h0) hkz h tk H) (fun _ _ h => ⟨D, h.map fun _ _ _ _ W => Stp.one W⟩) fun _ _ x => x
  · intro z i ys k m hid h hj F N
    exact News.isList N (List.mem_append_right _ hj.1)
  · rintro z i vals ys k c2 hi zz; refine X1_2 zz ?_; clear zz; rintro v hv rfl; rintro zz; refine X0_3 zz ?_; clear zz; rintro h1 h2 h3; rintro hw2
    refine X1_2 (turn i v ys k c2 hv h3 hw2) fun P e1 e2 => ?_
    exact Y1_3 True .nil (fun _ Q2 kk2 => e1 Q2 fun y hy => kk2 _ _ (Y0_3 h1 h2 (e2 y hy))) (fun h => absurd trivial h)
  · rintro z D ys k n' zz; refine X0_3 zz ?_; clear zz; rintro h1 h2 h3; rintro hN
    exact kk D ys k n' h3 h2 hN
theorem At.tupS {ts : List PySem.Expr} {tp pos : Pos} {j : Nat} {e : PySem.Expr} {Q : Flow → Shared → Prop} (hw : Wk c sc d u b) (k : At c n l (eval e c.env) (Uq c ts j tp rest Q)) (hsw : ∀ env : Env, env.scope = sc → swappedStores [.Tuple ts j tp] e env = pure none := by intro env h; cases env; cases h; rfl)
    (hs : ∀ env, swapsWithSole [.Tuple ts j tp] e pos.line env = pure false := by intro _; rfl) : At c n l (execs (.Assign [.Tuple ts j tp] e pos :: rest) c.env) Q := .tupC k (hsw _ hw.sc) hs
noncomputable def TstF {w : World} (c : Cx w) (n : Led) (l : Fm) (e : PySem.Expr) (R : Led → Prop) : Prop := ∀ Q, (∀ n', R n' → Go c n' l Q false) → At c n l (isTrue e c.env (eval e c.env)) Q
theorem Tst.f {e : PySem.Expr} {p : Prop} (h : Tst c n l e p) (hp : ¬ p) : TstF c n l e fun n' => n' = n := fun Q k => h Q (fun h => absurd h hp) fun _ => k n rfl
theorem TstF.or2 {e1 e2 : PySem.Expr} {pos : Pos} {R R2 : Led → Prop} (h1 : TstF c n l e1 R) (h2 : ∀ n', R n' → TstF c n' l e2 R2) : TstF c n l (.BoolOp .Or [e1, e2] pos) R2 := fun Q k h tk H =>
  isTrue_or (h1 (fun b s' => if b = true then Q true s' else wpAny (model PR w) c.A (isTrue (.BoolOp .Or [e2] pos) c.env _) Q c.E s')
    (fun n1 r1 h tk H => ite_ff (isTrue_or (h2 n1 r1 (fun b s' => if b = true then Q true s' else wpAny (model PR w) c.A (isTrue (.BoolOp .Or [] pos) c.env _) Q c.E s') (fun n2 r2 h tk H => ite_ff (isTrue_or_nil (k n2 r2 h tk H))) h tk H))) h tk H)
theorem TstF.or3 {e1 e2 e3 : PySem.Expr} {pos : Pos} {R R2 R3 : Led → Prop} (h1 : TstF c n l e1 R) (h2 : ∀ n', R n' → TstF c n' l e2 R2) (h3 : ∀ n', R2 n' → TstF c n' l e3 R3) : TstF c n l (.BoolOp .Or [e1, e2, e3] pos) R3 := fun Q k h tk H =>
  isTrue_or (h1 (fun b s' => if b = true then Q true s' else wpAny (model PR w) c.A (isTrue (.BoolOp .Or [e2, e3] pos) c.env (eval (.BoolOp .Or [e2, e3] pos) c.env)) Q c.E s')
    (fun n1 r1 h tk H => ite_ff (TstF.or2 (h2 n1 r1) h3 Q k h tk H)) h tk H)
theorem At.guardF {test : PySem.Expr} {body : List Stmt} {pos : Pos} {R : Led → Prop} {Q : Flow → Shared → Prop} (h : TstF c n l test R) (k : ∀ n', R n' → At c n' l (execs rest c.env) Q) : At c n l (execs (.If test body [] pos :: rest) c.env) Q := .cons fun h' tk H =>
  wpAny_If (h (fun b s₂ => if b = true then wpAny (model PR w) c.A (execs body c.env) (Th c rest Q) c.E s₂ else wpAny (model PR w) c.A (execs [] c.env) (Th c rest Q) c.E s₂) (fun n1 r1 h tk H => of_if_f (wpAny_pure (k n1 r1 h tk H))) h' tk H)
theorem TstF.cmp {e1 e2 : PySem.Expr} {op : CmpOp} {pos : Pos} {R : Led → Prop} (k : ∀ Q, (∀ n', R n' → Go c n' l Q (.bool false)) → At c n l (eval e1 c.env) fun a s' => wpAny (model PR w) c.A (eval e2 c.env) (fun b s'' => wpAny (model PR w) c.A (compareOp op a b) Q c.E s'') c.E s')
    (hm : behindInMarks op e2 = false := by with_unfolding_all rfl) : TstF c n l (.Compare e1 [op] [e2] pos) R := fun Q kk h tk H => by
  refine wpAny_isTrue_Compare1 (k (fun v s' => wpAny (model PR w) c.A (truthy v) Q c.E s') (fun n1 r1 h tk H => ?_) h tk H) hm
  exact wpAny_truthy_bool (kk n1 r1 h tk H)
theorem TstF.not {e : PySem.Expr} {pos : Pos} {R : Led → Prop} (h : ∀ Q, (∀ n', R n' → Go c n' l Q true) → At c n l (isTrue e c.env (eval e c.env)) Q) : TstF c n l (.UnaryOp .Not e pos) R := fun Q k h' tk H => isTrue_not (h (fun b s' => Q (!b) s') (fun n1 r1 => k n1 r1) h' tk H)
theorem At.isT {e : PySem.Expr} {R : Led → Prop} {Q : Bool → Shared → Prop} (h : EvG c n l e fun v n' => v = .bool true ∧ R n') (k : ∀ n', R n' → Go c n' l Q true) (he : ∀ env whole, isTrue e env whole = (do let v ← whole; standAt e.pos; holding [v] (truthy v)) := by intro _ _; rfl) : At c n l (isTrue e c.env (eval e c.env)) Q := fun h' tk H => by
  refine isTrue_plain (h _ (fun v n' hv h tk H => ?_) h' tk H) (he _ _)
  obtain ⟨rfl, r⟩ := hv
  exact wpAny_truthy_bool (k n' r h tk H)
open Classical in
theorem Go.toldNe {l1 l2 : Led} {v1 v2 : Value} {t : Tree} {Q : Value → Shared → Prop} (s1 : ∀ q ∈ l1, q ∈ n) (s2 : ∀ q ∈ l2, q ∈ n) (ap : Apart l1 l2) (h1 : ToldIn l1 v1 t) (h2 : ToldIn l2 v2 t) (hu : c.un + 2 * t.ht < cLine) (k : Go c n l Q (.bool false)) : At c n l (compareOp .NotEq v1 v2) Q := fun h tk H => by
  have H' := H
  obtain ⟨m, hid, hV, F, N, O⟩ := H
  have := (told_eq (s := { c.s with heap := h, toks := tk }) (News.sub N fun q hq => List.mem_append_right _ (s1 q hq)) (News.sub N fun q hq => List.mem_append_right _ (s2 q hq)) ap t t c.A v1 v2 h1 h2 hu).2.2
  refine this PR w _ _ ?_
  rw [show decide (t = t) = true from decide_eq_true rfl]
  exact k h tk H'
open Classical in
theorem Go.toldEq {l1 l2 : Led} {v1 v2 : Value} {t : Tree} {Q : Value → Shared → Prop} (s1 : ∀ q ∈ l1, q ∈ n) (s2 : ∀ q ∈ l2, q ∈ n) (ap : Apart l1 l2) (h1 : ToldIn l1 v1 t) (h2 : ToldIn l2 v2 t) (hu : c.un + 2 * t.ht < cLine) (k : Go c n l Q (.bool true)) : At c n l (compareOp .Eq v1 v2) Q := fun h tk H => by
  have H' := H
  obtain ⟨m, hid, hV, F, N, O⟩ := H
  have := (told_eq (s := { c.s with heap := h, toks := tk }) (News.sub N fun q hq => List.mem_append_right _ (s1 q hq)) (News.sub N fun q hq => List.mem_append_right _ (s2 q hq)) ap t t c.A v1 v2 h1 h2 hu).2.1
  refine this PR w _ _ ?_
  rw [show decide (t = t) = true from decide_eq_true rfl]
  exact k h tk H'
theorem Go.noneNe {Q : Value → Shared → Prop} (k : Go c n l Q (.bool false)) : At c n l (compareOp .NotEq .none .none) Q := fun h tk H => RcNeAt.none_none PR w _ _ (k h tk H)
theorem Go.truesNe {a1 a2 : Addr} {k1 k2 m : Nat} {Q : Value → Shared → Prop} (h1 : (a1, lstN (List.replicate m (.bool true)) k1) ∈ n) (h2 : (a2, lstN (List.replicate m (.bool true)) k2) ∈ n) (hu : c.un + 2 < cLine) (k : Go c n l Q (.bool false)) : At c n l (compareOp .NotEq (.ref a1) (.ref a2)) Q := fun h tk H => by
  have H' := H
  obtain ⟨ms, hid, hV, F, N, O⟩ := H
  have := RcNeAt.lists (A := c.A) (s := { c.s with heap := h, toks := tk }) (e := fun _ => true) (News.isList N (List.mem_append_right _ h1)) (News.isList N (List.mem_append_right _ h2)) rfl (by show c.un < cLine; lia) fun j j1 j2 => by
    have e : (List.replicate m (Value.bool true)).toArray[j] = .bool true := by simp
    rw [e]
    exact EqAt.bool_bool true true
  refine this PR w _ _ ?_
  rw [show (List.range (List.replicate m (Value.bool true)).toArray.size).all (fun _ => true) = true by simp]
  exact k h tk H'
theorem Go.isSelf {a : Addr} {Q : Value → Shared → Prop} (k : Go c n l Q (.bool true)) : At c n l (compareOp .Is (.ref a) (.ref a)) Q := fun h tk H => wpAny_is_ref_self (k h tk H)
theorem At.subQ {value slice : PySem.Expr} {pos : Pos} {Q : Value → Shared → Prop} (k : At c n l (eval value c.env) fun o s' => wpAny (model PR w) c.A (eval slice c.env) (fun i s'' => wpAny (model PR w) c.A (subscriptTail value slice o i) Q c.E s'') c.E s') : At c n l (eval (.Subscript value slice pos) c.env) Q := fun h tk H => Subscript_ (k h tk H)
theorem Go.itemT {value slice : PySem.Expr} {a : Addr} {vs : List Value} {j : Int} {i v : Value} {Q : Value → Shared → Prop} (ha : (a, tup vs) ∈ n) (hi : IV j i) (h0 : 0 ≤ j) (hj : j < 100) (hx : vs[j.toNat]? = some v) (k : Go c n l Q v) (hs : ∀ o i, subscripted slice false o i = operate [o, i] (getItem o i) := by intro _ _; rfl) : At c n l (subscriptTail value slice (.ref a) i) Q := fun h tk H => by
  obtain ⟨t, rfl⟩ := hi
  have H' := H
  obtain ⟨m, hid, hV, F, N, O⟩ := H
  have hl : IsTup h a vs.toArray := Y1_3 _ ((N _ (List.mem_append_right _ ha)).1) rfl ⟨_, rfl⟩
  have hlt := (List.getElem?_eq_some_iff.mp hx).1
  have hj2 : seqIndex? j vs.toArray.size = some j.toNat := by
    unfold seqIndex?
    have h0' : ¬ j < 0 := by lia
    simp only [h0', if_false, List.size_toArray]
    rw [if_pos (by rw [Bool.and_eq_true, decide_eq_true_eq, decide_eq_true_eq]; lia)]
  exact tail_any hl.typeIs slot_tuple_getitem.lookup (getItem_tuple hl (by lia) (by lia) hj2 (by simpa using hx) (k h tk H')) (hs _ _)
end
noncomputable def bodyOf (K : Frag) (f : Addr) : List Stmt := match K.lookup f with
  | some ⟨_, _, .func fd, _⟩ => (match fd.body with | .stmts b => b | _ => [])
  | _ => []
noncomputable def scopeOf (K : Frag) (f : Addr) : Scope := match K.lookup f with
  | some ⟨_, _, .func fd, _⟩ => fd.scope
  | _ => default
theorem body_is {w : World} {c : Cx w} {n : Led} {l : Fm} {f : Addr} {d u : Nat} {name qual : Str} {params : Arguments} {body : List Stmt} {scope : Scope} {dV kV doc pm cdv ct oc : Value} {an od : Option Addr} {osl : Array (Option Value)} {Q : Flow → Shared → Prop}
    (ho : (KK w).lookup f = some ⟨oc, od, .func (fnOf name qual params body scope dV kV doc pm an cdv ct), osl⟩) (hw : Wk c (scopeOf (KK w) f) d u true) (k : Wk c scope d u true → At c n l (execs body c.env) Q) : At c n l (execs (bodyOf (KK w) f) c.env) Q := by
  unfold scopeOf at hw
  unfold bodyOf
  rw [ho] at hw ⊢
  exact k hw
end
section
theorem head_text {c k : Int} (hc : -1 ≤ c) (hc2 : c ≤ 99) (hk : -1 ≤ k) (hk2 : k ≤ 99) :
    (Str.empty ++ Str.ofString (toString c) ++ Str.ofString " " ++ Str.ofString (toString k) ++ Str.ofString "\n").cps.toList = figsL c ++ [32] ++ figsL k ++ [10] := by
  have app : ∀ x y : Str, (x ++ y).cps.toList = x.cps.toList ++ y.cps.toList := fun x y => Array.toList_append
  rw [app, app, app, app, figs_of hc hc2, figs_of hk hk2]
  rfl
theorem glue_len : ∀ {bs : List Bs}, (∀ b ∈ bs, b.length ≤ 20) → (glue bs).length ≤ 20 * bs.length
  | [], _ => by simp [glue]
  | b :: r, h => by
    have h1 := h b (.head _)
    have h2 := glue_len (bs := r) fun c hc => h c (.tail _ hc)
    unfold glue at *
    rw [List.flatten_cons, List.length_append, List.length_cons]
    lia
theorem text_len {k : Int} (hk : -1 ≤ k) (hk2 : k ≤ 99) : (Str.ofString (toString k)).length ≤ 2 := by
  show (Str.ofString (toString k)).cps.size ≤ 2
  rw [← Array.length_toList, figs_of hk hk2]
  exact figsL_len k
noncomputable abbrev frQ (rt rw_ wt on : Option Value) : Fm := [(Str.ofString "root", rt), (Str.ofString "rows", rw_), (Str.ofString "waiting", wt), (Str.ofString "one", on)]
inductive WrJ (w : World) (n k : Led) (row : Bs) (rl wl : Addr) (m : Nat) : Prop
  | mk (ts : List Tree) (vs ys : List Value) (bs : List Bs) (j1 j2 : Nat) (s : ∀ q ∈ n, q ∈ k) (m1 : (rl, lstN ys j1) ∈ k) (m2 : (wl, lstN vs j2) ∈ k) (nr : ∀ q ∈ n, @Ne Nat q.1 rl) (nw : ∀ q ∈ n, @Ne Nat q.1 wl) (hn : @Ne Nat rl wl) (fi : ∀ q ∈ ts, q.Fine) (tr : TreesIn w n vs ts) (b : BVs ys bs) (l1 : bs.length + 2 * m ≤ 26) (l2 : ∀ b ∈ bs, b.length ≤ 20)
    (g : glue bs ++ Tree.rows ts.reverse = row) (z : m = Tree.szs ts) : WrJ w n k row rl wl m
theorem rows_last {bs : List Bs} {qs : List Tree} {q : Tree} {row : Bs} (h : glue bs ++ Tree.rows (qs ++ [q]).reverse = row) : glue bs ++ (q.row ++ Tree.rows qs.reverse) = row := by
  rw [List.reverse_append, List.reverse_singleton, List.singleton_append, Tree.rows] at h
  exact h
theorem cache_octets_L {w : World} {c : Cx w} {n : Led} {l : Fm} {v : Value} {t : Tree} (hf : t.Fine) (hsz : t.sz ≤ 13) (hu : c.un + 20 < cLine) (hroom : c.dp + 5 < recursionLimit) (ht : TreeIn w n v t) : CaG c n l (.ref 282) [v] fun r n' => BW t.row r ∧ n' = n := fun Q kk => by
  refine At.enter (by exact rfl) (by lia) [Str.ofString "root"] [Str.ofString "rows", Str.ofString "waiting", Str.ofString "one"] (frQ (some v) none none none) fun c' RQ hI => ?_
  have hw := hI.wk
  refine At.swapQ (xs := [Str.ofString "rows", Str.ofString "waiting"]) hw <| .eTup <| .argQ <| .eList <| .arg0 <| At.newLst fun rl k1 hR => At.argQ <| At.eList <| At.argP (.name rfl) <| At.arg0 <| At.newLst fun wl k2 hW => At.arg0 <| At.newTup fun T k3 hT => Go.swp2 hw hT.mem ?_
  refine .while_ hw (fun m k l' => (∃ o, l' = frQ (some v) (some (.ref rl)) (some (.ref wl)) o) ∧ WrJ w n k t.row rl wl m) (k₀ := t.sz) ⟨⟨none, rfl⟩, [t], [v], [], [], _, _, fun q hq => hT.sub q (hW.sub q (hR.sub q hq)), hT.sub _ (hW.sub _ hR.mem), hT.sub _ hW.mem, hR.ne, fun q hq => hW.ne q (hR.sub q hq), hW.ne _ hR.mem, by simpa using hf, by show _ ∧ _; exact ⟨ht, trivial⟩, trivial, by simp; lia, by simp, by simp [glue, Tree.rows], by simp [Tree.szs]⟩ ?_
  rintro m k _ TQ ⟨⟨o, rfl⟩, J⟩ next _
  obtain ⟨ts, vs, ys, bs, j1, j2, s, m1, m2, nr, nw, hn, fi, tr, b, l1, l2, g, rfl⟩ := J
  have hvl := trees_len tr
  have htl := szs_len ts
  have hyl := bvs_len b
  refine Y1_3 _ (.neNil (.name rfl) m2 (by rw [hw.un]; lia)) (fun hP => ?_) (fun hP => ?_)
  · refine X4_4 (trees_last tr hP) ?_; rintro us u qs q rfl rfl hqs hq
    rw [List.length_append] at hvl
    have hone : [u].length = 1 := rfl
    refine .assignQ <| .eMeth0 (.name rfl) (.list m2 PySem.F.slot_list_pop PySem.F.type_list_pop) .blt <| Hp.pop (v := u) m2 (by lia) _ fun r k1 hr => ?_
    refine X0_2 hr ?_; clear hr; rintro rfl ⟨j3, M1⟩
    obtain ⟨nm, cn, od, ps⟩ := q
    have hfq := fi _ (List.mem_append_right _ (.head _))
    cases hfq with
    | mk f1 f2 f3 f4 f5 f6 f7 =>
    refine hq.open ?_
    intro a d tn vo pl t1 t2 t3 t4 t5 ws i e g1 g2 g4 g5 g6 g7
    subst e
    have hwl := trees_len g6
    have hzz : Tree.szs (qs ++ [.mk nm cn od ps]) = Tree.szs qs + (Tree.szs ps + 1) := by rw [szs_app, Tree.szs, Tree.szs, Tree.sz]
    have mr := M1.sub _ m1 hn
    have s1 : ∀ q ∈ n, q ∈ k1 := fun q hq => M1.sub q (s q hq) (nw q hq)
    have hdr : (nm ++ [0] ++ (figs cn ++ [32] ++ figs ps.length ++ [10]) : Bs) = nm ++ [0] ++ ((figsL cn ++ [32] ++ figsL (ps.length : Int) ++ [10]).map Nat.toUInt8) := by
      unfold figs
      rw [List.map_append, List.map_append, List.map_append]
      rfl
    have hfl1 := figs_len cn
    have hfl2 := figs_len (ps.length : Int)
    have h3 : ((ps.length : Nat) : Int) ≤ 99 := by lia
    have hhl : (nm ++ [0] ++ (figs cn ++ [32] ++ figs ps.length ++ [10]) : Bs).length ≤ 20 := by
      simp only [List.length_append, List.length_cons, List.length_nil]
      lia
    refine Go.aq hw <| .exprQ <| .eMeth (.name rfl) (.list mr PySem.F.slot_list_append PySem.F.type_list_append) .blt <| .argR (P := BW (nm ++ [0] ++ (figs cn ++ [32] ++ figs ps.length ++ [10]))) ?_ fun hv hh => .arg0 <| .cq <| Hp.app mr (by lia) _ fun r k2 hr => ?_
    · have e0 : Str.empty.length = 0 := rfl
      have e1 : (Str.ofString " ").length = 1 := rfl
      have e2 : (Str.ofString "\n").length = 1 := rfl
      have e3 := text_len (k := cn) f2 (by lia)
      have e4 := text_len (k := (ps.length : Int)) (by lia) h3
      rw [hdr] at hhl ⊢
      refine .addB (.addB (EvP.r (P := BW nm) (.nm (.name rfl) (s1 _ g1) (s1 _ g2) rfl) ⟨_, rfl⟩) .bytes (by simp; lia)) (.call1 (P := fun v => ∃ t, v = .str (Str.empty ++ Str.ofString (toString cn) ++ Str.ofString " " ++ Str.ofString (toString (ps.length : Int)) ++ Str.ofString "\n") t) (.glob hw rfl) (.ref rfl) (.fstr <| .int (EvP.r (.cn (.name rfl) (s1 _ g1) (s1 _ g2)) ⟨_, rfl⟩) f2 (by omega) (by decide) <| .str ?_ <| .int (by rw [← hwl]; exact .lenL hw (.pt (.name rfl) (s1 _ g1) (s1 _ g2)) (s1 _ g5) (by lia)) (by omega) h3 ?_ <| .str ?_ <| .nil ?_) fun v hv => ?_) (by rw [← List.length_append]; lia)
      · simp only [strLen_append]; lia
      · simp only [strLen_append]; lia
      · simp only [strLen_append]; lia
      · simp only [strLen_append]; omega
      · obtain ⟨t, rfl⟩ := hv
        refine octets_of_L (head_text f2 (by omega) (by omega) h3) (fun x hx => ?_) ?_ (by rw [hw.dp]; lia)
        · simp only [List.mem_append, List.mem_singleton] at hx
          rcases hx with ((hx | rfl) | hx) | rfl
          · have := figsL_lt f2 (by omega) x hx; lia
          · lia
          · have := figsL_lt (k := (ps.length : Int)) (by omega) h3 x hx; omega
          · lia
        · have := figsL_len cn
          have := figsL_len (ps.length : Int)
          simp only [List.length_append, List.length_cons, List.length_nil]
          lia
    refine X0_2 hr ?_; clear hr; rintro rfl ⟨j4, M2⟩
    generalize hH : (nm ++ [0] ++ (figs cn ++ [32] ++ figs ps.length ++ [10]) : Bs) = H at hh hhl
    have mw := M2.sub _ M1.mem (Ne.symm hn)
    have s2 : ∀ q ∈ n, q ∈ k2 := fun q hq => M2.sub q (s1 q hq) (nr q hq)
    refine Go.xq <| .ifJ (R := fun k3 => ∃ ys' j, BVs ys' (bs ++ [H] ++ od.toList) ∧ (rl, lstN ys' j) ∈ k3 ∧ ∀ q ∈ k2, @Ne Nat q.1 rl → q ∈ k3) (.cmp (EvP.r (P := IV cn) (.cn (.name rfl) (s2 _ g1) (s2 _ g2)) ⟨_, rfl⟩) .int fun a b ha hb => .iGe ha hb) (fun hp => ?_) (fun hp => .nil <| Go.nx ?_) fun k3 hk3 => ?_
    · refine X1_2 (f6 hp) ?_; rintro x rfl hx
      refine .exprQ <| .eMeth (.name rfl) (.list M2.mem PySem.F.slot_list_append PySem.F.type_list_append) .blt <| .argP (.od (.name rfl) (s2 _ g1) (s2 _ g2) g4.handed) <| .arg0 <| .cq <| Hp.app M2.mem (by rw [List.length_append, show [hv].length = 1 from rfl]; lia) _ fun r k3 hr => ?_
      refine X0_2 hr ?_; clear hr; rintro rfl ⟨j5, M3⟩
      exact Go.xq <| .nil <| Go.nx (Y2_3 _ _ (bvs_add g4 (bvs_add hh b)) M3.mem M3.sub)
    · rw [f5 (by lia)]
      exact Y2_3 _ _ (by simpa using bvs_add hh b) M2.mem (fun _ h _ => h)
    · refine X2_3 hk3 ?_; clear hk3; rintro ys' j5 hb' mr3 s3
      have s3' : ∀ q ∈ n, q ∈ k3 := fun q hq => s3 q (s2 q hq) (nr q hq)
      have mw3 := s3 _ mw (Ne.symm hn)
      refine .exprQ <| .eMeth (.name rfl) (.list mw3 PySem.F.slot_list_extend PySem.F.type_list_extend) .blt <| .argQ <| .rev (.pt (.name rfl) (s3' _ g1) (s3' _ g2)) (s3' _ g5) (.neg .int) (by lia) fun D k4 hD => At.arg0 <| Go.cq <| Hp.ext (hD.sub _ mw3) hD.mem (Ne.symm (hD.ne _ mw3)) (by lia) (by rw [List.length_reverse]; omega) _ fun r k5 hr => ?_
      refine X0_2 hr ?_; clear hr; rintro rfl ⟨j6, M4⟩
      have hol : od.toList.length ≤ 1 ∧ ∀ b ∈ od.toList, b.length ≤ 20 := by
        cases od with
        | none => simp
        | some x =>
          refine X1_2 (f6 (Classical.byContradiction fun h => nomatch f5 (by lia))) fun y e hy => ?_
          cases e
          simp
          lia
      refine Go.xq <| .nil <| next _ _ _ ?_ ⟨⟨_, rfl⟩, qs ++ ps.reverse, us ++ ws.reverse, ys', _, j5, j6, fun q hq => M4.sub q (hD.sub q (s3' q hq)) (nw q hq), M4.sub _ (hD.sub _ mr3) hn, M4.mem, nr, nw, hn, fun q hq => ?_, trees_join hqs (trees_rev g6), hb', ?_, fun x hx => ?_, ?_, rfl⟩
      · rw [szs_app, szs_rev]; lia
      · rcases List.mem_append.mp hq with hq | hq
        · exact fi q (List.mem_append_left _ hq)
        · exact f7 q (List.mem_reverse.mp hq)
      · rw [szs_app, szs_rev]
        simp only [List.length_append, List.length_cons, List.length_nil]
        lia
      · simp only [List.mem_append, List.mem_singleton] at hx
        rcases hx with (hx | rfl) | hx
        · exact l2 x hx
        · exact hhl
        · exact hol.2 x hx
      · rw [← rows_last g, List.reverse_append, List.reverse_reverse, rows_app, Tree.row, hH]
        unfold glue
        cases od <;> simp [List.append_assoc]
  · have hv0 : vs = [] := Classical.not_not.mp hP
    subst hv0
    have ht0 : ts = [] := List.eq_nil_of_length_eq_zero (by rw [← hvl]; rfl)
    subst ht0
    refine .retQ <| .eMethR (f := .builtin "bytes.join") (P := BW []) .bytes (fun ov h => by obtain ⟨t, rfl⟩ := h; exact Mt.join) .blt fun ov hov2 => .argP (.name rfl) <| .arg0 <| .cq ?_
    obtain ⟨t2, rfl⟩ := hov2
    refine CaG.join m1 b (by have := glue_len l2; lia) _ fun r k' hr => ?_
    obtain ⟨hr, rfl⟩ := hr
    refine Go.sub (hI.ret _ _ _ (kk _ _ ⟨?_, rfl⟩)) s
    have e : glue bs = t.row := by simpa [Tree.rows] using g
    rw [← e]
    exact hr
end
section
theorem tree_parts {d : Nat} : ∀ {t : Fold}, Fold.Ok d t → ∃ nm cn o ps, t.tree = .mk nm cn o ps ∧ (ps.map Tree.nm).Sublist [[97], [99], [97, 98]]
  | .mk n c o ps fs m, h => by
    rw [Fold.Ok_eq] at h
    exact Y4_2 n c o (Fold.trees ps) (by rw [Fold.tree]) (by rw [trees_map]; exact h.2.2.2.2.2.2.2.1)
theorem pick_nd : ∀ {vs : List Value} {ns : List Bs} {i : Nat} {v : Value} {x : Bs}, ns.Nodup → vs[i]? = some v → ns[i]? = some x → pick vs ns x = v
  | [], _, i, _, _, _, h, _ => by simp at h
  | _ :: _, [], i, _, _, _, _, h => by simp at h
  | v :: vs, n :: ns, 0, u, x, _, h1, h2 => by
    simp at h1 h2
    subst h1 h2
    exact if_pos rfl
  | v :: vs, n :: ns, i + 1, u, x, hn, h1, h2 => by
    rw [List.nodup_cons] at hn
    have hx : x ∈ ns := List.mem_of_getElem? (by simpa using h2)
    have e : pick (v :: vs) (n :: ns) x = pick vs ns x := if_neg fun e => hn.1 (by rw [e]; exact hx)
    rw [e]
    exact pick_nd hn.2 (by simpa using h1) (by simpa using h2)
theorem pick_not : ∀ {vs : List Value} {ns : List Bs} {x : Bs}, x ∉ ns → pick vs ns x = .none
  | [], [], x, _ => rfl
  | [], _ :: _, x, _ => rfl
  | _ :: _, [], x, _ => rfl
  | v :: vs, n :: ns, x, h => by
    have e : pick (v :: vs) (n :: ns) x = pick vs ns x := if_neg fun e => h (by rw [← e]; exact .head _)
    rw [e]
    exact pick_not fun hx => h (.tail _ hx)
noncomputable abbrev lawPaths : List Bs := [[97, 47, 102], [102], [97, 98, 47, 99, 47, 120], [99], [97, 47, 97, 98], [99, 47, 97, 47, 113], [122, 122, 47, 102]]
theorem paths_ok : ∀ p ∈ lawPaths, pieces p [47] ≠ [] ∧ (pieces p [47]).length ≤ 3 ∧ ∀ x ∈ pieces p [47], x.length ≤ 1000 := by decide +kernel
theorem ints_mem {vs : List Value} {ns : List Int} (h : IntsAre vs ns) : ∀ v ∈ vs, ∃ x, IV x v := by
  induction h with
  | nil => intro v hv; cases hv
  | cons k t _ ih =>
    intro v hv
    rcases List.mem_cons.mp hv with rfl | hv
    · exact Y2_1 _ _ rfl
    · exact ih v hv
theorem pick48 {vs : List Value} {ns : List Int} (h : IntsAre vs ns) : (kms_pick vs none (some 48)).length ≤ 48 ∧ ∀ v ∈ kms_pick vs none (some 48), ∃ x, IV x v := by
  constructor
  · unfold kms_pick
    rw [List.length_take]
    exact Nat.le_trans (Nat.min_le_left _ _) (Nat.le_trans (Nat.sub_le _ _) (Nat.min_le_left _ _))
  · intro v hv
    exact ints_mem h v (List.mem_of_mem_drop (List.mem_of_mem_take hv))
theorem hts_filter {f : Tree → Bool} : ∀ {ps : List Tree}, Tree.hts (ps.filter f) ≤ Tree.hts ps
  | [] => Nat.le_refl _
  | p :: r => by
    rw [List.filter_cons]
    split
    · rw [Tree.hts, Tree.hts]
      exact Nat.max_le.mpr ⟨Nat.le_max_left _ _, Nat.le_trans hts_filter (Nat.le_max_right _ _)⟩
    · rw [Tree.hts]
      exact Nat.le_trans hts_filter (Nat.le_max_right _ _)
theorem hts_map {f : Tree → Tree} : ∀ {ps : List Tree}, (∀ p ∈ ps, (f p).ht ≤ p.ht) → Tree.hts (ps.map f) ≤ Tree.hts ps
  | [], _ => Nat.le_refl _
  | p :: r, h => by
    rw [List.map_cons, Tree.hts, Tree.hts]
    exact Nat.max_le.mpr ⟨Nat.le_trans (h p (.head _)) (Nat.le_max_left _ _), Nat.le_trans (hts_map fun q hq => h q (.tail _ hq)) (Nat.le_max_right _ _)⟩
theorem forgot_ht : ∀ (ns : List Bs) (t : Tree), (t.forgot ns).ht ≤ t.ht
  | [], t => by unfold Tree.forgot; exact Nat.le_refl _
  | [x], .mk n c o ps => by
    unfold Tree.forgot
    rw [Tree.ht, Tree.ht]
    exact Nat.succ_le_succ hts_filter
  | x :: y :: r, .mk n c o ps => by
    unfold Tree.forgot
    rw [Tree.ht, Tree.ht]
    refine Nat.succ_le_succ (hts_map fun p _ => ?_)
    split
    · exact forgot_ht (y :: r) p
    · exact Nat.le_refl _
noncomputable abbrev frLw (sa : Addr) (dk fo tr pl oc bt du tw pa nm : Option Value) : Fm := [(Str.ofString "script", some (.ref sa)), (Str.ofString "deck", dk), (Str.ofString "folder", fo), (Str.ofString "tree", tr), (Str.ofString "plain", pl), (Str.ofString "octets", oc), (Str.ofString "bent", bt), (Str.ofString "due", du), (Str.ofString "twin", tw), (Str.ofString "path", pa), (Str.ofString "names", nm)]
theorem law_walk {w : World} {c : Cx w} {n : Led} {sa : Addr} {vs : List Value} {ns : List Int} {d u : Nat} {Q : Flow → Shared → Prop} (hout : c.outer = []) (XB : (KK w).In c.base) (TB : Top c.p c.loose c.mean c.mg c.mb c.base) (hw : Wk c (scopeOf (KK w) 382) d u true) (hu : u ≤ 1000) (hroom : d + 400 < recursionLimit)
    (h189 : (189, tabObj #[]) ∈ n) (hsa : c.g.IsList sa vs.toArray) (hI : IntsAre vs ns) (hlen : ns.length ≤ 63) (kk : ∀ n' l' ps, (189, tabObj ps) ∈ n' → Go c n' l' Q (.ret (.bool true))) : At c n (frLw sa none none none none none none none none none none) (execs (bodyOf (KK w) 382) c.env) Q := by
  refine body_is (by exact rfl) hw fun hw => ?_
  have hd : c.dp + 400 < recursionLimit := by rw [hw.dp]; exact hroom
  have hu9 : c.un + 1000 ≤ cLine - 5000 := by rw [hw.un]; have : cLine = 9900 := rfl; lia
  have hc9 : cLine = 9900 := rfl
  have hvl : vs.length ≤ 63 := by rw [hI.length]; exact hlen
  refine .assignQ <| .eDict fun da ob k1 hN1 hsm hob => .pairQ fun t1 => ?_
  obtain ⟨hk1, hk2⟩ := pick48 hI
  refine At.compGr hw (.name rfl) hsa .none (.some .int) (by lia) rfl (by lia) (fun i ys => ∃ ms, IntsAre ys ms ∧ ms.length = i ∧ ∀ x ∈ ms, 0 ≤ x ∧ x < 1000003) (Y1_3 [] .nil rfl (fun _ h => nomatch h)) (fun i v ys k c2 hv hj hw2 => ?_) fun ca cs k2 k3 hj hs2 hN3 => ?_
  · refine X1_3 hj ?_; clear hj; rintro ms hi1 hi2 hi3
    obtain ⟨x, hx⟩ := hk2 v (List.mem_of_getElem? hv)
    refine Y1_2 _ (.ifmod (EvP.r (P := IV x) (.name rfl) hx) .int (by decide)) (fun r hr => (Y1_3 (ms ++ [x.fmod 1000003]) ?_ (by rw [List.length_append, hi2]; rfl) (fun y hy => ?_)))
    · obtain ⟨t, rfl⟩ := hr
      exact ints_snoc hi1
    · rcases List.mem_append.mp hy with hy | hy
      · exact hi3 y hy
      · rw [List.mem_singleton.mp hy]
        exact ⟨Int.fmod_nonneg_of_pos _ (by decide), Int.fmod_lt_of_pos _ (by decide)⟩
  refine X1_3 hj ?_; clear hj; rintro ms hi1 hi2 hi3
  refine At.pairQ fun t2 => EvR.int _ fun v2 hv2 => At.pairQ fun t3 => EvR.int _ fun v3 hv3 => At.pair0 ?_
  obtain ⟨u2, rfl⟩ := hv2
  obtain ⟨u3, rfl⟩ := hv3
  refine Go.dct (hN3.sub _ (hs2 _ hN1.mem)) hob rfl (show [Str.ofString "cells", Str.ofString "at", Str.ofString "stir"].Nodup by decide +kernel) fun k4 ob' M hob' => Go.aq hw ?_
  have g1 : ∀ q ∈ n, q ∈ k4 := fun q hq => M.sub q (hN3.sub q (hs2 q (hN1.sub q hq))) (hN1.ne q hq)
  have hD : DkAt w k4 da ca cs := ⟨Y1_2 ob' M.mem (Y4_4 0 195 _ _ (by decide) (by decide) (by decide) hob'), M.sub _ hN3.mem (Ne.symm (hN3.ne _ (hs2 _ hN1.mem))), Y1_3 ms hi1 hi3 (by lia), hsm, hN3.ne _ (hs2 _ hN1.mem)⟩
  have h1 := g1 _ h189
  have h9d : @Ne Nat 189 da := hN1.ne _ h189
  clear M hN3 hs2 hN1 hob hob' hI hsa hi1 hi3
  refine .assignQ <| .eCall (.glob hw rfl) (.ref rfl) <| .argP (.name rfl) <| .argR .bytes fun v hv => .argR .int fun v2 hv2 => .arg0 <| .cq ?_
  obtain ⟨u4, rfl⟩ := hv
  obtain ⟨u5, rfl⟩ := hv2
  refine folder_L 2 (by decide) (by lia) hD (by decide) (by decide) (by decide) _ fun vf k5 hr => Go.aq hw ?_
  refine X2_4 hr ?_; clear hr; rintro t tl1 hok hnm hG hF
  have hht := Fold.ht_le 2 t hok
  refine At.tupS hw <| .eTup <| .argQ <| .eCall (.glob hw rfl) (.ref rfl) <| .argP (.name rfl) <| .arg0 <| .cq <| tree_L t (by lia) (hF.mono hG.new) _ fun vt k6 hr => ?_
  refine X1_2 hr ?_; clear hr; rintro tl2 hE2 hT
  refine At.argQ <| At.eCall (.glob hw rfl) (.ref rfl) <| At.argP (.name rfl) <| At.arg0 <| Go.cq <| plain_L t (by lia) (hF.mono fun q hq => hE2.sub q (hG.new q hq)) _ fun vp k7 hr => ?_
  refine X1_2 hr ?_; clear hr; rintro tl3 hE3 hP
  refine At.argQ <| At.eCall (.glob hw rfl) (.ref rfl) <| At.argP (.name rfl) <| At.arg0 <| Go.cq <| row_L t hok (by omega) (by decide) (hF.mono fun q hq => hE3.sub q (hE2.sub q (hG.new q hq))) _ fun vr k8 hr => ?_
  obtain ⟨hR, rfl⟩ := hr
  refine At.arg0 <| At.newTup fun T k9 hTu => Go.tup3 hw hTu.mem ?_
  refine X1_2 hG.at_.dk fun od hod hdk => ?_
  have n0 : ∃ N : Led, (∀ q ∈ N, q ∈ k9) ∧ (∀ q ∈ N, @Ne Nat q.1 da) ∧ (∀ q ∈ N, @Ne Nat q.1 189) ∧ FoldIn w N vf t ∧ TreeIn w N vt t.tree ∧ ToldIn N vp t.tree := by
    refine Y1_6 (tl1 ++ (tl2 ++ tl3)) (fun q hq => ?_) (fun q hq => ?_) (fun q hq => ?_) (hF.mono in_l) (hT.mono fun q hq => in_r _ (in_l _ hq)) (hP.mono fun q hq => in_r _ (in_r _ hq))
    · rcases List.mem_append.mp hq with hq | hq
      · exact hTu.sub q (hE3.sub q (hE2.sub q (hG.new q hq)))
      rcases List.mem_append.mp hq with hq | hq
      · exact hTu.sub q (hE3.sub q (hE2.new q hq))
      · exact hTu.sub q (hE3.new q hq)
    · rcases List.mem_append.mp hq with hq | hq
      · exact hG.ne q hq
      rcases List.mem_append.mp hq with hq | hq
      · exact Ne.symm (hE2.apart _ hod q hq)
      · exact Ne.symm (hE3.apart _ (hE2.sub _ hod) q hq)
    · rcases List.mem_append.mp hq with hq | hq
      · exact Ne.symm (hG.ap _ h1 q hq)
      rcases List.mem_append.mp hq with hq | hq
      · exact Ne.symm (hE2.apart _ (hG.sub _ h1 h9d) q hq)
      · exact Ne.symm (hE3.apart _ (hE2.sub _ (hG.sub _ h1 h9d)) q hq)
  refine X1_6 n0 ?_; clear n0; rintro N sN hNd hN9 hF hT hP
  have hD9 : DkAt w k9 da ca cs := ((hG.at_.sub hE2.sub).sub hE3.sub).sub hTu.sub
  have h9 : (189, tabObj #[]) ∈ k9 := hTu.sub _ (hE3.sub _ (hE2.sub _ (hG.sub _ h1 h9d)))
  clear hG hE2 hE3 hTu hdk hod od h1 g1 hD
  have hrow := row_len 2 t hok
  have hnn : nodes 2 = 13 := rfl
  rw [hnn] at hrow
  obtain ⟨hfine, hsz⟩ := fine_of 2 t hok (by decide)
  rw [hnn] at hsz
  have hgood := good_of 2 t hok
  obtain ⟨tr, rfl⟩ := hR
  have hth : c.un + 2 * t.tree.ht < cLine := by lia
  refine .guardF (R := fun k => DkT w k9 k da ca cs) (.or3 (Tst.f (p := t.tree.row ≠ t.row) (.cmp (P1 := BW t.tree.row) (fun Q2 kk2 => .eCall (.glob hw rfl) (.ref rfl) <| .argP (.name rfl) <| .arg0 <| .cq <| cache_octets_L hfine hsz (by lia) (by lia) (hT.mono sN) _ fun r k hr => ?_) (EvP.r (P := BW t.row) (.name rfl) ⟨_, rfl⟩) fun a b ha hb => .bNe ha hb) (fun h => h (row_tree t)))
    (fun k e => TstF.cmp (R := fun k' => ∀ q ∈ k9, q ∈ k') fun Q2 kk2 => ?_) fun k hk => TstF.not fun Q2 kk2 => .isT (R := fun k' => DkT w k9 k' da ca cs) (fun Q3 kk3 => .eCall (.glob hw rfl) (.ref rfl) <| .argP (.name rfl) <| .argP (.name rfl) <| .argP (.name rfl) <| .arg0 <| .cq <| right_L (n0 := N) hout XB TB (by lia) (by lia) (hD9.sub hk) hok hgood (by lia) (fun q hq => hk q (sN q hq)) hNd hF hT _ fun r k' hr => ?_) kk2) fun k10 hT10 => ?_
  · obtain ⟨hr, rfl⟩ := hr
    exact kk2 _ hr
  · subst e
    refine .eCall (.glob hw rfl) (.ref rfl) <| .argP (.name rfl) <| .arg0 <| .cq <| heard_L hout XB TB (by lia) (by lia) (by lia) _ fun r k' hr => ?_
    refine X1_2 hr ?_; clear hr; rintro tl hE hV
    rw [rtop_row hok hnm] at hV
    exact (EvP.name rfl) _ <| Go.toldNe hE.new (fun q hq => hE.sub q (sN q hq)) (fun q hq p hp => Ne.symm (hE.apart p (sN p hp) q hq)) hV hP hth <| kk2 _ hE.sub
  · obtain ⟨rfl, hT⟩ := hr
    exact kk3 _ _ ⟨rfl, hT.at_, fun q hq h => hT.sub q (hk q hq) h⟩
  have s10 : ∀ q ∈ N, q ∈ k10 := fun q hq => hT10.sub q (sN q hq) (hNd q hq)
  have h10 := hT10.sub _ h9 h9d
  have hD10 := hT10.at_
  clear hT10 h9 hD9 sN
  refine .assignQ <| .eCall (.glob hw rfl) (.ref rfl) <| .argP (.name rfl) <| .argP (.name rfl) <| .arg0 <| .cq <| bent_L (by lia) (by lia) hD10 _ fun vb k11 hr => Go.aq hw ?_
  obtain ⟨⟨b, ⟨tb, rfl⟩, hbl⟩, hT11⟩ := hr
  have s11 : ∀ q ∈ N, q ∈ k11 := fun q hq => hT11.sub q (s10 q hq) (hNd q hq)
  have h11 := hT11.sub _ h10 h9d
  have hD11 := hT11.at_
  clear hT11 h10 hD10 s10
  refine .assignQ <| .eCall (.glob hw rfl) (.ref rfl) <| .argP (.name rfl) <| .argR .int fun v0 hv0 => .argP .bool <| .arg0 <| .cq ?_
  obtain ⟨u0, rfl⟩ := hv0
  refine lread_L b.length (i := 0) (inner := false) (by rw [List.drop_zero]; exact Nat.le_refl _) (Nat.zero_le _) (by lia) (by lia) (by lia) _ fun vd k12 hr => Go.aq hw ?_
  refine X1_2 hr ?_; clear hr; rintro tlr hE12 hV
  rw [List.drop_zero] at hV
  refine .guardF (R := fun k => ∀ q ∈ k12, q ∈ k) (TstF.cmp fun Q2 kk2 => .eCall (.glob hw rfl) (.ref rfl) <| .argP (.name rfl) <| .arg0 <| .cq <| heard_L hout XB TB (by omega) (by lia) (by lia) _ fun r k13 hr => ?_) fun k14 s14 => ?_
  · refine X1_2 hr ?_; clear hr; rintro tlh hE13 hV2
    have hrt := rtop_one (b := b)
    generalize rone rdl false b = ro at hV hrt
    cases ro with
    | none =>
      rw [hrt] at hV2
      obtain rfl := LRV.none_ hV
      have hV2 : r = .none := hV2
      subst hV2
      exact At.ifE (.or2 (q := False) (.cmp (EvP.r (P := fun v => v = .none) (.name rfl) rfl) (EvP.r (P := fun v => v = .none) .none rfl) fun a b ha hb => by subst ha; subst hb; exact .isNone) fun h => absurd rfl h) (fun _ => EvP.none _ <| Go.noneNe <| kk2 _ hE13.sub) fun h => absurd (.inl rfl) h
    | some pr =>
      obtain ⟨t', r'⟩ := pr
      refine X4_5 hV ?_; clear hV; rintro R T' i tk rfl hR hT' hdr hi
      have hR13 := hE13.sub _ (hE12.new _ hR)
      refine At.ifE (.or2 (.cmp (EvP.r (P := fun v => v = .ref R) (.name rfl) rfl) (EvP.r (P := fun v => v = .none) .none rfl) fun a b ha hb => by subst ha; subst hb; exact .isNone) fun _ => .cmp (EvP.r (P := IV (i : Int)) (.itemT (.name rfl) hR13 .int (by decide) rfl) ⟨_, rfl⟩) (.lenB hw (EvP.r (P := BW b) (.name rfl) ⟨_, rfl⟩) (by lia)) fun a b ha hb => .iNe ha hb) (fun h => ?_) fun h => ?_
      · have hne : r' ≠ [] := fun e => by
          rcases h with h | h
          · cases h
          · rw [e, List.drop_eq_nil_iff] at hdr
            clear hrt
            lia
        cases r' with
        | nil => exact absurd rfl hne
        | cons x y =>
          rw [hrt] at hV2
          have hV2 : r = .none := hV2
          subst hV2
          exact EvP.none _ <| Go.noneNe <| kk2 _ hE13.sub
      · have hil : i = b.length := Classical.byContradiction fun e => h (.inr fun e2 => e (by clear hrt; lia))
        rw [hil, List.drop_length] at hdr
        subst hdr
        have hh := rtop_ht hrt
        rw [hrt] at hV2
        exact (EvP.itemT (.name rfl) hR13 .int (by decide) rfl) _ <| Go.toldNe hE13.new (fun q hq => hE13.sub q (hE12.new q hq)) (fun q hq p hp => Ne.symm (hE13.apart p (hE12.new p hp) q hq)) hV2 hT' (by lia) <| kk2 _ hE13.sub
  have s14 : ∀ q ∈ k11, q ∈ k14 := fun q hq => s14 q (hE12.sub q hq)
  have h14 := s14 _ h11
  have hD14 := hD11.sub s14
  have s14 : ∀ q ∈ N, q ∈ k14 := fun q hq => s14 q (s11 q hq)
  clear hE12 h11 hD11 s11 hV
  refine X4_2 (tree_parts hok) fun nm cn od ps etr hsub => ?_
  have hT1 := hT
  rw [etr] at hT1
  refine hT1.open ?_
  rintro xa xd tn vo pl t11 t12 t13 t14 t15 ws wi rfl m1 m2 ho m3 hTs hwz
  refine .assignQ <| .eMeth0 (.name rfl) (.inst (s14 _ m1) (s14 _ m2) rfl rfl rfl rfl) (.ref rfl) <| copy_L (by lia) (by lia) (by lia) (hT.mono s14) _ fun vw k15 hr => Go.aq hw ?_
  refine X2_3 hr ?_; clear hr; rintro tlw dw hE15 hU hnd
  have s15 : ∀ q ∈ N, q ∈ k15 := fun q hq => hE15.sub q (s14 q hq)
  have hoff : ∀ q ∈ N, q.1 ∉ dw := fun q hq hm => by
    obtain ⟨es, he⟩ := dicts_mem.1 hU _ hm
    exact hE15.apart q (s14 q hq) _ he rfl
  have h15 := hE15.sub _ h14
  have hD15 := hD14.sub hE15.sub
  have wd : ∀ q ∈ tlw, @Ne Nat q.1 da := by
    refine X1_2 hD14.dk fun o ho _ => ?_
    exact fun q hq => Ne.symm (hE15.apart _ ho q hq)
  have wn := hE15.new
  clear hE15 hD14 h14 s14
  refine .assignQ <| At.subQ <| .eTup <| .argR .bytes fun v1 h1 => .argR .bytes fun v2 h2 => .argR .bytes fun v3 h3 => .argR .bytes fun v4 h4 => .argR .bytes fun v5 h5 => .argR .bytes fun v6 h6 => .argR .bytes fun v7 h7 => .arg0 <| At.newTup fun T k16 hT16 => At.eCall (.glob hw rfl) (.ref rfl) <| At.argP (.name rfl) <| At.argR .int fun v hv => At.arg0 <| Go.cq ?_
  obtain ⟨u7, rfl⟩ := hv
  refine X1_2 hD15.dk fun odk hodk hdk => ?_
  refine draw_L (by lia) (hD15.sub hT16.sub) (by decide) _ fun r k17 hr => ?_
  obtain ⟨⟨x, hx, hx0, hx7⟩, hT17⟩ := hr
  have hB : BVs [v1, v2, v3, v4, v5, v6, v7] lawPaths := by
    show _ ∧ _; refine ⟨h1, ?_⟩
    show _ ∧ _; refine ⟨h2, ?_⟩
    show _ ∧ _; refine ⟨h3, ?_⟩
    show _ ∧ _; refine ⟨h4, ?_⟩
    show _ ∧ _; refine ⟨h5, ?_⟩
    show _ ∧ _; refine ⟨h6, ?_⟩
    show _ ∧ _; refine ⟨h7, ?_⟩
    trivial
  have hx' : x.toNat < [v1, v2, v3, v4, v5, v6, v7].length := by show x.toNat < 7; lia
  refine X1_2 (bvs_get hB (List.getElem?_eq_getElem hx')) ?_; rintro pth hp1 ⟨tp, hp2⟩
  refine Go.itemT (hT17.sub _ hT16.mem (Ne.symm (hT16.ne _ hodk))) hx hx0 (by lia) (List.getElem?_eq_getElem hx') ?_
  rw [hp2]
  refine X0_3 (paths_ok pth (List.mem_of_getElem? hp1)) fun q1 q2 q3 => ?_
  refine Go.aq hw ?_
  have up17 : ∀ q ∈ k15, @Ne Nat q.1 da → q ∈ k17 := fun q hq h => hT17.sub q (hT16.sub q hq) h
  have h17 := up17 _ h15 h9d
  have hU := hU.sub fun q hq => up17 q (wn q hq) (wd q hq)
  have s17 : ∀ q ∈ N, q ∈ k17 := fun q hq => up17 q (s15 q hq) (hNd q hq)
  clear up17 hT17 hT16 hdk hodk hD15 h15 s15 wd wn
  have hU1 := hU.tree
  rw [etr] at hU1
  refine hU1.open ?_
  rintro ya yd tn2 vo2 pl2 y1 y2 y3 y4 y5 us2 i2 rfl z1 z2 _ _ _ _
  refine .exprQ <| .eMeth (.name rfl) (.inst z1 z2 rfl rfl rfl rfl) (.ref rfl) <| .argP (.name rfl) <| .arg0 <| .cq <| forget_L (by lia) hU hnd hgood h17 q3 (by lia) q1 _ fun r k18 hr => ?_
  refine X0_4 hr ?_; clear hr; rintro rfl ⟨ps9, h18⟩ hW keep
  rw [forget_forgot _ _ hgood] at hW
  have s18 : ∀ q ∈ N, q ∈ k18 := fun q hq => keep q (s17 q hq) (hoff q hq) (hN9 q hq)
  clear keep hU hU1 z1 z2 h17 s17 hoff hnd
  generalize hnms : pieces pth [47] = nms at q1 q2 q3 hW
  have hfh := forgot_ht nms t.tree
  refine Go.xq <| .guardF (R := fun k => ∀ q ∈ k18, q ∈ k) (TstF.cmp fun Q2 kk2 => .eCall (.glob hw rfl) (.ref rfl) <| .argP (.name rfl) <| .arg0 <| .cq <| told_L _ (by lia) hW _ fun r1 k19 hr1 => ?_) fun k22 s22 => ?_
  · refine X1_2 hr1 ?_; clear hr1; rintro tl4 hE19 hV1
    refine At.eCall (.glob hw rfl) (.ref rfl) <| At.argP (.name rfl) <| At.argQ <| At.eMeth (.name rfl) Mt.split .blt <| At.argR EvR.bytes fun sv hsv => At.arg0 <| Go.cq ?_
    obtain ⟨ts, rfl⟩ := hsv
    refine CaG.split (b := pth) (sep := [47]) (by decide) (by rw [hnms]; exact q3) (by rw [hnms]; lia) _ fun r2 k20 hr2 => ?_
    refine X2_3 hr2 ?_; clear hr2; rintro D us3 rfl hB3 hN20
    rw [hnms] at hB3
    refine At.arg0 <| Go.cq <| forgotten_L nms t.tree (old := N) q1 q2 (by lia) (fun q hq => hN20.sub q (hE19.sub q (s18 q hq))) hP hN20.mem hB3 _ fun r3 k21 hr3 => ?_
    refine X1_2 hr3 ?_; clear hr3; rintro tl5 hE21 hV3
    refine Go.toldNe (l1 := tl4) (l2 := N ++ tl5) (fun q hq => hE21.sub q (hN20.sub q (hE19.new q hq))) (fun q hq => ?_) (fun q hq p hp => ?_) hV1 hV3 (by lia) <| kk2 _ fun q hq => hE21.sub q (hN20.sub q (hE19.sub q hq))
    · rcases List.mem_append.mp hq with hq | hq
      · exact hE21.sub q (hN20.sub q (hE19.sub q (s18 q hq)))
      · exact hE21.new q hq
    · rcases List.mem_append.mp hp with hp | hp
      · exact Ne.symm (hE19.apart p (s18 p hp) q hq)
      · exact hE21.apart q (hN20.sub q (hE19.new q hq)) p hp
  have n22 : ∀ q ∈ N, q ∈ k22 := fun q hq => s22 q (s18 q hq)
  have h22 := s22 _ h18
  clear s22 s18 h18 hW
  have hpl : ps.length ≤ 3 := by
    have := hsub.length_le
    simpa using this
  have hwl := trees_len hTs
  have hnd2 : (ps.map Tree.nm).Nodup := hsub.nodup (by decide)
  refine .asgComp hw (.pt (.name rfl) (n22 _ m1) (n22 _ m2)) (n22 _ m3) hwz (fun i ys k => (∀ q ∈ k22, q ∈ k) ∧ BVs ys ((ps.map Tree.nm).take i)) ⟨fun _ h => h, by rw [List.take_zero]; trivial⟩ (fun i ys k h => h.1 _ (n22 _ m3)) (fun i v ys k c2 hv hj hw2 => ?_) fun D ys k k24 hj hN24 => ?_
  · refine X1_2 (trees_get hTs hv) ?_; rintro ⟨nm2, cn2, od2, ps2⟩ hp2 hin
    refine hin.open ?_
    rintro xa2 xd2 tn3 vo3 pl3 y1 y2 y3 y4 y5 us3 i3 rfl z1 z2 _ _ _ _
    refine EvP.g (.nm (.name rfl) (hj.1 _ (n22 _ z1)) (hj.1 _ (n22 _ z2)) rfl) ⟨hj.1, ?_⟩
    have e : (ps.map Tree.nm)[i]? = some nm2 := by rw [List.getElem?_map, hp2]; rfl
    rw [List.take_add_one, e]
    exact bvs_add ⟨_, rfl⟩ hj.2
  obtain ⟨hs22, hB⟩ := hj
  rw [hwl, ← List.length_map (f := Tree.nm), List.take_length] at hB
  have hyl := bvs_len hB
  rw [List.length_map] at hyl
  have s24 : ∀ q ∈ N, q ∈ k24 := fun q hq => hN24.sub q (hs22 q (n22 q hq))
  have h24 := hN24.sub _ (hs22 _ h22)
  have hD24 := hN24.mem
  clear hN24 hs22 n22 h22
  have hin : NamesIn w N ws (ps.map Tree.nm) := namesIn_of hTs
  refine .guardF (R := fun k => ∀ q ∈ k24, q ∈ k) (.or2 (R := fun k => ∀ q ∈ k24, q ∈ k) (TstF.cmp fun Q2 kk2 => ?_) fun k hk => ?_) fun k25 s25 => ?_
  · refine At.pairComp (cnt := min ys.length ws.length) (α := Unit) (val := fun _ i a b => ys[i]? = some a ∧ ws[i]? = some b) (Sk := fun _ h => h.IsList D ys.toArray ∧ h.IsList pl ws.toArray) hw (fun _ i zs k => (∀ q ∈ k24, q ∈ k) ∧ zs = List.replicate i (.bool true)) ?_ ?_ ?_ ?_
    · exact .eCall (.blt hw rfl (by boot_fast)) .typ <| .argP (.name rfl) <| .argP (.pt (.name rfl) (s24 _ m1) (s24 _ m2)) <| .arg0 <| .cq <| At.srcEx () <| At.srcZip hD24 (s24 _ m3) ⟨fun _ h => h, rfl⟩ (by lia)
    · rintro _ i zs k m hid h ⟨hs, _⟩ F N'
      exact ⟨News.isList N' (List.mem_append_right _ (hs _ hD24)), News.isList N' (List.mem_append_right _ (hs _ (s24 _ m3)))⟩
    · rintro _ i a b' zs k c2 hi ⟨ha, hb⟩ ⟨hs, rfl⟩ hw2
      refine Y1_3 True .nil (fun _ Q3 kk3 => ?_) (fun h => absurd trivial h)
      refine X1_2 (bvs_get hB ha) ?_; rintro nm2 hn2 ⟨tnm, rfl⟩
      refine X1_2 (trees_get hTs hb) ?_; rintro ⟨nm3, cn3, od3, ps3⟩ hp3 hin3
      refine hin3.open ?_
      rintro xa3 xd3 tn3 vo3 pl3 y1 y2 y3 y4 y5 us3 i3 rfl _ _ _ _ _ _
      refine .eCmp <| .eMeth (.name rfl) (.inst (hs _ (s24 _ m1)) (hs _ (s24 _ m2)) rfl rfl rfl rfl) (.ref rfl) <| .argP (.name rfl) <| .arg0 <| .cq <| part_L (by rw [hw2.dp]; lia) (hs _ (s24 _ m1)) (hs _ (s24 _ m2)) (hs _ (s24 _ m3)) (namesIn_of (hTs.mono fun q hq => hs q (s24 q hq))) _ fun r k' hr => ?_
      obtain ⟨rfl, rfl⟩ := hr
      rw [pick_nd hnd2 hb hn2]
      exact (EvP.name rfl) _ <| Go.isSelf <| kk3 _ _ ⟨hs, by rw [List.replicate_succ']⟩
    · rintro _ D2 zs k n' ⟨hs, rfl⟩ hN
      have e : min ys.length ws.length = ys.length := by rw [hyl, hwl, Nat.min_self]
      rw [e] at hN
      refine At.eBin <| .eList <| .argP .bool <| .arg0 <| At.newLst fun D3 k3 hD3 => ?_
      refine (EvR.lenL hw (.name rfl) (hD3.sub _ (hN.sub _ (hs _ hD24))) (by lia) : EvR c k3 _ _ _) _ fun v hv => Go.mul1 hD3.mem hv (by lia) fun D4 k4 hD4 => Go.truesNe (hD4.sub _ (hD3.sub _ hN.mem)) hD4.mem (by lia) <| kk2 _ fun q hq => hD4.sub q (hD3.sub q (hN.sub q (hs q hq)))
  · refine fun Q2 kk2 => Tst.f (p := ¬ (Value.none = Value.none)) (.cmp (P1 := fun v => v = .none) (fun Q3 kk3 => .eMeth (.name rfl) (.inst (hk _ (s24 _ m1)) (hk _ (s24 _ m2)) rfl rfl rfl rfl) (.ref rfl) <| .argR .bytes fun v hv => .arg0 <| .cq ?_) (EvP.r (P := fun v => v = .none) .none rfl) fun a b ha hb => by subst ha; subst hb; exact .notNone) (fun h => h rfl) Q2 fun k' e => kk2 k' (by rw [e]; exact hk)
    obtain ⟨tb2, rfl⟩ := hv
    refine part_L (by lia) (hk _ (s24 _ m1)) (hk _ (s24 _ m2)) (hk _ (s24 _ m3)) (namesIn_of (hTs.mono fun q hq => hk q (s24 q hq))) _ fun r k' hr => ?_
    obtain ⟨rfl, rfl⟩ := hr
    exact kk3 _ (pick_not fun h => absurd (hsub.subset h) (by decide))
  have n25 : ∀ q ∈ N, q ∈ k25 := fun q hq => s25 q (s24 q hq)
  refine .retQ <| .eCmp <| .eCall (.glob hw rfl) (.ref rfl) <| .argP (.name rfl) <| .arg0 <| .cq <| told_L t.tree (by lia) (hT.mono n25) _ fun r k26 hr => ?_
  refine X1_2 hr ?_; clear hr; rintro tl6 hE26 hV6
  exact (EvP.name rfl) _ <| Go.toldEq hE26.new (fun q hq => hE26.sub q (n25 q hq)) (fun q hq p hp => Ne.symm (hE26.apart p (n25 p hp) q hq)) hV6 hP hth <| kk _ _ _ (hE26.sub _ (s25 _ h24))
end
section
noncomputable def topC {w : World} (A₀ : Around) (base : Heap) (qual : Str) (scope : Scope) (f : Addr) (cdv : Value) (L' : Addr) (names : List Str) (hid : Led) (g : Heap) (p : Program) (loose : List Str) (mean : ExcName → Option Value) (mg mb : Str → Option Value) (dp un : Nat) (gd : Option (List Code)) (Rr : Result → Shared → Prop) (s : Shared)
    (B' : Below A₀ base [] g) (X' : (KK w).In g) (T' : Top p loose mean mg mb g) (hk : scope.kind = .function)
    (hn : (names.all fun y => scope.names.lookup y == some .local || scope.names.lookup y == some .cell) = true) (hlc : (scope.names.all fun y => scope.names.lookup y.1 == some y.2) = true)
    (hnd : ((cellsFrom 0 scope.names []).map (·.1)).Nodup) (hfr : (scope.names.all fun y => y.2 != .free) = true) : Cx w :=
    { A₀ := A₀, base := base, g := g, outer := [], fenv := envOfC qual scope L' f cdv, env := envOfC qual scope L' f cdv, L := L', p := p, loose := loose, mean := mean, mg := mg, mb := mb, dp := dp, un := un, gd := gd
      E := fun e s' => wpAny (model PR w) (AA dp un gd (envOfC qual scope L' f cdv) []) (leaving (envOfC qual scope L' f cdv) e) (fun _ s'' => Rr (.error e) s'') (fun e' s'' => Rr (.error e') s'') s'
      s := s, V := DV scope L' names hid, dfn := true, B := B', X := X', T := T', hf := rfl, hk := hk, ek := hk, eg := rfl, eb := rfl
      rd := fun {l m hid n h x v} hV F N hx A E Q s es q => by
        subst es
        refine X1_5 hV ?_; clear hV; rintro cs hc rfl hm hln hlt
        have hxn := frm_some_mem hx
        rw [hln] at hxn
        have := List.all_eq_true.mp hn x hxn
        rcases Bool.or_eq_true_iff.mp this with hloc | hcel
        · have hloc : scope.names.lookup x = some .local := by simpa using hloc
          exact wpAny_loadName_local hk hloc F.ns (by rw [hm, if_pos hloc]; exact hx) q
        · have hcel : scope.names.lookup x = some .cell := by simpa using hcel
          obtain ⟨a, ha⟩ := lookup_cells (k := L' + 1) hcel
          refine X1_2 (cells_get hc ha) fun o hmo hd => ?_
          exact wpAny_loadName_cell hk hcel ha (Y1_2 o (N.get (List.mem_append_left _ (List.mem_append_left _ hmo))) (by rw [hd, hx])) q
      ce := fun _ {l m hid x} hV hx => by
        refine X1_5 hV ?_; clear hV; rintro cs hc rfl hm hln hlt
        rcases hx with hx | hx
        · obtain ⟨a, ha⟩ := lookup_cells (k := L' + 1) (show scope.names.lookup x = some .cell from hx)
          refine X1_2 (cells_get hc ha) fun o hmo hd => ?_
          exact Y2_3 a o ha (List.mem_append_left _ hmo) hd
        · exact absurd (lookup_mem (show scope.names.lookup x = some .free from hx)) fun hm => by
            have := List.all_eq_true.mp hfr _ hm
            simp at this
      st := fun _ {l m hid n h x v} hV F N O hx A E Q s es k => by
        subst es
        exact dv_store (env := envOfC qual scope L' f cdv) rfl rfl rfl hk hn hlc hnd hV hx O F N k
      sl := fun _ {l m hid x v} hV hx hxk => dv_sl hlc hV hx hxk
      lo := fun _ => rfl
      mu := fun {l m hid m' hid'} h h' => by
        refine X1_4 h ?_; clear h; rintro _ _ _ h1 _
        refine X1_4 h' ?_; clear h'; rintro _ _ _ h2 _
        exact funext fun y => (h1 y).trans (h2 y).symm
      po := fun _ => PassesOwn.leaving }
noncomputable abbrev led189 : Led := [(189, tabObj #[])]
noncomputable abbrev lwNames : List Str := [Str.ofString "script", Str.ofString "deck", Str.ofString "folder", Str.ofString "tree", Str.ofString "plain", Str.ofString "octets", Str.ofString "bent", Str.ofString "due", Str.ofString "twin", Str.ofString "path", Str.ofString "names"]
set_option maxHeartbeats 400000 in
theorem law_top {w : World} {g h₁ : Heap} {L' f sa : Addr} {qual : Str} {scope : Scope} {body : List Stmt} {cdv : Value} {p : Program} {loose : List Str} {mean : ExcName → Option Value} {mg mb : Str → Option Value} {s : Shared} {tk : Tok} {Rr : Result → Shared → Prop} {cells : Led} {vs : List Value} {ns : List Int}
    (hsc : scopeOf (KK w) 382 = scope) (hbd : bodyOf (KK w) 382 = body) (hk : scope.kind = .function) (hn : (lwNames.all fun y => scope.names.lookup y == some .local || scope.names.lookup y == some .cell) = true) (hlc : (scope.names.all fun y => scope.names.lookup y.1 == some y.2) = true)
    (hnd : ((cellsFrom 0 scope.names []).map (·.1)).Nodup) (hfr : (scope.names.all fun y => y.2 != .free) = true) (hcl : ∀ k : Nat, cellsFrom k scope.names [] = [(Str.ofString "tree", k)]) (htc : scope.names.lookup (Str.ofString "tree") = some .cell)
    (B : Below callerA g [] g) (X : (KK w).In g) (T : Top p loose mean mg mb g) (F : Fr g L' h₁ (bindL (envOfC qual scope L' f cdv).kindOf [(Str.ofString "script", .ref sa)] fun _ => none)) (N : News g L' h₁ (cells ++ led189))
    (Y : CellsAre (bindC (envOfC qual scope L' f cdv).kindOf [(Str.ofString "script", .ref sa)] fun _ => none) (cellsFrom (L' + 1) scope.names []) cells) (lt : @LT.lt Nat _ 189 L') (hsa : g.IsList sa vs.toArray) (hI : IntsAre vs ns) (hlen : ns.length ≤ 63)
    (kk : ∀ h' tk' ps, (∀ a o, g.get? a = some o → h'.get? a = some o) → h'.get? 189 = some (tabObj ps) → Rr (.ok (.ret (.bool true))) { s with heap := h', toks := tk' }) :
    wpAny (model PR w) (callerA.deeper (envOfC qual scope L' f cdv)) (execs body (envOfC qual scope L' f cdv)) (fun fl s' => Rr (.ok (.ret (match fl with | .ret v => v | _ => .none))) s')
      (fun e s' => wpAny (model PR w) (callerA.deeper (envOfC qual scope L' f cdv)) (leaving (envOfC qual scope L' f cdv) e) (fun _ s'' => Rr (.error e) s'') (fun e' s'' => Rr (.error e') s'') s') { s with heap := h₁, toks := tk } := by
  have key : ∀ c : Cx w, c = topC (w := w) callerA g qual scope f cdv L' lwNames [] g p loose mean mg mb 302 7 (some []) Rr s B X T hk hn hlc hnd hfr → At c led189 (frLw sa none none none none none none none none none none) (execs body c.env) (fun fl s' => Rr (.ok (.ret (match fl with | .ret v => v | _ => .none))) s') := by
    rintro c rfl
    rw [← hbd]
    refine law_walk (d := 302) (u := 7) rfl X T ⟨hsc.symm, rfl, rfl, rfl⟩ (by decide) (by decide) (.head _) hsa hI hlen fun n' l' ps hm h tk H => ?_
    obtain ⟨m, hid, hV, F2, N2, O2⟩ := H
    exact kk h tk ps F2.keep (N2.get (List.mem_append_right _ hm))
  refine key _ rfl h₁ tk ⟨_, cells, Y1_5 cells ?_ ((List.append_nil _).symm) ?_ rfl (fun q hq => nomatch hq), F, N, ?_⟩
  · refine cells_congr Y fun p hp => ?_
    rw [hcl] at hp
    rw [List.mem_singleton.mp hp, bindC_eq ?_]
    · rfl
    · show scope.names.lookup _ ≠ _
      rw [htc]
      exact fun h => nomatch h
  · intro y
    rw [bindL_eq]
    show (if scope.names.lookup y = _ then _ else _) = _
    by_cases e : scope.names.lookup y = some .local
    · rw [if_pos e]
      refine (if_pos e).trans ?_
      have e2 : frLw sa none none none none none none none none none none = mkFm lwNames [(Str.ofString "script", .ref sa)] := by rfl
      rw [e2, frm_mkFm (by rfl)]
      cases [(Str.ofString "script", Value.ref sa)].reverse.lookup y <;> rfl
    · rw [if_neg e]
      exact if_neg e
  · intro q hq r hr
    rw [List.mem_singleton.mp hr]
    have := cells_gt Y q hq
    exact Nat.ne_of_gt (Nat.lt_trans lt this)
end
end
end Mine
namespace Mine.fin
def tw17717364068325071970:=True
def tw17628183408451194143:=True
def tw14728723275428758510:=True
def tw12669758225909598566:=True
def tw15815952407149668801:=True
def tw2976117146107443816:=True
def tw3974152918291533672:=True
def tw7716820226725407877:=True
def tw10751089155417173751:=True
def tw14245171486683049214:=True
def tw612862322836996645:=True
def tw2415902012162501839:=True
def tw15688172546075569117:=True
def tw6127190174262240918:=True
def tw6515953530934532768:=True
def tw7976502392129159676:=True
def tw6232080684201472732:=True
def tw3810570522144960214:=True
def tw11151619158091525091:=True
def tw480829909506669009:=True
def tw11615019562542576733:=True
def tw8018989035897545986:=True
def tw5486226609284752418:=True
def tw17416127249078093707:=True
def tw8750026160782262943:=True
def tw11953781441336167498:=True
def tw18295790063311454060:=True
def tw6712194924023145494:=True
def tw14166196953294261902:=True
def tw11039862389202566683:=True
def tw11040825799340251285:=True
def tw5102460946473063141:=True
def tw6766580051018981234:=True
def tw4868334931027891882:=True
def tw2824846461999071874:=True
def tw17861066769153400444:=True
def tw13467322939085005891:=True
def tw8590288500278120515:=True
def tw7249652514872940865:=True
def tw16307707646766795581:=True
def tw6766378078585498003:=True
def tw13162651487661262736:=True
def tw10936777179133785780:=True
def tw2512408688544751470:=True
def tw16252508478716706905:=True
def tw12629903358213643309:=True
def tw11293339424137598113:=True
def tw2617349483901765261:=True
def tw4769821431679368130:=True
def tw7661832156752021035:=True
def tw2386126689217763390:=True
def tw8656503046869711584:=True
def tw12221555665107904926:=True
def tw10383673109516279431:=True
def tw16285329926789087883:=True
def tw5098551885099359569:=True
def tw15675102808854859970:=True
def tw15662818152136180567:=True
def tw783483362715066742:=True
def tw3975253019698251321:=True
def tw2367325634123391141:=True
def tw16570786720924097770:=True
def tw2086631506510373192:=True
def tw12448240930570709186:=True
def tw10907391636593693970:=True
def tw17784850919643140607:=True
def tw5816422842320146608:=True
def tw16906536467411238026:=True
def tw2866121171748074186:=True
def tw9001875181463519149:=True
def tw10860463890562471742:=True
def tw9735714214384596553:=True
def tw888132650186811988:=True
def tw10580198807604790814:=True
def tw14345562132136545540:=True
def tw8569027658895312972:=True
def tw13177410634674063896:=True
def tw5678346346211369953:=True
def tw4218790737952374519:=True
def tw803859442106103436:=True
def tw12135189313929291683:=True
def tw17449020081951674710:=True
def tw15989303212955285315:=True
def tw17362494058136835672:=True
def tw13790858721211988464:=True
def tw14574801432027512755:=True
def tw2910385600587045654:=True
def tw15741700470354863883:=True
def tw12291753297600562012:=True
def tw891787732878383699:=True
def tw3456623496861543869:=True
def tw5293390819737331289:=True
def tw999798209818781672:=True
def tw1454475970635175518:=True
def tw1733617567141615821:=True
def tw6968583824967984638:=True
def tw13093503161671486093:=True
def tw12494888245299231016:=True
def tw17570709534508481193:=True
def tw1535588207084551279:=True
def tw3683778510129048087:=True
def tw13021059552284102479:=True
def tw10895054467252067526:=True
def tw1252854909445205041:=True
def tw6381419901266130222:=True
def tw13360279666012451719:=True
def tw5897612983314593646:=True
def tw6508024398460485763:=True
def tw6435670951450185984:=True
def tw9453698228708602487:=True
def tw16530489862217454893:=True
def tw15533503492667675913:=True
def tw111200028466390044:=True
def tw12550770813317053977:=True
def tw895571856199123645:=True
def tw5734618986648460908:=True
def tw17974384156558142227:=True
def tw6707113841082798463:=True
def tw1887099378405440850:=True
def tw11575174756993882273:=True
def tw15564276425815640635:=True
def tw9387745189664136937:=True
def tw14679806638718605512:=True
def tw8025084765662995669:=True
def tw2266156473880313826:=True
def tw2775396313129547428:=True
def tw18230178534529381785:=True
def tw876206183137641144:=True
def tw9997704412844104603:=True
def tw12946824338688289833:=True
def tw13724452099449386491:=True
def tw17869975865946814897:=True
def tw12212933522069011988:=True
def tw3998398428148030388:=True
def tw11414674201277728305:=True
def tw807531904560671035:=True
def tw4443050520305737185:=True
def tw17260493314774615805:=True
def tw10671828304227620169:=True
def tw10242451874928486539:=True
def tw2305881189932309285:=True
def tw7522001649326652513:=True
def tw10925335251469727208:=True
def tw4598667867955821814:=True
def tw8383268338085895543:=True
def tw6567050819087999508:=True
def tw3837020019201816242:=True
def tw17933470926392208243:=True
def tw16196181902256332553:=True
def tw3343445320678177929:=True
def tw3222278782482380304:=True
def tw757079261281740938:=True
def tw12996517811204074000:=True
def tw11192643925408225281:=True
def tw2608567993692976607:=True
def tw17662344363894024548:=True
def tw8668149382578428375:=True
def tw9725021084223525626:=True
def tw5402249366112354979:=True
def tw1397303283331804279:=True
def tw1635022588487117616:=True
def tw4209717502836232480:=True
def tw4719063310657182621:=True
def tw12833947400113492166:=True
def tw12829507556594621215:=True
def tw14210890002308233579:=True
def tw16205109500356779066:=True
def tw12105171945263650130:=True
def tw1422313219903470601:=True
def tw12409915417874342407:=True
def tw17698704350827878285:=True
def tw4950403968356008110:=True
def tw8432929667963758897:=True
def tw14347400895652799225:=True
def tw16175276709679454751:=True
def tw3263211703599914710:=True
def tw12876116671307685997:=True
def tw16115155874713506467:=True
def tw4928979718650693569:=True
def tw1963134401048803436:=True
def tw3268265519342814607:=True
def tw1014637456484912126:=True
def tw17391389999010971402:=True
def tw6838789434069753932:=True
def tw16510490156224867327:=True
def tw1819255440876223710:=True
def tw15309079848183770524:=True
def tw2321816554428607280:=True
def tw12180539936304867106:=True
def tw15373703851562958014:=True
def tw10329872625359487480:=True
def tw14431720936831517352:=True
def tw13647521368782130326:=True
def tw846297522682114974:=True
def tw6449190631224713292:=True
def tw10567028658651823492:=True
def tw2462912638960843985:=True
def tw1666694428299288667:=True
def tw8408514402456403777:=True
def tw744865244796547220:=True
def tw5073790198343104882:=True
def tw18195182924450695511:=True
def tw7684487725183542926:=True
def tw3112429581023547943:=True
def tw7890596953891613788:=True
def tw1951045429614898598:=True
def tw11273041486466551846:=True
def tw3004984022683251337:=True
def tw5901363791540438844:=True
def tw17041991840579044601:=True
def tw6718411051458867188:=True
def tw4759752924163587094:=True
def tw3125960719983571848:=True
def tw1976505206021243879:=True
def tw16256441300576474876:=True
def tw7451905468542833597:=True
def tw5776136370200156792:=True
def tw10807920368746810246:=True
def tw17896612028031085017:=True
def tw10391319463526535247:=True
def tw648105169693061245:=True
def tw8416529770105884409:=True
def tw7321584467024264148:=True
def tw10196768644732416780:=True
def tw216489041496292469:=True
def tw12977279227502587607:=True
def tw3810338749695602999:=True
def tw1613116972386908190:=True
def tw9722632081671974098:=True
def tw15205425988870721313:=True
def tw12962497063298326498:=True
def tw17130245016438642246:=True
def tw17347454772498655404:=True
def tw13929302177132474383:=True
def tw13066358836101814915:=True
def tw828056024939588000:=True
def tw9113340658982188547:=True
def tw12567809125941998234:=True
def tw2236755162388048479:=True
def tw544173102793226557:=True
def tw16656299143469825513:=True
def tw1080700006314346644:=True
def tw6144012678527597917:=True
def tw12740692763255036000:=True
def tw12711679700452659978:=True
def tw2304379251839397102:=True
def tw13294311002278339166:=True
def tw17821466097196317003:=True
def tw10852849658779182186:=True
def tw5011121235533021005:=True
def tw11061592194353771069:=True
def tw11454252539852477091:=True
def tw8272817396058243321:=True
def tw6956187926921108005:=True
def tw9913140749668108558:=True
def tw7380833856163905736:=True
def tw8289400949097046189:=True
def tw5647864574477489665:=True
def tw4570111826955561243:=True
def tw17801579834951734752:=True
def tw17656766251404061198:=True
def tw380778119907437045:=True
def tw16934629359412608497:=True
def tw6650461044873433052:=True
def tw8399098705505230059:=True
def tw4754365596532378047:=True
def tw7055459427971326715:=True
def tw7675655780812522254:=True
def tw11897717083992391400:=True
def tw3762306804915933987:=True
def tw1625080806587739848:=True
def tw14333544728242365436:=True
def tw18105942590061964161:=True
def tw12118000046449163591:=True
def tw9746214513668125432:=True
def tw16237762584071213788:=True
def tw3404873503106905745:=True
def tw9260378047223084069:=True
def tw7547296005191728479:=True
def tw1478472949765384701:=True
def tw3105451386036433885:=True
def tw6081921254191324426:=True
def tw4924110625330727750:=True
def tw428092273266315144:=True
def tw12876064707754696378:=True
def tw6323506392446703087:=True
def tw16401934584784274106:=True
def tw2656788454239962097:=True
def tw10070804522480449196:=True
def tw6566618420281934:=True
def tw13815853411582834384:=True
def tw6068950659093879613:=True
def tw14497727239971306367:=True
def tw13199158710529813207:=True
def tw3598329298470268980:=True
def tw7830629276484211593:=True
def tw5320702786494000081:=True
def tw3812028171767442716:=True
def tw6207176494656529804:=True
def tw11336253725339858928:=True
def tw9363291351745731410:=True
def tw16502652511500755:=True
def tw15149952090015108872:=True
def tw4265850918314828415:=True
def tw12464766053444552404:=True
def tw14568449535678555946:=True
def tw13383306551100868464:=True
def tw13516622038369049944:=True
def tw8947099994592609211:=True
def tw6498334528663615478:=True
def tw15201286185872193147:=True
def tw8643116662766533202:=True
def tw799341379326975648:=True
def tw8119881530291889089:=True
def tw6455845175183424153:=True
def tw14856888987745899463:=True
def tw7282745182861764756:=True
def tw18105285910621931680:=True
def tw14109310954907245088:=True
def tw10511823565363050587:=True
def tw12751662967071866640:=True
def tw4879674094562380441:=True
def tw4170516301191304579:=True
def tw3173534031939492945:=True
def tw9357874355931990178:=True
def tw16921374880739206190:=True
def tw8330952907988395303:=True
def tw17743408960866722510:=True
def tw14814673180317915700:=True
def tw4878226113927451544:=True
def tw1012361349325877821:=True
def tw7613945582906998725:=True
def tw4162185377826839926:=True
def tw2537931557510868981:=True
def tw3599858809825778643:=True
def tw15399907426655090358:=True
def tw4312942655851389009:=True
def tw13925877587632400325:=True
def tw8559517257967667466:=True
def tw5115476493328737885:=True
def tw3314143786362844604:=True
def tw4040260094072895976:=True
def tw15408508732894643574:=True
def tw17197158672614542318:=True
def tw16275787546110486726:=True
def tw14838103818555229697:=True
def tw17204297501091165112:=True
def tw5805905742469029177:=True
def tw10599938827571368224:=True
def tw13423622936843584764:=True
def tw16229209127682248589:=True
def tw1544503264643628384:=True
def tw16496857829328116044:=True
def tw12149302876761508202:=True
def tw7803649310394182010:=True
def tw6213507637468552686:=True
def tw4588413851689716618:=True
def tw16421356062931815887:=True
def tw15583698165555649274:=True
end Mine.fin
set_option Elab.async true in
theorem Mine.fin : PySem.Challenge.rw_pb0113_01.Holds := by
  (w_on; o_law; k_head; (case hw => w_witness2))
  k_go0
  refine Mine.law_top (Rr := fun r s' => GoodW _ _ _ _ _ r s' ∧ GrownAll [(193, 189)] s'.heap) (cells := [_]) (by rfl) (by rfl) (by rfl) (by rfl) (by rfl) (by decide +kernel) (by rfl) (by intro k; rfl) (by rfl) (by assumption) (by assumption) (by assumption) (by assumption) (by assumption) (by assumption) (by assumption) (by assumption) (by assumption) ?_ ?_
  · omega
  · intro h' tk' ps hk hp
    refine ⟨⟨.inl ⟨.bool true, .bool true, [], rfl, raisesW_false ?_, .bool true, ?_, fun _ => ⟨.nil, fun _ h => nomatch h⟩⟩, hk, rfl, by assumption⟩, ⟨ps, hp⟩, trivial⟩
    · wrow_none_raised
    · wrow_post
theorem PySem.Challenge.cw_pb0113_01_holds : PySem.Challenge.rw_pb0113_01.Holds := by
  exact Mine.fin
