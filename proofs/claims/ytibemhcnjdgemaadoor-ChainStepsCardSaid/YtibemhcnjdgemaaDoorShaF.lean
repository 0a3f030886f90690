/-
  SHA-256 in a form that the kernel computes fast: numbers are forced, the operations are Nat's own. Equal to sha256.
-/
import Derived.Test.YtibemhcnjdgemaaDoorExpL
set_option linter.unusedVariables false
set_option linter.unusedSimpArgs false
namespace Go.Px
/-- The number is computed ahead of what goes on with it. -/
noncomputable def force {α : Type} (x : Nat) (f : Nat → α) : α := Nat.rec (motive := fun _ => α) (f 0) (fun n _ => f (Nat.succ n)) x
theorem force_eq {α : Type} (x : Nat) (f : Nat → α) : force x f = f x := by cases x <;> rfl
def rotF (x n m : Nat) : Nat := Nat.lor (Nat.shiftRight x n) (Nat.mod (Nat.shiftLeft x m) 4294967296)
def rF : List Nat → List Nat → S8 → S8
  | k :: ks, w :: ws, s => rF ks ws (s.step k w)
  | _, _, s => s
theorem rF_snoc (ks ws : List Nat) (h : ks.length = ws.length) (k w : Nat) (s : S8) : rF (ks ++ [k]) (ws ++ [w]) s = (rF ks ws s).step k w := by
  induction ks generalizing ws s with
  | nil =>
    cases ws with
    | nil => rfl
    | cons w ws => simp at h
  | cons k' ks ih =>
    cases ws with
    | nil => simp at h
    | cons w' ws => exact ih ws (by simpa using h) (s.step k' w')
theorem rounds_eq (ks ws : List Nat) (s : S8) (n : Nat) (h1 : n ≤ ks.length) (h2 : n ≤ ws.length) : rounds ks ws s n = rF (ks.take n) (ws.take n) s := by
  induction n with
  | zero => rfl
  | succ n ih =>
    rw [rounds, ih (by omega) (by omega), List.take_add_one, List.take_add_one, List.getElem?_eq_getElem (by omega), List.getElem?_eq_getElem (by omega)]
    simp only [Option.toList_some]
    rw [rF_snoc _ _ (by simp; omega), List.getD_eq_getElem?_getD, List.getD_eq_getElem?_getD, List.getElem?_eq_getElem (by omega), List.getElem?_eq_getElem (by omega)]
    rfl
/-- The sum that both ends of a round take. -/
def t1F (e f g h k w : Nat) : Nat :=
  Nat.mod (Nat.add (Nat.mod (Nat.add (Nat.mod (Nat.add (Nat.mod (Nat.add h (Nat.xor (Nat.xor (rotF e 6 26) (rotF e 11 21)) (rotF e 25 7))) 4294967296) (Nat.xor (Nat.land e f) (Nat.land (Nat.xor 4294967295 e) g))) 4294967296) k) 4294967296) w) 4294967296
def aF (t a b c : Nat) : Nat :=
  Nat.mod (Nat.add (Nat.mod (Nat.add t (Nat.xor (Nat.xor (rotF a 2 30) (rotF a 13 19)) (rotF a 22 10))) 4294967296) (Nat.xor (Nat.xor (Nat.land a b) (Nat.land a c)) (Nat.land b c))) 4294967296
noncomputable def rFF (ks : List Nat) : List Nat → Nat → Nat → Nat → Nat → Nat → Nat → Nat → Nat → S8 :=
  List.rec (motive := fun _ => List Nat → Nat → Nat → Nat → Nat → Nat → Nat → Nat → Nat → S8) (fun _ a b c d e f g h => ⟨a, b, c, d, e, f, g, h⟩)
    (fun k _ ih ws => List.rec (motive := fun _ => Nat → Nat → Nat → Nat → Nat → Nat → Nat → Nat → S8) (fun a b c d e f g h => ⟨a, b, c, d, e, f, g, h⟩)
      (fun w ws _ a b c d e f g h => force (t1F e f g h k w) fun t => force (aF t a b c) fun a' => force (Nat.mod (Nat.add d t) 4294967296) fun e' => ih ws a' a b c e' e f g) ws) ks
theorem rFF_eq (ks ws : List Nat) (s : S8) : rFF ks ws s.a s.b s.c s.d s.e s.f s.g s.h = rF ks ws s := by
  induction ks generalizing ws s with
  | nil => cases ws <;> rfl
  | cons k ks ih =>
    cases ws with
    | nil => rfl
    | cons w ws =>
      have e : rFF (k :: ks) (w :: ws) s.a s.b s.c s.d s.e s.f s.g s.h = force (t1F s.e s.f s.g s.h k w) fun t => force (aF t s.a s.b s.c) fun a' => force (Nat.mod (Nat.add s.d t) 4294967296) fun e' => rFF ks ws a' s.a s.b s.c e' s.e s.f s.g := rfl
      rw [e, force_eq, force_eq, force_eq]
      exact ih ws (s.step k w)
/-- The words, the last first. -/
noncomputable def nthF : Nat → List Nat → Nat := fun n => Nat.rec (motive := fun _ => List Nat → Nat) (fun l => List.rec (motive := fun _ => Nat) 0 (fun x _ _ => x) l) (fun _ ih l => List.rec (motive := fun _ => Nat) 0 (fun _ r _ => ih r) l) n
theorem nthF_eq (n : Nat) (l : List Nat) : nthF n l = l.getD n 0 := by
  induction n generalizing l with
  | zero => cases l <;> rfl
  | succ n ih =>
    cases l with
    | nil => rfl
    | cons x r => exact ih r
def wnF (w16 w15 w7 w2 : Nat) : Nat :=
  Nat.mod (Nat.add (Nat.mod (Nat.add (Nat.mod (Nat.add w16 (Nat.xor (Nat.xor (rotF w15 7 25) (rotF w15 18 14)) (Nat.shiftRight w15 3))) 4294967296) w7) 4294967296) (Nat.xor (Nat.xor (rotF w2 17 15) (rotF w2 19 13)) (Nat.shiftRight w2 10))) 4294967296
noncomputable def wF (n : Nat) : List Nat → List Nat :=
  Nat.rec (motive := fun _ => List Nat → List Nat) (fun r => r) (fun _ ih r => force (wnF (nthF 15 r) (nthF 14 r) (nthF 6 r) (nthF 1 r)) fun x => ih (x :: r)) n
theorem getD_rev {l : List Nat} {k : Nat} (h : k < l.length) : l.reverse.getD k 0 = l.getD (l.length - 1 - k) 0 := by
  rw [List.getD_eq_getElem?_getD, List.getD_eq_getElem?_getD, List.getElem?_reverse h]
theorem wF_eq (w : List Nat) (hw : 16 ≤ w.length) (n m : Nat) : wF n (wx w m).reverse = (wx w (m + n)).reverse := by
  induction n generalizing m with
  | zero => rfl
  | succ n ih =>
    have e : wF (n + 1) (wx w m).reverse = force (wnF (nthF 15 (wx w m).reverse) (nthF 14 (wx w m).reverse) (nthF 6 (wx w m).reverse) (nthF 1 (wx w m).reverse)) fun x => wF n (x :: (wx w m).reverse) := rfl
    have hl := wx_len w m
    rw [e, force_eq, nthF_eq, nthF_eq, nthF_eq, nthF_eq, getD_rev (by omega), getD_rev (by omega), getD_rev (by omega), getD_rev (by omega), hl]
    have e2 : wnF ((wx w m).getD (w.length + m - 1 - 15) 0) ((wx w m).getD (w.length + m - 1 - 14) 0) ((wx w m).getD (w.length + m - 1 - 6) 0) ((wx w m).getD (w.length + m - 1 - 1) 0) = wnext (wx w m) (w.length + m) := by
      rw [show w.length + m - 1 - 15 = w.length + m - 16 by omega, show w.length + m - 1 - 14 = w.length + m - 15 by omega, show w.length + m - 1 - 6 = w.length + m - 7 by omega, show w.length + m - 1 - 1 = w.length + m - 2 by omega]
      rfl
    rw [e2, show wnext (wx w m) (w.length + m) :: (wx w m).reverse = (wx w (m + 1)).reverse by rw [wx, List.reverse_append]; rfl, ih (m + 1), show m + 1 + n = m + (n + 1) by omega]
/-- Four bytes each as a word. -/
def wordF (a b c d : Nat) : Nat := Nat.add (Nat.mul (Nat.add (Nat.mul (Nat.add (Nat.mul a 256) b) 256) c) 256) d
noncomputable def wordsF : Nat → List Nat → List Nat → List Nat
  | 0, _, r => r
  | n + 1, a :: b :: c :: d :: p, r => force (wordF a b c d) fun x => wordsF n p (x :: r)
  | _ + 1, _, r => r
theorem wordsF_eq (n : Nat) (p : List Nat) (i : Nat) (h : 4 * (i + n) ≤ p.length) (r : List Nat) : wordsF n (p.drop (4 * i)) r = ((List.range' i n).map (word p)).reverse ++ r := by
  induction n generalizing i r with
  | zero => rfl
  | succ n ih =>
    have e : p.drop (4 * i) = p.getD (4 * i) 0 :: p.getD (4 * i + 1) 0 :: p.getD (4 * i + 2) 0 :: p.getD (4 * i + 3) 0 :: p.drop (4 * (i + 1)) := by
      rw [List.drop_eq_getElem_cons (by omega), List.drop_eq_getElem_cons (by omega), List.drop_eq_getElem_cons (by omega), List.drop_eq_getElem_cons (by omega)]
      simp only [List.getD_eq_getElem?_getD]
      rw [List.getElem?_eq_getElem (by omega), List.getElem?_eq_getElem (by omega), List.getElem?_eq_getElem (by omega), List.getElem?_eq_getElem (by omega)]
      rfl
    rw [e]
    show force _ _ = _
    rw [force_eq, ih (i + 1) (by omega), List.range'_succ, List.map_cons, List.reverse_cons, List.append_assoc]
    rfl
noncomputable def blkF (a b c d e f g h : Nat) (p : List Nat) (k : Nat → Nat → Nat → Nat → Nat → Nat → Nat → Nat → List Nat) : List Nat :=
  match rFF kTab (wF 48 (wordsF 16 p [])).reverse a b c d e f g h with
  | ⟨a1, b1, c1, d1, e1, f1, g1, h1⟩ =>
    force (Nat.mod (Nat.add a a1) 4294967296) fun a => force (Nat.mod (Nat.add b b1) 4294967296) fun b => force (Nat.mod (Nat.add c c1) 4294967296) fun c => force (Nat.mod (Nat.add d d1) 4294967296) fun d =>
    force (Nat.mod (Nat.add e e1) 4294967296) fun e => force (Nat.mod (Nat.add f f1) 4294967296) fun f => force (Nat.mod (Nat.add g g1) 4294967296) fun g => force (Nat.mod (Nat.add h h1) 4294967296) fun h => k a b c d e f g h
theorem blkF_eq (s : S8) (p : List Nat) (hp : 64 ≤ p.length) (k : Nat → Nat → Nat → Nat → Nat → Nat → Nat → Nat → List Nat) : blkF s.a s.b s.c s.d s.e s.f s.g s.h p k = (fun t : S8 => k t.a t.b t.c t.d t.e t.f t.g t.h) (shaBlock kTab s p) := by
  have h1 : wordsF 16 p [] = (words p 16).reverse := by
    have := wordsF_eq 16 p 0 (by omega) []
    rw [List.append_nil] at this
    rw [show p = p.drop (4 * 0) from rfl, this, words, List.range_eq_range']
    rfl
  have hw : (words p 16).length = 16 := by simp [words]
  have h2 : (wF 48 (wordsF 16 p [])).reverse = wx (words p 16) 48 := by
    have := wF_eq (words p 16) (by omega) 48 0
    rw [h1, show (words p 16).reverse = (wx (words p 16) 0).reverse from rfl, this, List.reverse_reverse]
  have h3 : rFF kTab (wF 48 (wordsF 16 p [])).reverse s.a s.b s.c s.d s.e s.f s.g s.h = rounds kTab (wx (words p 16) 48) s 64 := by
    have hl := wx_len (words p 16) 48
    rw [h2, rFF_eq, rounds_eq _ _ _ _ (by decide) (by omega), List.take_of_length_le (show kTab.length ≤ 64 by decide), List.take_of_length_le (by omega)]
  unfold blkF shaBlock
  rw [h3]
  generalize rounds kTab (wx (words p 16) 48) s 64 = r
  obtain ⟨a1, b1, c1, d1, e1, f1, g1, h1⟩ := r
  simp only [force_eq]
  rfl
/-- So many blocks; the sum's bytes. -/
noncomputable def shaBF : Nat → Nat → Nat → Nat → Nat → Nat → Nat → Nat → Nat → List Nat → List Nat
  | 0, a, b, c, d, e, f, g, h, _ => [a, b, c, d, e, f, g, h].flatMap out4
  | n + 1, a, b, c, d, e, f, g, h, p => blkF a b c d e f g h p fun a b c d e f g h => shaBF n a b c d e f g h (p.drop 64)
theorem shaBF_eq (n : Nat) (s : S8) (p : List Nat) (hp : 64 * n ≤ p.length) : shaBF n s.a s.b s.c s.d s.e s.f s.g s.h p = (shaB kTab n s p).bytes := by
  induction n generalizing s p with
  | zero => rfl
  | succ n ih =>
    have e : shaBlock kTab s (p.take 64) = shaBlock kTab s p := by
      unfold shaBlock
      have : words (p.take 64) 16 = words p 16 := by
        unfold words
        refine List.map_congr_left fun i hi => ?_
        have hi := List.mem_range.1 hi
        unfold word
        have g : ∀ j, j < 64 → (p.take 64).getD j 0 = p.getD j 0 := fun j hj => by
          rw [List.getD_eq_getElem?_getD, List.getD_eq_getElem?_getD, List.getElem?_take_of_lt hj]
        rw [g _ (by omega), g _ (by omega), g _ (by omega), g _ (by omega)]
      rw [this]
    rw [shaBF, blkF_eq s p (by omega), shaB, e]
    exact ih _ _ (by rw [List.length_drop]; omega)
noncomputable def sha256F (p : List Nat) : List Nat := shaBF ((padded p).length / 64) 1779033703 3144134277 1013904242 2773480762 1359893119 2600822924 528734635 1541459225 (padded p)
theorem sha256F_eq (p : List Nat) : sha256F p = sha256 p := shaBF_eq _ hFirst (padded p) (by omega)
noncomputable def hmacF (key p : List Nat) : List Nat := sha256F (keyPad (if 64 < key.length then sha256F key else key) 92 ++ sha256F (keyPad (if 64 < key.length then sha256F key else key) 54 ++ p))
theorem hmacF_eq (key p : List Nat) : hmacF key p = hmac key p := by
  unfold hmacF hmac macKey
  simp only [sha256F_eq]
/-- HKDF's expand of one block, and of two. -/
theorem expand32 (key info : List Nat) : expand key info 32 = hmacF key (info ++ [1]) := by
  have h : (hmac key ([] ++ (info ++ [1]))).length = 32 := sha256_len _
  rw [hmacF_eq]
  show ([] ++ hmac key ([] ++ (info ++ [1]))).take 32 = _
  rw [List.nil_append, List.nil_append, List.take_of_length_le (by rw [← List.nil_append (info ++ [1])]; omega)]
theorem expand64 (key info : List Nat) : expand key info 64 = hmacF key (info ++ [1]) ++ hmacF key (hmacF key (info ++ [1]) ++ (info ++ [2])) := by
  have h : ∀ p, (hmac key p).length = 32 := fun p => sha256_len _
  simp only [hmacF_eq]
  show (([] ++ hmac key ([] ++ (info ++ [1]))) ++ hmac key (hmac key ([] ++ (info ++ [1])) ++ (info ++ [2]))).take 64 = _
  simp only [List.nil_append]
  rw [List.take_of_length_le]
  rw [List.length_append, h, h]; decide
end Go.Px
