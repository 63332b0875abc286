import PyProof.Rows.All
import HandS.ForMost
import HandS.Walk
import HandS.Exc
import HandS.TupAny
import HandS.TupMul
import HandS.Wide
import HandS.IsInst
import HandS.Deep
import HandS.Conv
import HandS.Style
import HandS.Rev
import HandS.Zip
import HandS.WordsExc
import HandS.Ends
import HandS.RevTup
import PyProof.ReprRoads
import HandS.RaiseMore
import KE.OsArith
import PySem.Challenge.RW_losesone_k03_whole_letter_products
set_option Elab.async false
set_option autoImplicit false
set_option linter.all false
set_option maxRecDepth 100000
/-! Ow, part 1: data D, what it means that a machine value stands for a datum, how that survives steps. -/
namespace Ow
open PySem PySem.Spec PyProof.Rows L2

/-- data of the programs: a list or dict bears true while one place alone owns it (it may be changed there); far: a list from outside, read only -/
inductive D where
  | non | bl (b : Bool) | int (i : Int) | str (s : Str)
  | tup (l : List D) | far (l : List D) | lst (o : Bool) (l : List D) | dct (o : Bool) (l : List (D × D))

abbrev Own := Addr → Prop
abbrev nobody : Own := fun _ => False
abbrev nobodies : Nat → Own := fun _ _ => False
def LstAt (M : Own) (H : Hp) (a : Addr) (vs : List V) : Prop := ¬ M a ∧ H a = some (.lst vs)
def FarAt (K : PySem.W.Frag) (M : Own) (H : Hp) (a : Addr) (vs : List V) : Prop := (¬ M a ∧ ∃ o, H a = some (.frz o (.lst vs))) ∨ SqL K (fun _ => none) a vs
def TupAt (K : PySem.W.Frag) (M : Own) (H : Hp) (a : Addr) (vs : List V) : Prop := (¬ M a ∧ Rd H a (.tup vs)) ∨ SqT K (fun _ => none) a vs
def keyD : Key → D
  | .inl i => .int i
  | .inr s => .str s
def HasKV (H : Hp) (a : Addr) (ks : List D) (vs : List V) : Prop :=
  (∃ kvs : List (Key × V), H a = some (.dK kvs) ∧ ks = kvs.map (fun p => keyD p.1) ∧ vs = kvs.map (·.2)) ∨
    ∃ kvs : List (List Key × V), H a = some (.dT kvs) ∧ ks = kvs.map (fun p => D.tup (p.1.map keyD)) ∧ vs = kvs.map (·.2)
/-- the parts' owners lie under the whole's, beside its own address, apart from one another -/
structure Under (P : Own) (a : Addr) (f : Nat → Own) : Prop where
  sub : ∀ j b, f j b → P b
  ne : ∀ j b, f j b → b ≠ a
  dj : ∀ i j b, f i b → f j b → i = j

mutual
def Rel (K : PySem.W.Frag) (M : Own) (H : Hp) : D → V → Own → Prop
  | .non, v, _ => v = .non
  | .bl b, v, _ => v = .bl b
  | .int i, v, _ => v = .int i
  | .str s, v, _ => v = .str s
  | .tup l, v, _ => ∃ a vs, v = .ref a ∧ TupAt K M H a vs ∧ Rels K M H l vs nobodies
  | .far l, v, _ => ∃ a vs, v = .ref a ∧ FarAt K M H a vs ∧ Rels K M H l vs nobodies
  | .lst false l, v, _ => ∃ a vs, v = .ref a ∧ LstAt M H a vs ∧ Rels K M H l vs nobodies
  | .lst true l, v, P => ∃ a vs f, v = .ref a ∧ H a = some (.lst vs) ∧ P a ∧ Under P a f ∧ Rels K M H l vs f
  | .dct false l, v, _ => ∃ a ks vs, v = .ref a ∧ ¬ M a ∧ HasKV H a ks vs ∧ Relk K M H l ks vs nobodies
  | .dct true l, v, P => ∃ a ks vs f, v = .ref a ∧ HasKV H a ks vs ∧ P a ∧ Under P a f ∧ Relk K M H l ks vs f
def Rels (K : PySem.W.Frag) (M : Own) (H : Hp) : List D → List V → (Nat → Own) → Prop
  | [], vs, _ => vs = []
  | d :: l, vs, f => ∃ v r, vs = v :: r ∧ Rel K M H d v (f 0) ∧ Rels K M H l r (fun j => f (j + 1))
def Relk (K : PySem.W.Frag) (M : Own) (H : Hp) : List (D × D) → List D → List V → (Nat → Own) → Prop
  | [], ks, vs, _ => ks = [] ∧ vs = []
  | (k, d) :: l, ks, vs, f => ∃ kr v r, ks = k :: kr ∧ vs = v :: r ∧ Rel K M H d v (f 0) ∧ Relk K M H l kr r (fun j => f (j + 1))
end

mutual
/-- given away: no longer to be changed -/
def freeze : D → D
  | .tup l => .tup l
  | .far l => .far l
  | .lst _ l => .lst false (freezes l)
  | .dct _ l => .dct false (freezek l)
  | .non => .non
  | .bl b => .bl b
  | .int i => .int i
  | .str s => .str s
def freezes : List D → List D
  | [] => []
  | d :: l => freeze d :: freezes l
def freezek : List (D × D) → List (D × D)
  | [] => []
  | (k, d) :: l => (k, freeze d) :: freezek l
end
mutual
/-- nothing in it is owned -/
def flat : D → Bool
  | .tup _ => true
  | .far _ => true
  | .lst o l => !o && flats l
  | .dct o l => !o && flatk l
  | .non => true
  | .bl _ => true
  | .int _ => true
  | .str _ => true
def flats : List D → Bool
  | [] => true
  | d :: l => flat d && flats l
def flatk : List (D × D) → Bool
  | [] => true
  | (_, d) :: l => flat d && flatk l
end

section
variable {K : PySem.W.Frag} {M M' : Own} {H H' : Hp}
theorem LstAt.seq {a : Addr} {vs : List V} (h : LstAt M H a vs) : SqL K H a vs := .inl (.inl h.2)
theorem FarAt.seq {a : Addr} {vs : List V} (h : FarAt K M H a vs) : SqL K H a vs := by
  rcases h with ⟨_, h⟩ | h
  · exact .inl (.inr h)
  · rcases h with h | h
    · rcases h with h | ⟨o, h⟩ <;> cases h
    · exact .inr h
theorem TupAt.seq {a : Addr} {vs : List V} (h : TupAt K M H a vs) : SqT K H a vs := by
  rcases h with ⟨_, h⟩ | h
  · exact .inl h
  · rcases h with h | h
    · rcases h with h | ⟨o, h⟩ <;> cases h
    · exact .inr h
/-- what nobody may change stays, and stays so -/
def Keep (M M' : Own) (H H' : Hp) : Prop := ∀ a o, ¬ M a → H a = some o → H' a = some o ∧ ¬ M' a
theorem Keep.trans {M1 M2 M3 : Own} {H1 H2 H3 : Hp} (x : Keep M1 M2 H1 H2) (y : Keep M2 M3 H2 H3) : Keep M1 M3 H1 H3 := fun a o h e => y a o (x a o h e).2 (x a o h e).1
theorem Keep.rd (k : Keep M M' H H') {a : Addr} {u : HO} (n : ¬ M a) (h : Rd H a u) : Rd H' a u ∧ ¬ M' a := by
  rcases h with h | ⟨o, h⟩
  · exact ⟨.inl (k a _ n h).1, (k a _ n h).2⟩
  · exact ⟨.inr ⟨o, (k a _ n h).1⟩, (k a _ n h).2⟩
theorem LstAt.keep (k : Keep M M' H H') {a : Addr} {vs : List V} (h : LstAt M H a vs) : LstAt M' H' a vs := ⟨(k a _ h.1 h.2).2, (k a _ h.1 h.2).1⟩
theorem FarAt.keep (k : Keep M M' H H') {a : Addr} {vs : List V} (h : FarAt K M H a vs) : FarAt K M' H' a vs := by
  rcases h with ⟨n, o, h⟩ | h
  · exact .inl ⟨(k a _ n h).2, o, (k a _ n h).1⟩
  · exact .inr h
theorem TupAt.keep (k : Keep M M' H H') {a : Addr} {vs : List V} (h : TupAt K M H a vs) : TupAt K M' H' a vs := by
  rcases h with ⟨n, h⟩ | h
  · exact .inl ⟨(k.rd n h).2, (k.rd n h).1⟩
  · exact .inr h
theorem HasKV.at {a : Addr} {ks : List D} {vs : List V} (h : HasKV H a ks vs) (e : H' a = H a) : HasKV H' a ks vs := by
  rcases h with ⟨kvs, h, r⟩ | ⟨kvs, h, r⟩
  · exact .inl ⟨kvs, e.trans h, r⟩
  · exact .inr ⟨kvs, e.trans h, r⟩
theorem HasKV.keep (k : Keep M M' H H') {a : Addr} {ks : List D} {vs : List V} (n : ¬ M a) (h : HasKV H a ks vs) : HasKV H' a ks vs ∧ ¬ M' a := by
  rcases h with ⟨kvs, h, r⟩ | ⟨kvs, h, r⟩
  · exact ⟨.inl ⟨kvs, (k a _ n h).1, r⟩, (k a _ n h).2⟩
  · exact ⟨.inr ⟨kvs, (k a _ n h).1, r⟩, (k a _ n h).2⟩
theorem HasKV.some {a : Addr} {ks : List D} {vs : List V} (h : HasKV H a ks vs) : ∃ o, H a = some o := by
  rcases h with ⟨kvs, h, _⟩ | ⟨kvs, h, _⟩ <;> exact ⟨_, h⟩

mutual
theorem Rel.keep (k : Keep M M' H H') : ∀ {d : D} {v : V} {P : Own}, (∀ a, P a → H' a = H a) → Rel K M H d v P → Rel K M' H' d v P
  | .non, _, _, _, h => by unfold Rel at h ⊢; exact h
  | .bl _, _, _, _, h => by unfold Rel at h ⊢; exact h
  | .int _, _, _, _, h => by unfold Rel at h ⊢; exact h
  | .str _, _, _, _, h => by unfold Rel at h ⊢; exact h
  | .tup l, _, _, _, h => by
    unfold Rel at h ⊢
    obtain ⟨a, vs, e, h1, h2⟩ := h
    exact ⟨a, vs, e, h1.keep k, Rels.keep k (fun _ _ z => z.elim) h2⟩
  | .far l, _, _, _, h => by
    unfold Rel at h ⊢
    obtain ⟨a, vs, e, h1, h2⟩ := h
    exact ⟨a, vs, e, h1.keep k, Rels.keep k (fun _ _ z => z.elim) h2⟩
  | .lst false l, _, _, _, h => by
    unfold Rel at h ⊢
    obtain ⟨a, vs, e, h1, h2⟩ := h
    exact ⟨a, vs, e, h1.keep k, Rels.keep k (fun _ _ z => z.elim) h2⟩
  | .lst true l, _, _, kp, h => by
    unfold Rel at h ⊢
    obtain ⟨a, vs, f, e, h1, h2, h3, h4⟩ := h
    exact ⟨a, vs, f, e, (kp a h2).trans h1, h2, h3, Rels.keep k (fun j b z => kp b (h3.sub j b z)) h4⟩
  | .dct false l, _, _, _, h => by
    unfold Rel at h ⊢
    obtain ⟨a, ks, vs, e, h1, h2, h3⟩ := h
    exact ⟨a, ks, vs, e, (h2.keep k h1).2, (h2.keep k h1).1, Relk.keep k (fun _ _ z => z.elim) h3⟩
  | .dct true l, _, _, kp, h => by
    unfold Rel at h ⊢
    obtain ⟨a, ks, vs, f, e, h1, h2, h3, h4⟩ := h
    exact ⟨a, ks, vs, f, e, h1.at (kp a h2), h2, h3, Relk.keep k (fun j b z => kp b (h3.sub j b z)) h4⟩
theorem Rels.keep (k : Keep M M' H H') : ∀ {l : List D} {vs : List V} {f : Nat → Own}, (∀ j a, f j a → H' a = H a) → Rels K M H l vs f → Rels K M' H' l vs f
  | [], _, _, _, h => by unfold Rels at h ⊢; exact h
  | d :: l, _, _, kp, h => by
    unfold Rels at h ⊢
    obtain ⟨v, r, e, h1, h2⟩ := h
    exact ⟨v, r, e, Rel.keep k (kp 0) h1, Rels.keep k (fun j => kp (j + 1)) h2⟩
theorem Relk.keep (k : Keep M M' H H') : ∀ {l : List (D × D)} {ks : List D} {vs : List V} {f : Nat → Own}, (∀ j a, f j a → H' a = H a) → Relk K M H l ks vs f → Relk K M' H' l ks vs f
  | [], _, _, _, _, h => by unfold Relk at h ⊢; exact h
  | (_, d) :: l, _, _, _, kp, h => by
    unfold Relk at h ⊢
    obtain ⟨kr, v, r, e, e2, h1, h2⟩ := h
    exact ⟨kr, v, r, e, e2, Rel.keep k (kp 0) h1, Relk.keep k (fun j => kp (j + 1)) h2⟩
end

mutual
theorem Rel.wk : ∀ {d : D} {v : V} {P P' : Own}, (∀ a, P a → P' a) → Rel K M H d v P → Rel K M H d v P'
  | .non, _, _, _, _, h => by unfold Rel at h ⊢; exact h
  | .bl _, _, _, _, _, h => by unfold Rel at h ⊢; exact h
  | .int _, _, _, _, _, h => by unfold Rel at h ⊢; exact h
  | .str _, _, _, _, _, h => by unfold Rel at h ⊢; exact h
  | .tup l, _, _, _, _, h => by unfold Rel at h ⊢; exact h
  | .far l, _, _, _, _, h => by unfold Rel at h ⊢; exact h
  | .lst false l, _, _, _, _, h => by unfold Rel at h ⊢; exact h
  | .lst true l, _, _, _, w, h => by
    unfold Rel at h ⊢
    obtain ⟨a, vs, f, e, h1, h2, h3, h4⟩ := h
    exact ⟨a, vs, f, e, h1, w a h2, ⟨fun j b z => w b (h3.sub j b z), h3.ne, h3.dj⟩, h4⟩
  | .dct false l, _, _, _, _, h => by unfold Rel at h ⊢; exact h
  | .dct true l, _, _, _, w, h => by
    unfold Rel at h ⊢
    obtain ⟨a, ks, vs, f, e, h1, h2, h3, h4⟩ := h
    exact ⟨a, ks, vs, f, e, h1, w a h2, ⟨fun j b z => w b (h3.sub j b z), h3.ne, h3.dj⟩, h4⟩
end

mutual
/-- given away: the owner's addresses leave M -/
theorem Rel.freeze (hs : ∀ a, M' a → M a) : ∀ {d : D} {v : V} {P P' : Own}, (∀ a, P a → ¬ M' a) → Rel K M H d v P → Rel K M' H (freeze d) v P'
  | .non, _, _, _, _, h => by unfold Rel at h; unfold Ow.freeze Rel; exact h
  | .bl _, _, _, _, _, h => by unfold Rel at h; unfold Ow.freeze Rel; exact h
  | .int _, _, _, _, _, h => by unfold Rel at h; unfold Ow.freeze Rel; exact h
  | .str _, _, _, _, _, h => by unfold Rel at h; unfold Ow.freeze Rel; exact h
  | .tup l, _, _, _, _, h => by
    unfold Rel at h; unfold Ow.freeze Rel
    obtain ⟨a, vs, e, h1, h2⟩ := h
    have k : Keep M M' H H := fun a o n z => ⟨z, fun q => n (hs a q)⟩
    exact ⟨a, vs, e, h1.keep k, h2.keep k fun _ _ z => z.elim⟩
  | .far l, _, _, _, _, h => by
    unfold Rel at h; unfold Ow.freeze Rel
    obtain ⟨a, vs, e, h1, h2⟩ := h
    have k : Keep M M' H H := fun a o n z => ⟨z, fun q => n (hs a q)⟩
    exact ⟨a, vs, e, h1.keep k, h2.keep k fun _ _ z => z.elim⟩
  | .lst false l, _, _, _, _, h => by
    unfold Rel at h; unfold Ow.freeze Rel
    obtain ⟨a, vs, e, h1, h2⟩ := h
    have k : Keep M M' H H := fun a o n z => ⟨z, fun q => n (hs a q)⟩
    exact ⟨a, vs, e, h1.keep k, Rels.freeze hs (fun _ _ z => z.elim) h2⟩
  | .lst true l, _, _, _, w, h => by
    unfold Rel at h; unfold Ow.freeze Rel
    obtain ⟨a, vs, f, e, h1, h2, h3, h4⟩ := h
    exact ⟨a, vs, e, ⟨w a h2, h1⟩, Rels.freeze hs (fun j b z => w b (h3.sub j b z)) h4⟩
  | .dct false l, _, _, _, _, h => by
    unfold Rel at h; unfold Ow.freeze Rel
    obtain ⟨a, ks, vs, e, h1, h2, h3⟩ := h
    exact ⟨a, ks, vs, e, fun q => h1 (hs a q), h2, Relk.freeze hs (fun _ _ z => z.elim) h3⟩
  | .dct true l, _, _, _, w, h => by
    unfold Rel at h; unfold Ow.freeze Rel
    obtain ⟨a, ks, vs, f, e, h1, h2, h3, h4⟩ := h
    exact ⟨a, ks, vs, e, w a h2, h1, Relk.freeze hs (fun j b z => w b (h3.sub j b z)) h4⟩
theorem Rels.freeze (hs : ∀ a, M' a → M a) : ∀ {l : List D} {vs : List V} {f f' : Nat → Own}, (∀ j a, f j a → ¬ M' a) → Rels K M H l vs f → Rels K M' H (freezes l) vs f'
  | [], _, _, _, _, h => by unfold Rels at h; unfold Ow.freezes Rels; exact h
  | d :: l, _, _, _, w, h => by
    unfold Rels at h; unfold Ow.freezes Rels
    obtain ⟨v, r, e, h1, h2⟩ := h
    exact ⟨v, r, e, Rel.freeze hs (w 0) h1, Rels.freeze hs (fun j => w (j + 1)) h2⟩
theorem Relk.freeze (hs : ∀ a, M' a → M a) : ∀ {l : List (D × D)} {ks : List D} {vs : List V} {f f' : Nat → Own}, (∀ j a, f j a → ¬ M' a) → Relk K M H l ks vs f → Relk K M' H (freezek l) ks vs f'
  | [], _, _, _, _, _, h => by unfold Relk at h; unfold Ow.freezek Relk; exact h
  | (_, d) :: l, _, _, _, _, w, h => by
    unfold Relk at h; unfold Ow.freezek Relk
    obtain ⟨kr, v, r, e, e2, h1, h2⟩ := h
    exact ⟨kr, v, r, e, e2, Rel.freeze hs (w 0) h1, Relk.freeze hs (fun j => w (j + 1)) h2⟩
end

mutual
theorem freeze_flat : ∀ {d : D}, flat d = true → freeze d = d
  | .non, _ => by unfold Ow.freeze; rfl
  | .bl _, _ => by unfold Ow.freeze; rfl
  | .int _, _ => by unfold Ow.freeze; rfl
  | .str _, _ => by unfold Ow.freeze; rfl
  | .tup _, _ => by unfold Ow.freeze; rfl
  | .far _, _ => by unfold Ow.freeze; rfl
  | .lst o l, h => by
    unfold flat at h
    rw [Bool.and_eq_true, Bool.not_eq_true'] at h
    unfold Ow.freeze
    rw [freezes_flat h.2, h.1]
  | .dct o l, h => by
    unfold flat at h
    rw [Bool.and_eq_true, Bool.not_eq_true'] at h
    unfold Ow.freeze
    rw [freezek_flat h.2, h.1]
theorem freezes_flat : ∀ {l : List D}, flats l = true → freezes l = l
  | [], _ => by unfold Ow.freezes; rfl
  | d :: l, h => by
    unfold flats at h
    rw [Bool.and_eq_true] at h
    unfold Ow.freezes
    rw [freeze_flat h.1, freezes_flat h.2]
theorem freezek_flat : ∀ {l : List (D × D)}, flatk l = true → freezek l = l
  | [], _ => by unfold Ow.freezek; rfl
  | (k, d) :: l, h => by
    unfold flatk at h
    rw [Bool.and_eq_true] at h
    unfold Ow.freezek
    rw [freeze_flat h.1, freezek_flat h.2]
end
mutual
theorem flat_freeze : ∀ d : D, flat (freeze d) = true
  | .non => by unfold Ow.freeze flat; rfl
  | .bl _ => by unfold Ow.freeze flat; rfl
  | .int _ => by unfold Ow.freeze flat; rfl
  | .str _ => by unfold Ow.freeze flat; rfl
  | .tup _ => by unfold Ow.freeze flat; rfl
  | .far _ => by unfold Ow.freeze flat; rfl
  | .lst o l => by unfold Ow.freeze flat; rw [flats_freezes l]; rfl
  | .dct o l => by unfold Ow.freeze flat; rw [flatk_freezek l]; rfl
theorem flats_freezes : ∀ l : List D, flats (freezes l) = true
  | [] => by unfold Ow.freezes flats; rfl
  | d :: l => by unfold Ow.freezes flats; rw [flat_freeze d, flats_freezes l]; rfl
theorem flatk_freezek : ∀ l : List (D × D), flatk (freezek l) = true
  | [] => by unfold Ow.freezek flatk; rfl
  | (k, d) :: l => by unfold Ow.freezek flatk; rw [flat_freeze d, flatk_freezek l]; rfl
end
mutual
/-- what owns nothing stands under any owner -/
theorem Rel.flat : ∀ {d : D} {v : V} {P P' : Own}, flat d = true → Rel K M H d v P → Rel K M H d v P'
  | .non, _, _, _, _, h => by unfold Rel at h ⊢; exact h
  | .bl _, _, _, _, _, h => by unfold Rel at h ⊢; exact h
  | .int _, _, _, _, _, h => by unfold Rel at h ⊢; exact h
  | .str _, _, _, _, _, h => by unfold Rel at h ⊢; exact h
  | .tup l, _, _, _, _, h => by unfold Rel at h ⊢; exact h
  | .far l, _, _, _, _, h => by unfold Rel at h ⊢; exact h
  | .lst false l, _, _, _, _, h => by unfold Rel at h ⊢; exact h
  | .lst true l, _, _, _, z, h => by unfold Ow.flat at z; exact absurd z (by simp)
  | .dct false l, _, _, _, _, h => by unfold Rel at h ⊢; exact h
  | .dct true l, _, _, _, z, h => by unfold Ow.flat at z; exact absurd z (by simp)
end
end
/-- the root is owned -/
def top : D → Bool
  | .lst true _ => true
  | .dct true _ => true
  | _ => false
/-- given away, if it was owned -/
def settle : D → D
  | .lst true l => .lst false (freezes l)
  | .dct true l => .dct false (freezek l)
  | d => d
section
variable {K : PySem.W.Frag} {M M' : Own} {H : Hp}
theorem Rel.untop : ∀ {d : D} {v : V} {P P' : Own}, top d = false → Rel K M H d v P → Rel K M H d v P'
  | .non, _, _, _, _, h => by unfold Rel at h ⊢; exact h
  | .bl _, _, _, _, _, h => by unfold Rel at h ⊢; exact h
  | .int _, _, _, _, _, h => by unfold Rel at h ⊢; exact h
  | .str _, _, _, _, _, h => by unfold Rel at h ⊢; exact h
  | .tup l, _, _, _, _, h => by unfold Rel at h ⊢; exact h
  | .far l, _, _, _, _, h => by unfold Rel at h ⊢; exact h
  | .lst false l, _, _, _, _, h => by unfold Rel at h ⊢; exact h
  | .lst true l, _, _, _, z, h => by cases z
  | .dct false l, _, _, _, _, h => by unfold Rel at h ⊢; exact h
  | .dct true l, _, _, _, z, h => by cases z
theorem Rel.settle (hs : ∀ a, M' a → M a) {d : D} {v : V} {P P' : Own} (hp : ∀ a, P a → ¬ M' a) (h : Rel K M H d v P) : Rel K M' H (Ow.settle d) v P' := by
  have k : Keep M M' H H := fun a o n z => ⟨z, fun q => n (hs a q)⟩
  have low : top d = false → Ow.settle d = d → Rel K M' H (Ow.settle d) v P' := fun t e => by
    rw [e]
    exact Rel.untop t (Rel.keep k (fun _ z => z.elim) (Rel.untop (P' := nobody) t h))
  cases d with
  | lst o l =>
    cases o with
    | false => exact low rfl rfl
    | true =>
      have := Rel.freeze hs hp (P' := P') h
      unfold Ow.freeze at this
      exact this
  | dct o l =>
    cases o with
    | false => exact low rfl rfl
    | true =>
      have := Rel.freeze hs hp (P' := P') h
      unfold Ow.freeze at this
      exact this
  | _ => exact low rfl rfl
end
end Ow

set_option Elab.async false
set_option autoImplicit false
set_option linter.all false
set_option maxRecDepth 100000
/-! Ow, part 2: the slots of a def, what a step leaves, readings of expressions and of argument rows. -/
namespace Ow
open PySem PySem.Spec PyProof.Rows L2

abbrev Sl := List (Option D)
abbrev Mof (Fr : Own) (own : Nat → Own) : Own := fun a => Fr a ∨ ∃ i, own i a
/-- an exception of the program: its class's name, its fields -/
abbrev XD := Str × List (Str × D)
inductive ER where
  | ok (d : D) (e : Sl)
  | exc (x : XD) (e : Sl)
/-- an expression's meaning -/
abbrev ME := Sl → Option ER
abbrev MI := Sl → Option D

/-- the slots stand for e; own i: what slot i owns; Fr: what others own -/
structure Rep (K : PySem.W.Frag) (Fr : Own) (e : Sl) (own : Nat → Own) (σ : L2.St) (H : Hp) : Prop where
  len : e.length = σ.length
  sl : ∀ i d, e[i]? = some (some d) → ∃ v, σ[i]? = some (some v) ∧ Rel K (Mof Fr own) H d v (own i)
  dj : ∀ i j a, own i a → own j a → i = j
  fr : ∀ i a, own i a → ¬ Fr a
  tr : ∀ a, Mof Fr own a → H a ≠ none
/-- a step from (own, H) to (own', H') -/
structure Went (K : PySem.W.Frag) (Fr : Own) (own : Nat → Own) (H : Hp) (e' : Sl) (own' : Nat → Own) (σ' : L2.St) (H' : Hp) : Prop where
  rep : Rep K Fr e' own' σ' H'
  keep : Keep (Mof Fr own) (Mof Fr own') H H'
  fix : ∀ a, Fr a → H' a = H a
/-- .. with a value v that stands for d and owns P -/
structure Got (K : PySem.W.Frag) (Fr : Own) (own : Nat → Own) (H : Hp) (e' : Sl) (own' : Nat → Own) (σ : L2.St) (H' : Hp) (d : D) (v : V) (P : Own) : Prop where
  rep : Rep K (fun a => Fr a ∨ P a) e' own' σ H'
  rel : Rel K (Mof (fun a => Fr a ∨ P a) own') H' d v P
  ap : ∀ a, P a → ¬ Fr a
  keep : Keep (Mof Fr own) (Mof (fun a => Fr a ∨ P a) own') H H'
  fix : ∀ a, Fr a → H' a = H a
/-- an exception's fields -/
def XRel (K : PySem.W.Frag) (mg : Str → Option Value) (M : Own) (H : Hp) (x : XD) (c : Value) (dx : Option Addr) : Prop :=
  ∃ C, c = .ref C ∧ mg x.1 = some (.ref C) ∧ ((x.2 = [] ∧ dx = none) ∨
    ∃ p fs, dx = some p ∧ ¬ M p ∧ H p = some (.xd fs) ∧ fs.map (·.1) = x.2.map (·.1) ∧ Rels K M H (x.2.map (·.2)) (fs.map (·.2)) nobodies)

section
variable {K : PySem.W.Frag} {Fr Fr' : Own} {e e' e1 : Sl} {own own' own1 : Nat → Own} {σ σ' σ1 : L2.St} {H H' H1 : Hp} {d : D} {v : V} {P : Own}
theorem Rep.refl (r : Rep K Fr e own σ H) : Went K Fr own H e own σ H := ⟨r, fun _ _ n h => ⟨h, n⟩, fun _ _ => rfl⟩
theorem Went.trans (a : Went K Fr own H e1 own1 σ1 H1) (b : Went K Fr own1 H1 e' own' σ' H') : Went K Fr own H e' own' σ' H' :=
  ⟨b.rep, a.keep.trans b.keep, fun x h => (b.fix x h).trans (a.fix x h)⟩
theorem Went.got (a : Went K Fr own H e1 own1 σ1 H1) (b : Got K Fr own1 H1 e' own' σ' H' d v P) : Got K Fr own H e' own' σ' H' d v P :=
  ⟨b.rep, b.rel, b.ap, a.keep.trans b.keep, fun x h => (b.fix x h).trans (a.fix x h)⟩
/-- fewer owners elsewhere -/
theorem Rep.less (r : Rep K Fr e own σ H) (h : ∀ a, Fr' a → Fr a) : Rep K Fr' e own σ H := by
  have k : Keep (Mof Fr own) (Mof Fr' own) H H := fun a o n z => ⟨z, fun q => n (q.elim (fun x => .inl (h a x)) .inr)⟩
  refine ⟨r.len, fun i d hd => ?_, r.dj, fun i a ha z => r.fr i a ha (h a z), fun a ha => r.tr a (ha.elim (fun x => .inl (h a x)) .inr)⟩
  obtain ⟨v, h1, h2⟩ := r.sl i d hd
  exact ⟨v, h1, h2.keep k fun _ _ => rfl⟩
/-- the value's owner gives up: a frozen value -/
theorem Got.frozen (g : Got K Fr own H e' own' σ H' d v P) : Went K Fr own H e' own' σ H' ∧ ∀ P', Rel K (Mof Fr own') H' (settle d) v P' := by
  have hs : ∀ a, Mof Fr own' a → Mof (fun a => Fr a ∨ P a) own' a := fun a q => q.elim (fun x => .inl (.inl x)) .inr
  refine ⟨⟨g.rep.less fun a h => .inl h, fun a o n z => ⟨(g.keep a o n z).1, fun q => (g.keep a o n z).2 (hs a q)⟩, g.fix⟩, fun P' => ?_⟩
  refine Rel.settle hs (fun a ha q => ?_) g.rel
  rcases q with q | ⟨i, q⟩
  · exact g.ap a ha q
  · exact g.rep.fr i a q (.inr ha)
/-- a value that owns nothing, after a step -/
theorem Went.val (w : Went K Fr own H e' own' σ H') (h : Rel K (Mof Fr own') H' d v nobody) : Got K Fr own H e' own' σ H' d v nobody := by
  have e1 : (fun a => Fr a ∨ nobody a) = Fr := by funext a; simp
  exact ⟨by rw [e1]; exact w.rep, by rw [e1]; exact h, fun _ z => z.elim, by rw [e1]; exact w.keep, w.fix⟩
theorem Rel.carry (w : Went K Fr own H e' own' σ H') {P' : Own} (h : Rel K (Mof Fr own) H d v nobody) : Rel K (Mof Fr own') H' d v P' :=
  (h.keep w.keep fun _ z => z.elim).wk fun _ z => z.elim
end

/-! ### what an operation on values leaves: all as it was, and its result -/
structure New (K : PySem.W.Frag) (M : Own) (H : Hp) (d : D) (v : V) (P : Own) (H' : Hp) : Prop where
  rel : Rel K (fun a => M a ∨ P a) H' d v P
  ext : ∀ a o, H a = some o → H' a = some o
  new : ∀ a, P a → H a = none
  tr : ∀ a, P a → H' a ≠ none
section
variable {K : PySem.W.Frag} {Fr : Own} {e : Sl} {own : Nat → Own} {σ : L2.St} {H H' : Hp} {d : D} {v : V} {P : Own}
theorem Mof.swap : (fun a => Mof Fr own a ∨ P a) = Mof (fun a => Fr a ∨ P a) own := by
  funext a
  apply propext
  constructor
  · rintro ((h | h) | h)
    · exact .inl (.inl h)
    · exact .inr h
    · exact .inl (.inr h)
  · rintro ((h | h) | h)
    · exact .inl (.inl h)
    · exact .inr h
    · exact .inl (.inr h)
theorem New.got (r : Rep K Fr e own σ H) (n : New K (Mof Fr own) H d v P H') : Got K Fr own H e own σ H' d v P := by
  have kp : ∀ a o, H a = some o → H' a = some o ∧ ¬ P a := fun a o h => ⟨n.ext a o h, fun p => by rw [n.new a p] at h; cases h⟩
  have same : ∀ a, Mof Fr own a → H' a = H a := fun a h => by
    cases q : H a with
    | none => exact absurd q (r.tr a h)
    | some o => exact n.ext a o q
  have k : Keep (Mof Fr own) (Mof (fun a => Fr a ∨ P a) own) H H' := fun a o h z => ⟨n.ext a o z, fun q => by
    rcases q with (q | q) | q
    · exact h (.inl q)
    · exact (kp a o z).2 q
    · exact h (.inr q)⟩
  refine ⟨⟨r.len, fun i d hd => ?_, r.dj, fun i a ha z => ?_, fun a ha => ?_⟩, ?_, fun a ha z => ?_, k, fun a ha => same a (.inl ha)⟩
  · obtain ⟨v, h1, h2⟩ := r.sl i d hd
    exact ⟨v, h1, h2.keep k fun a ha => same a (.inr ⟨i, ha⟩)⟩
  · rcases z with z | z
    · exact r.fr i a ha z
    · exact r.tr a (.inr ⟨i, ha⟩) (n.new a z)
  · rcases ha with (ha | ha) | ha
    · rw [same a (.inl ha)]; exact r.tr a (.inl ha)
    · exact n.tr a ha
    · rw [same a (.inr ha)]; exact r.tr a (.inr ha)
  · rw [← Mof.swap]; exact n.rel
  · exact r.tr a (.inl z) (n.new a ha)
/-- nothing but a value -/
theorem New.same {M : Own} (h : Rel K M H d v nobody) : New K M H d v nobody H := by
  have e : (fun a => M a ∨ nobody a) = M := by funext a; simp
  exact ⟨by rw [e]; exact h, fun _ _ h => h, fun _ z => z.elim, fun _ z => z.elim⟩
theorem New.ext' {M : Own} (n : New K M H d v P H') : Keep M (fun a => M a ∨ P a) H H' := fun a o h z => ⟨n.ext a o z, fun q => by
  rcases q with q | q
  · exact h q
  · rw [n.new a q] at z; cases z⟩
end

def RelAny (K : PySem.W.Frag) (M : Own) (H : Hp) (d : D) (v : V) : Prop := ∃ P, Rel K M H d v P
/-- g tells, of the data of the values, what the rule r may be asked for -/
def Meets (K : PySem.W.Frag) (r : List V → Hp → VK → Prop) (g : List D → Option D) : Prop :=
  ∀ (M : Own) (H : Hp) (ds : List D) (vs : List V) (d : D) (Q : VK), (∀ a, M a → H a ≠ none) → Paired (RelAny K M H) ds vs → g ds = some d → (∀ v P H', New K M H d v P H' → Q v H') → r vs H Q

/-! ### readings -/
def XWish (X : Cx) (W : WX) (Fr : Own) (own : Nat → Own) (σ : L2.St) (H : Hp) (x : XD) (e' : Sl) : Prop :=
  ∀ c dx own' H', Went X.K Fr own H e' own' σ H' → XRel X.K X.mg (Mof Fr own') H' x c dx → W c dx σ H'
def VWish (X : Cx) (Fr : Own) (own : Nat → Own) (σ : L2.St) (H : Hp) (d : D) (e' : Sl) (Q : VK) : Prop :=
  ∀ v P own' H', Got X.K Fr own H e' own' σ H' d v P → Q v H'
def RWish (X : Cx) (W : WX) (Fr : Own) (own : Nat → Own) (σ : L2.St) (H : Hp) (r : ER) (Q : VK) : Prop :=
  match r with
  | .ok d e' => VWish X Fr own σ H d e' Q
  | .exc x e' => XWish X W Fr own σ H x e'
def tM (X : Cx) (W : WX) (m : ME) : TE := fun σ H Q => ∃ Fr e own r, Rep X.K Fr e own σ H ∧ m e = some r ∧ RWish X W Fr own σ H r Q
/-- an expression that leaves all as it was and gives what owns nothing -/
def tI (X : Cx) (m : MI) : TE := fun σ H Q => ∃ Fr e own d, Rep X.K Fr e own σ H ∧ m e = some d ∧
  ∀ v H', Rel X.K (Mof Fr own) H' d v nobody → (∀ a o, H a = some o → H' a = some o) → Q v H'
theorem peImp {X : Cx} {e : Expr} {t t' : TE} (h : PE X e t) (w : ∀ σ H Q, t' σ H Q → t σ H Q) : PE X e t' := ⟨fun pins s σ H Q I q => h.run pins s σ H Q I (w σ H Q q)⟩

/-! ### rows of operands: names are read where the operation stands -/
inductive Ar where
  | nm (i : Nat) | pt (i : Nat) (k : D) | il (m : MI) | vl (m : ME)
inductive AV where
  | nm (i : Nat) | pt (i : Nat) (k : D) | v (d : D)
inductive AR where
  | ok (l : List AV) (e : Sl)
  | exc (x : XD) (e : Sl)
/-- two keys alike (ints and texts) -/
def sameKey : D → D → Bool
  | .int i, .int j => i == j
  | .str s, .str t => decide (s = t)
  | _, _ => false
def lookD (k : D) : List (D × D) → Option D
  | [] => none
  | (j, d) :: l => if sameKey k j then some d else lookD k l
def kid : D → D → Option D
  | .lst true l, .int n => if 0 ≤ n then l[n.toNat]? else none
  | .dct true l, .str s => lookD (.str s) l
  | _, _ => none
def slot (e : Sl) (i : Nat) : Option D := (e[i]?).join
def Ar.inert : Ar → Bool
  | .vl _ => false
  | _ => true
/-- inert operands -/
def evI : List Ar → Sl → Option (List AV)
  | [], _ => some []
  | .nm i :: r, e => (slot e i).bind fun _ => (evI r e).bind fun l => some (.nm i :: l)
  | .pt i k :: r, e => ((slot e i).bind fun d => kid d k).bind fun _ => (evI r e).bind fun l => some (.pt i k :: l)
  | .il m :: r, e => (m e).bind fun d => (evI r e).bind fun l => some (.v d :: l)
  | .vl _ :: _, _ => none
def arCons (a : AV) : AR → AR
  | .ok l e => .ok (a :: l) e
  | .exc x e => .exc x e
def evA : List Ar → Sl → Option AR
  | [], e => some (.ok [] e)
  | .nm i :: r, e => (slot e i).bind fun _ => (evA r e).bind fun q => some (arCons (.nm i) q)
  | .pt i k :: r, e => (evI (.pt i k :: r) e).bind fun l => some (.ok l e)
  | .il m :: r, e => (m e).bind fun d => (evA r e).bind fun q => some (arCons (.v d) q)
  | .vl m :: r, e => (m e).bind fun q => match q with
    | .ok d e1 => (evA r e1).bind fun q => some (arCons (.v (settle d)) q)
    | .exc x e1 => some (.exc x e1)
def resolve (e : Sl) : AV → Option D
  | .nm i => slot e i
  | .pt i k => (slot e i).bind fun d => kid d k
  | .v d => some d
def resolves (e : Sl) : List AV → Option (List D)
  | [] => some []
  | a :: l => (resolve e a).bind fun d => (resolves e l).bind fun ds => some (d :: ds)

/-- the k-th part of what stands at v -/
def Kid (H : Hp) (v : V) (k : D) (c : V) : Prop :=
  match k with
  | .int n => ∃ a vs, v = .ref a ∧ H a = some (.lst vs) ∧ 0 ≤ n ∧ vs[n.toNat]? = some c
  | .str s => ∃ a kvs, v = .ref a ∧ H a = some (.dK kvs) ∧ valV kvs (Sum.inr s : Key) = some c
  | _ => False
def tPt (i : Nat) (k : D) : TE := fun σ H Q => ∃ v c, σ[i]? = some (some v) ∧ Kid H v k c ∧ Q c H
def tOpnd (X : Cx) (W : WX) : Ar → TE
  | .nm i => tVar i
  | .pt i k => tPt i k
  | .il m => tI X m
  | .vl m => tM X W m
def tAs (X : Cx) (W : WX) : List Ar → TA
  | [] => tNil
  | a :: r => tCons (tOpnd X W a) (tAs X W r)
/-- what an evaluated operand stands for -/
def ArgRel (K : PySem.W.Frag) (M : Own) (σ : L2.St) (H : Hp) : AV → V → Prop
  | .nm i, v => σ[i]? = some (some v)
  | .pt i k, v => ∃ w, σ[i]? = some (some w) ∧ Kid H w k v
  | .v d, v => Rel K M H d v nobody
end Ow

set_option Elab.async false
set_option autoImplicit false
set_option linter.all false
set_option maxRecDepth 100000
/-! Ow, part 3: operands are read as their meaning says; operations on them. -/
namespace Ow
open PySem PySem.Spec PyProof.Rows L2

section
variable {X : Cx} {W : WX} {K : PySem.W.Frag} {M Fr : Own} {e e' : Sl} {own own' : Nat → Own} {σ : L2.St} {H H' : Hp} {d c : D} {v : V}
theorem slot_eq {i : Nat} : slot e i = some d ↔ e[i]? = some (some d) := by
  unfold slot
  cases h : e[i]? with
  | none => simp
  | some x => cases x <;> simp
theorem Rep.at (r : Rep K Fr e own σ H) {i : Nat} (h : slot e i = some d) : ∃ v, σ[i]? = some (some v) ∧ Rel K (Mof Fr own) H d v (own i) := r.sl i d (slot_eq.mp h)
theorem ext_keep (x : ∀ a o, H a = some o → H' a = some o) : Keep M M H H' := fun a o n h => ⟨x a o h, n⟩
theorem Rep.ext (r : Rep K Fr e own σ H) (x : ∀ a o, H a = some o → H' a = some o) : Rep K Fr e own σ H' := by
  have same : ∀ a, Mof Fr own a → H' a = H a := fun a h => by
    cases q : H a with
    | none => exact absurd q (r.tr a h)
    | some o => exact x a o q
  refine ⟨r.len, fun i d h => ?_, r.dj, r.fr, fun a h => by rw [same a h]; exact r.tr a h⟩
  obtain ⟨v, h1, h2⟩ := r.sl i d h
  exact ⟨v, h1, h2.keep (ext_keep x) fun a ha => same a (.inr ⟨i, ha⟩)⟩
theorem Rep.grown (r : Rep K Fr e own σ H) (x : ∀ a o, H a = some o → H' a = some o) : Went K Fr own H e own σ H' :=
  ⟨r.ext x, ext_keep x, fun a h => by
    cases q : H a with
    | none => exact absurd q (r.tr a (.inl h))
    | some o => exact x a o q⟩
theorem Kid.ext {k : D} (x : ∀ a o, H a = some o → H' a = some o) {u : V} (h : Kid H v k u) : Kid H' v k u := by
  unfold Kid at h ⊢
  split at h
  · obtain ⟨a, vs, h1, h2, h3⟩ := h
    exact ⟨a, vs, h1, x _ _ h2, h3⟩
  · obtain ⟨a, kvs, h1, h2, h3⟩ := h
    exact ⟨a, kvs, h1, x _ _ h2, h3⟩
  · exact h
theorem ArgRel.ext (x : ∀ a o, H a = some o → H' a = some o) : ∀ {a : AV} {v : V}, ArgRel K M σ H a v → ArgRel K M σ H' a v
  | .nm _, _, h => h
  | .pt _ _, _, ⟨w, h1, h2⟩ => ⟨w, h1, h2.ext x⟩
  | .v d, _, h => Rel.keep (d := d) (ext_keep x) (fun _ z => z.elim) h

theorem Rels.get : ∀ {l : List D} {vs : List V} {f : Nat → Own} {n : Nat}, Rels K M H l vs f → l[n]? = some d → ∃ v, vs[n]? = some v ∧ Rel K M H d v (f n)
  | [], _, _, _, _, h => by simp at h
  | x :: l, _, f, 0, h, e => by
    unfold Rels at h
    obtain ⟨v, r, rfl, h1, h2⟩ := h
    simp at e
    subst e
    exact ⟨v, rfl, h1⟩
  | x :: l, _, f, n + 1, h, e => by
    unfold Rels at h
    obtain ⟨v, r, rfl, h1, h2⟩ := h
    obtain ⟨u, h3, h4⟩ := Rels.get (n := n) h2 (by simpa using e)
    exact ⟨u, by simpa using h3, h4⟩
theorem Rels.len : ∀ {l : List D} {vs : List V} {f : Nat → Own}, Rels K M H l vs f → l.length = vs.length
  | [], _, _, h => by unfold Rels at h; rw [h]; rfl
  | x :: l, _, f, h => by
    unfold Rels at h
    obtain ⟨v, r, rfl, h1, h2⟩ := h
    simp [Rels.len h2]
theorem Relk.len : ∀ {l : List (D × D)} {ks : List D} {vs : List V} {f : Nat → Own}, Relk K M H l ks vs f → ks = l.map (·.1) ∧ l.length = vs.length
  | [], _, _, _, h => by unfold Relk at h; obtain ⟨h1, h2⟩ := h; subst h1 h2; exact ⟨rfl, rfl⟩
  | (k, x) :: l, _, _, f, h => by
    unfold Relk at h
    obtain ⟨kr, v, r, rfl, rfl, h1, h2⟩ := h
    obtain ⟨h3, h4⟩ := Relk.len h2
    exact ⟨by simp [h3], by simp [h4]⟩
theorem sameKey_iff : ∀ {q q' : Key}, sameKey (keyD q) (keyD q') = decide (q' = q)
  | .inl i, .inl j => by
    unfold keyD sameKey
    by_cases h : i = j
    · subst h; simp
    · have h2 : ¬ (Sum.inl j : Key) = Sum.inl i := fun z => h (Sum.inl.inj z).symm
      rw [decide_eq_false h2]; simp [h]
  | .inr i, .inr j => by
    unfold keyD sameKey
    by_cases h : i = j
    · subst h; simp
    · have h2 : ¬ (Sum.inr j : Key) = Sum.inr i := fun z => h (Sum.inr.inj z).symm
      rw [decide_eq_false h2]; simp [h]
  | .inl i, .inr j => by unfold keyD sameKey; simp
  | .inr i, .inl j => by unfold keyD sameKey; simp
theorem lookD_val : ∀ {kvs : List (Key × V)} {l : List (D × D)} {f : Nat → Own} {q : Key}, Relk K M H l (kvs.map fun p => keyD p.1) (kvs.map (·.2)) f →
    (∀ d, lookD (keyD q) l = some d → ∃ v n, valV kvs q = some v ∧ Rel K M H d v (f n)) ∧ (lookD (keyD q) l = none → valV kvs q = none)
  | [], [], _, _, _ => ⟨fun _ h => by simp [lookD] at h, fun _ => rfl⟩
  | [], _ :: _, _, _, h => by unfold Relk at h; obtain ⟨_, _, _, h1, _⟩ := h; simp at h1
  | _ :: _, [], _, _, h => by unfold Relk at h; simp at h
  | (j, u) :: kvs, (k, x) :: l, f, q, h => by
    unfold Relk at h
    obtain ⟨kr, v, r, h1, h2, h3, h4⟩ := h
    simp only [List.map_cons, List.cons.injEq] at h1 h2
    obtain ⟨h1a, h1b⟩ := h1
    obtain ⟨h2a, h2b⟩ := h2
    subst h1b h2b h1a h2a
    have ih := lookD_val (q := q) h4
    unfold lookD
    rw [sameKey_iff]
    by_cases e : j = q
    · subst e
      have hv : valV ((j, u) :: kvs) j = some u := by unfold valV; rw [List.find?_cons_of_pos (by simp)]; rfl
      refine ⟨fun d hd => ?_, fun hd => ?_⟩
      · simp at hd
        subst hd
        exact ⟨u, 0, hv, h3⟩
      · simp at hd
    · have hv : valV ((j, u) :: kvs) q = valV kvs q := by unfold valV; rw [List.find?_cons_of_neg (by simpa using e)]
      rw [hv]
      simp only [e, decide_false, Bool.false_eq_true, if_false]
      refine ⟨fun d hd => ?_, ih.2⟩
      obtain ⟨v, n, h5, h6⟩ := ih.1 d hd
      exact ⟨v, n + 1, h5, h6⟩

/-- a part of what is owned -/
theorem kid_rel {k : D} {P : Own} {w : V} (h : Rel K M H d w P) (hk : kid d k = some c) (hv : Kid H w k v) : RelAny K M H c v := by
  unfold kid at hk
  split at hk
  · rename_i l n
    unfold Rel at h
    obtain ⟨a, vs, f, rfl, h1, _, _, h2⟩ := h
    obtain ⟨a', vs', e1, e2, e4, e5⟩ := hv
    cases e1
    rw [h1] at e2; cases e2
    rw [if_pos e4] at hk
    obtain ⟨u, h3, h4⟩ := h2.get hk
    rw [e5] at h3; cases h3
    exact ⟨_, h4⟩
  · rename_i l s
    unfold Rel at h
    obtain ⟨a, ks, vs, f, rfl, h1, _, _, h2⟩ := h
    obtain ⟨a', kvs, e1, e2, e4⟩ := hv
    cases e1
    rcases h1 with ⟨kvs', h1, rfl, rfl⟩ | ⟨_, h1, _⟩
    · rw [h1] at e2; cases e2
      obtain ⟨u, n, h3, h4⟩ := (lookD_val (q := Sum.inr s) h2).1 c hk
      rw [e4] at h3; cases h3
      exact ⟨_, h4⟩
    · rw [h1] at e2; cases e2
  · cases hk
/-- what is owned has the parts that its datum has -/
theorem kid_get {k : D} {P : Own} {w : V} (h : Rel K M H d w P) (hk : kid d k = some c) : ∃ v, Kid H w k v := by
  unfold kid at hk
  split at hk
  · rename_i l n
    unfold Rel at h
    obtain ⟨a, vs, f, rfl, h1, _, _, h2⟩ := h
    split at hk
    · rename_i h0
      obtain ⟨u, h3, h4⟩ := h2.get hk
      exact ⟨u, a, vs, rfl, h1, h0, h3⟩
    · cases hk
  · rename_i l s
    unfold Rel at h
    obtain ⟨a, ks, vs, f, rfl, h1, _, _, h2⟩ := h
    rcases h1 with ⟨kvs', h1, rfl, rfl⟩ | ⟨kvs', h1, rfl, rfl⟩
    · obtain ⟨u, n, h3, h4⟩ := (lookD_val (q := Sum.inr s) h2).1 c hk
      exact ⟨u, a, kvs', rfl, h1, h3⟩
    · exfalso
      -- its keys are tuples
      have hks := (Relk.len h2).1
      have no : ∀ (l : List (D × D)), (∀ p ∈ l, ∃ t, p.1 = D.tup t) → lookD (.str s) l = none := by
        intro l
        induction l with
        | nil => intro _; rfl
        | cons p l ih =>
          intro hp
          obtain ⟨t, ht⟩ := hp p List.mem_cons_self
          obtain ⟨p1, p2⟩ := p
          simp only at ht
          subst ht
          unfold lookD
          have e : sameKey (.str s) (D.tup t) = false := rfl
          rw [e]
          simpa using ih fun p' hp' => hp p' (List.mem_cons_of_mem _ hp')
      rw [no l (fun p hp => ?_)] at hk
      · cases hk
      · have : p.1 ∈ l.map (·.1) := List.mem_map_of_mem hp
        rw [← hks] at this
        obtain ⟨z, _, hz⟩ := List.mem_map.mp this
        exact ⟨_, hz.symm⟩
  · cases hk
end

/-! ### rows of operands -/
section
variable {X : Cx} {W : WX} {Fr : Own} {σ : L2.St}
theorem evI_read : ∀ {ars : List Ar} {e : Sl} {own : Nat → Own} {H : Hp} {l : List AV} {Q : List V → Hp → Prop}, Rep X.K Fr e own σ H → evI ars e = some l →
    (∀ vs H', (∀ a o, H a = some o → H' a = some o) → Paired (ArgRel X.K (Mof Fr own) σ H') l vs → Q vs H') → tAs X W ars σ H Q
  | [], e, own, H, l, Q, r, h, q => by
    unfold evI at h
    cases h
    exact q [] H (fun _ _ z => z) .nil
  | .nm i :: ars, e, own, H, l, Q, r, h, q => by
    unfold evI at h
    obtain ⟨d, h1, h⟩ := Option.bind_eq_some_iff.mp h
    obtain ⟨l', h2, h⟩ := Option.bind_eq_some_iff.mp h
    cases h
    obtain ⟨v, h3, h4⟩ := r.at h1
    exact ⟨v, h3, evI_read r h2 fun vs H' x p => q (v :: vs) H' x (.cons h3 p)⟩
  | .pt i k :: ars, e, own, H, l, Q, r, h, q => by
    unfold evI at h
    obtain ⟨c, h1, h⟩ := Option.bind_eq_some_iff.mp h
    obtain ⟨d, h0, h1⟩ := Option.bind_eq_some_iff.mp h1
    obtain ⟨l', h2, h⟩ := Option.bind_eq_some_iff.mp h
    cases h
    obtain ⟨v, h3, h4⟩ := r.at h0
    obtain ⟨u, h5⟩ := kid_get h4 h1
    exact ⟨v, u, h3, h5, evI_read r h2 fun vs H' x p => q (u :: vs) H' x (.cons ⟨v, h3, h5.ext x⟩ p)⟩
  | .il m :: ars, e, own, H, l, Q, r, h, q => by
    unfold evI at h
    obtain ⟨d, h1, h⟩ := Option.bind_eq_some_iff.mp h
    obtain ⟨l', h2, h⟩ := Option.bind_eq_some_iff.mp h
    cases h
    refine ⟨Fr, e, own, d, r, h1, fun v H1 hv x1 => ?_⟩
    exact evI_read (r.ext x1) h2 fun vs H' x p => q (v :: vs) H' (fun a o z => x a o (x1 a o z)) (.cons (Rel.keep (d := d) (ext_keep x) (fun _ z => z.elim) hv) p)
  | .vl m :: ars, e, own, H, l, Q, r, h, q => by
    unfold evI at h
    cases h
theorem evA_read : ∀ {ars : List Ar} {e : Sl} {own : Nat → Own} {H : Hp} {q : AR} {Q : List V → Hp → Prop}, Rep X.K Fr e own σ H → evA ars e = some q →
    (match q with
      | .ok l e' => ∀ vs own' H', Went X.K Fr own H e' own' σ H' → Paired (ArgRel X.K (Mof Fr own') σ H') l vs → Q vs H'
      | .exc x e' => XWish X W Fr own σ H x e') → tAs X W ars σ H Q
  | [], e, own, H, q, Q, r, h, hq => by
    unfold evA at h
    cases h
    exact hq [] own H r.refl .nil
  | .nm i :: ars, e, own, H, q, Q, r, h, hq => by
    unfold evA at h
    obtain ⟨d, h1, h⟩ := Option.bind_eq_some_iff.mp h
    obtain ⟨q', h2, h⟩ := Option.bind_eq_some_iff.mp h
    cases h
    obtain ⟨v, h3, h4⟩ := r.at h1
    refine ⟨v, h3, evA_read r h2 ?_⟩
    cases q' with
    | ok l e' => exact fun vs own' H' w p => hq (v :: vs) own' H' w (.cons h3 p)
    | exc x e' => exact hq
  | .pt i k :: ars, e, own, H, q, Q, r, h, hq => by
    unfold evA at h
    obtain ⟨l, h1, h⟩ := Option.bind_eq_some_iff.mp h
    cases h
    exact evI_read r h1 fun vs H' x p => hq vs own H' (r.grown x) p
  | .il m :: ars, e, own, H, q, Q, r, h, hq => by
    unfold evA at h
    obtain ⟨d, h1, h⟩ := Option.bind_eq_some_iff.mp h
    obtain ⟨q', h2, h⟩ := Option.bind_eq_some_iff.mp h
    cases h
    refine ⟨Fr, e, own, d, r, h1, fun v H1 hv x1 => ?_⟩
    have w1 := r.grown x1
    refine evA_read w1.rep h2 ?_
    cases q' with
    | ok l e' => exact fun vs own' H' w p => hq (v :: vs) own' H' (w1.trans w) (.cons (Rel.carry w hv) p)
    | exc x e' => exact fun c dx own' H' w xr => hq c dx own' H' (w1.trans w) xr
  | .vl m :: ars, e, own, H, q, Q, r, h, hq => by
    unfold evA at h
    obtain ⟨q1, h1, h⟩ := Option.bind_eq_some_iff.mp h
    refine ⟨Fr, e, own, q1, r, h1, ?_⟩
    cases q1 with
    | exc x e1 =>
      cases h
      exact hq
    | ok d e1 =>
      obtain ⟨q', h2, h⟩ := Option.bind_eq_some_iff.mp h
      cases h
      intro v P own1 H1 g
      obtain ⟨w1, hv⟩ := g.frozen
      refine evA_read w1.rep h2 ?_
      cases q' with
      | ok l e' => exact fun vs own' H' w p => hq (v :: vs) own' H' (w1.trans w) (.cons (Rel.carry w (hv nobody)) p)
      | exc x e' => exact fun c dx own' H' w xr => hq c dx own' H' (w1.trans w) xr

theorem resolve_rel {K : PySem.W.Frag} {e : Sl} {own : Nat → Own} {H : Hp} (r : Rep K Fr e own σ H) : ∀ {a : AV} {v : V} {d : D}, ArgRel K (Mof Fr own) σ H a v → resolve e a = some d → RelAny K (Mof Fr own) H d v
  | .nm i, v, d, h, q => by
    obtain ⟨u, h1, h2⟩ := r.at (d := d) q
    have h' : σ[i]? = some (some v) := h
    rw [h1] at h'; cases h'
    exact ⟨_, h2⟩
  | .pt i k, v, d, ⟨w, h1, h2⟩, q => by
    unfold resolve at q
    obtain ⟨c, q1, q2⟩ := Option.bind_eq_some_iff.mp q
    obtain ⟨u, h3, h4⟩ := r.at q1
    rw [h1] at h3; cases h3
    exact kid_rel h4 q2 h2
  | .v d', v, d, h, q => by
    unfold resolve at q
    cases q
    exact ⟨_, h⟩
theorem resolves_rel {K : PySem.W.Frag} {e : Sl} {own : Nat → Own} {H : Hp} (r : Rep K Fr e own σ H) : ∀ {l : List AV} {vs : List V} {ds : List D}, Paired (ArgRel K (Mof Fr own) σ H) l vs → resolves e l = some ds → Paired (RelAny K (Mof Fr own) H) ds vs
  | [], _, ds, .nil, q => by unfold resolves at q; cases q; exact .nil
  | a :: l, _, ds, .cons h t, q => by
    unfold resolves at q
    obtain ⟨d, q1, q⟩ := Option.bind_eq_some_iff.mp q
    obtain ⟨ds', q2, q⟩ := Option.bind_eq_some_iff.mp q
    cases q
    exact .cons (resolve_rel r h q1) (resolves_rel r t q2)
end

/-! ### an operation on operands -/
/-- the operation g on the operands' data: a new value -/
def mB (g : List D → Option D) (ars : List Ar) : ME := fun e => (evA ars e).bind fun q => match q with
  | .ok l e' => (resolves e' l).bind fun ds => (g ds).bind fun d => some (.ok d e')
  | .exc x e' => some (.exc x e')
def iB (g : List D → Option D) (ars : List Ar) : MI := fun e => (evI ars e).bind fun l => (resolves e l).bind fun ds => (g ds).bind fun d => some (settle d)
section
variable {X : Cx} {W : WX} {σ : L2.St} {H : Hp} {Q : VK} {ars : List Ar} {g : List D → Option D} {r : List V → Hp → VK → Prop}
theorem mB_read (m : Meets X.K r g) (h : tM X W (mB g ars) σ H Q) : tAs X W ars σ H fun vs H1 => r vs H1 Q := by
  obtain ⟨Fr, e, own, q, rp, h1, h2⟩ := h
  unfold mB at h1
  obtain ⟨a, h3, h1⟩ := Option.bind_eq_some_iff.mp h1
  refine evA_read rp h3 ?_
  cases a with
  | exc x e' =>
    cases h1
    exact h2
  | ok l e' =>
    obtain ⟨ds, h4, h1⟩ := Option.bind_eq_some_iff.mp h1
    obtain ⟨d, h5, h1⟩ := Option.bind_eq_some_iff.mp h1
    cases h1
    intro vs own' H' w p
    refine m (Mof _ own') H' ds vs d Q w.rep.tr (resolves_rel w.rep p h4) h5 fun v P H2 n => ?_
    exact h2 v P own' H2 (w.got (n.got w.rep))
theorem iB_read (m : Meets X.K r g) (h : tI X (iB g ars) σ H Q) : tAs X W ars σ H fun vs H1 => r vs H1 Q := by
  obtain ⟨Fr, e, own, d', rp, h1, h2⟩ := h
  unfold iB at h1
  obtain ⟨l, h3, h1⟩ := Option.bind_eq_some_iff.mp h1
  obtain ⟨ds, h4, h1⟩ := Option.bind_eq_some_iff.mp h1
  obtain ⟨d, h5, h1⟩ := Option.bind_eq_some_iff.mp h1
  cases h1
  refine evI_read rp h3 fun vs H' x p => ?_
  have rp' := rp.ext x
  refine m (Mof Fr own) H' ds vs d Q rp'.tr (resolves_rel rp' p h4) h5 fun v P H2 n => ?_
  have gg := (n.got rp').frozen
  exact h2 v H2 (gg.2 nobody) fun a o z => n.ext a o (x a o z)
/-- readings may ask less -/
theorem tOpnd_mono {a : Ar} {Q Q' : VK} (h : tOpnd X W a σ H Q) (w : ∀ v H, Q v H → Q' v H) : tOpnd X W a σ H Q' := by
  cases a with
  | nm i => obtain ⟨v, h1, h2⟩ := h; exact ⟨v, h1, w _ _ h2⟩
  | pt i k => obtain ⟨v, c, h1, h2, h3⟩ := h; exact ⟨v, c, h1, h2, w _ _ h3⟩
  | il m => obtain ⟨Fr, e, own, d, h1, h2, h3⟩ := h; exact ⟨Fr, e, own, d, h1, h2, fun v H' a b => w _ _ (h3 v H' a b)⟩
  | vl m =>
    obtain ⟨Fr, e, own, r, h1, h2, h3⟩ := h
    refine ⟨Fr, e, own, r, h1, h2, ?_⟩
    cases r with
    | ok d e' => exact fun v P own' H' z => w _ _ (h3 v P own' H' z)
    | exc x e' => exact h3
end
/-- a rule on two values, as one on a row -/
def r2 (r : R2) : List V → Hp → VK → Prop := fun vs H Q => ∃ x y, vs = [x, y] ∧ r x y H Q
def r1 (r : V → Hp → VK → Prop) : List V → Hp → VK → Prop := fun vs H Q => ∃ x, vs = [x] ∧ r x H Q
section
variable {X : Cx} {W : WX} {σ : L2.St} {H : Hp} {Q : VK} {a b c : Ar} {g : List D → Option D} {r : R2} {r' : V → Hp → VK → Prop}
theorem as2 (h : tAs X W [a, b] σ H fun vs H1 => r2 r vs H1 Q) : tOp r (tOpnd X W a) (tOpnd X W b) σ H Q := by
  refine tOpnd_mono h fun x H1 h1 => tOpnd_mono h1 fun y H2 h2 => ?_
  obtain ⟨x', y', e, q⟩ := h2
  cases e
  exact q
theorem as1 (h : tAs X W [a] σ H fun vs H1 => r1 r' vs H1 Q) : tUn r' (tOpnd X W a) σ H Q := by
  refine tOpnd_mono h fun x H1 h1 => ?_
  obtain ⟨x', e, q⟩ := h1
  cases e
  exact q
end
end Ow

set_option Elab.async false
set_option autoImplicit false
set_option linter.all false
set_option maxRecDepth 100000
/-! Ow, part 4: operations by values: what they give, told of data. -/
namespace Ow
open PySem PySem.Spec PyProof.Rows L2

section
variable {K : PySem.W.Frag} {M : Own} {H H' : Hp} {v : V}
theorem any_int {i : Int} : RelAny K M H (.int i) v ↔ v = .int i := ⟨fun ⟨_, h⟩ => by unfold Rel at h; exact h, fun h => ⟨nobody, by unfold Rel; exact h⟩⟩
theorem any_bl {b : Bool} : RelAny K M H (.bl b) v ↔ v = .bl b := ⟨fun ⟨_, h⟩ => by unfold Rel at h; exact h, fun h => ⟨nobody, by unfold Rel; exact h⟩⟩
theorem any_str {s : Str} : RelAny K M H (.str s) v ↔ v = .str s := ⟨fun ⟨_, h⟩ => by unfold Rel at h; exact h, fun h => ⟨nobody, by unfold Rel; exact h⟩⟩
theorem any_non : RelAny K M H .non v ↔ v = .non := ⟨fun ⟨_, h⟩ => by unfold Rel at h; exact h, fun h => ⟨nobody, by unfold Rel; exact h⟩⟩
theorem any_tup {l : List D} (h : RelAny K M H (.tup l) v) : ∃ a vs, v = .ref a ∧ TupAt K M H a vs ∧ Rels K M H l vs nobodies := by
  obtain ⟨_, h⟩ := h; unfold Rel at h; exact h
theorem any_far {l : List D} (h : RelAny K M H (.far l) v) : ∃ a vs, v = .ref a ∧ FarAt K M H a vs ∧ Rels K M H l vs nobodies := by
  obtain ⟨_, h⟩ := h; unfold Rel at h; exact h
theorem any_lst {o : Bool} {l : List D} (h : RelAny K M H (.lst o l) v) : ∃ a vs f, v = .ref a ∧ H a = some (.lst vs) ∧ Rels K M H l vs f := by
  obtain ⟨P, h⟩ := h
  cases o with
  | false => unfold Rel at h; obtain ⟨a, vs, e, h1, h2⟩ := h; exact ⟨a, vs, _, e, h1.2, h2⟩
  | true => unfold Rel at h; obtain ⟨a, vs, f, e, h1, _, _, h2⟩ := h; exact ⟨a, vs, f, e, h1, h2⟩
theorem Rels.flat : ∀ {l : List D} {vs : List V} {f f' : Nat → Own}, flats l = true → Rels K M H l vs f → Rels K M H l vs f'
  | [], _, _, _, _, h => by unfold Rels at h ⊢; exact h
  | d :: l, _, _, _, z, h => by
    unfold flats at z
    rw [Bool.and_eq_true] at z
    unfold Rels at h ⊢
    obtain ⟨v, r, e, h1, h2⟩ := h
    exact ⟨v, r, e, Rel.flat z.1 h1, Rels.flat z.2 h2⟩
theorem any_lstF {o : Bool} {l : List D} (h : RelAny K M H (.lst o l) v) (z : flats l = true) : ∃ a vs, v = .ref a ∧ H a = some (.lst vs) ∧ Rels K M H l vs nobodies := by
  obtain ⟨a, vs, f, e, h1, h2⟩ := any_lst h
  exact ⟨a, vs, e, h1, h2.flat z⟩
theorem Rels.app : ∀ {l l' : List D} {vs vs' : List V}, Rels K M H l vs nobodies → Rels K M H l' vs' nobodies → Rels K M H (l ++ l') (vs ++ vs') nobodies
  | [], _, _, _, h, h' => by unfold Rels at h; rw [h]; exact h'
  | d :: l, _, _, _, h, h' => by
    unfold Rels at h
    obtain ⟨v, r, rfl, h1, h2⟩ := h
    show Rels K M H (d :: (l ++ _)) (v :: (r ++ _)) nobodies
    unfold Rels
    exact ⟨v, _, rfl, h1, Rels.app h2 h'⟩
theorem Rels.of_get : ∀ {l : List D} {vs : List V}, l.length = vs.length → (∀ (n : Nat) d v, l[n]? = some d → vs[n]? = some v → Rel K M H d v nobody) → Rels K M H l vs nobodies
  | [], [], _, _ => by unfold Rels; rfl
  | [], _ :: _, h, _ => by simp at h
  | _ :: _, [], h, _ => by simp at h
  | d :: l, v :: vs, h, g => by
    unfold Rels
    exact ⟨v, vs, rfl, g 0 d v rfl rfl, Rels.of_get (by simpa using h) fun n d' v' h1 h2 => g (n + 1) d' v' (by simpa using h1) (by simpa using h2)⟩
/-- a part of a row picked by places, the same on both sides -/
theorem Rels.pick {l l' : List D} {vs vs' : List V} (h : Rels K M H l vs nobodies) (hl : l'.length = vs'.length) (g : ∀ n : Nat, n < l'.length → ∃ m : Nat, l'[n]? = l[m]? ∧ vs'[n]? = vs[m]?) : Rels K M H l' vs' nobodies := by
  refine Rels.of_get hl fun n d v h1 h2 => ?_
  obtain ⟨hn, _⟩ := List.getElem?_eq_some_iff.mp h1
  obtain ⟨m, e1, e2⟩ := g n hn
  obtain ⟨u, e3, h4⟩ := h.get (e1.symm.trans h1)
  rw [e2, e3] at h2
  cases h2
  exact h4
theorem flats_app {l l' : List D} (h : flats l = true) (h' : flats l' = true) : flats (l ++ l') = true := by
  induction l with
  | nil => exact h'
  | cons d l ih =>
    unfold flats at h
    rw [Bool.and_eq_true] at h
    show flats (d :: (l ++ l')) = true
    unfold flats
    rw [Bool.and_eq_true]
    exact ⟨h.1, ih h.2⟩
theorem flats_iff {l : List D} : flats l = true ↔ ∀ d ∈ l, flat d = true := by
  induction l with
  | nil => unfold flats; simp
  | cons d l ih => unfold flats; rw [Bool.and_eq_true, ih]; simp

/-! ### new objects -/
theorem new_lst {p : Addr} {l : List D} {vs : List V} (tr : ∀ a, M a → H a ≠ none) (hp : H p = none) (r : Rels K M H l vs nobodies) : New K M H (.lst true l) (.ref p) (fun a => a = p) (upd H p (.lst vs)) := by
  have ext : ∀ a o, H a = some o → (upd H p (.lst vs)) a = some o := fun a o h => by rw [upd_ne (ne_of_none h hp)]; exact h
  have k : Keep M (fun a => M a ∨ a = p) H (upd H p (.lst vs)) := fun a o n h => ⟨ext a o h, fun q => q.elim n (fun e => by subst e; rw [hp] at h; cases h)⟩
  refine ⟨?_, ext, fun a h => by rw [h]; exact hp, fun a h => by rw [h, upd_same]; simp⟩
  unfold Rel
  exact ⟨p, vs, nobodies, rfl, upd_same, rfl, ⟨fun _ _ z => z.elim, fun _ _ z => z.elim, fun _ _ _ z => z.elim⟩, r.keep k fun _ _ z => z.elim⟩
theorem new_tup {p : Addr} {l : List D} {vs : List V} (tr : ∀ a, M a → H a ≠ none) (hp : H p = none) (r : Rels K M H l vs nobodies) : New K M H (.tup l) (.ref p) nobody (upd H p (.tup vs)) := by
  have ext : ∀ a o, H a = some o → (upd H p (.tup vs)) a = some o := fun a o h => by rw [upd_ne (ne_of_none h hp)]; exact h
  have k : Keep M (fun a => M a ∨ nobody a) H (upd H p (.tup vs)) := fun a o n h => ⟨ext a o h, fun q => q.elim n fun z => z⟩
  refine ⟨?_, ext, fun a h => h.elim, fun a h => h.elim⟩
  unfold Rel
  exact ⟨p, vs, rfl, .inl ⟨fun q => q.elim (fun q => tr p q hp) fun z => z, .inl upd_same⟩, r.keep k fun _ _ z => z.elim⟩
theorem new_int {i : Int} : New K M H (.int i) (.int i) nobody H := .same (by unfold Rel; rfl)
theorem new_bl {b : Bool} : New K M H (.bl b) (.bl b) nobody H := .same (by unfold Rel; rfl)
theorem new_str {s : Str} : New K M H (.str s) (.str s) nobody H := .same (by unfold Rel; rfl)
theorem new_non : New K M H .non .non nobody H := .same (by unfold Rel; rfl)

/-! ### data as the library's data -/
mutual
def py : D → PyData
  | .non => .none
  | .bl b => .bool b
  | .int i => .int i
  | .str s => .str s
  | .tup l => .tuple (pys l)
  | .far l => .list (pys l)
  | .lst _ l => .list (pys l)
  | .dct _ l => .dict (pyk l)
def pys : List D → List PyData
  | [] => []
  | d :: l => py d :: pys l
def pyk : List (D × D) → List (PyData × PyData)
  | [] => []
  | (k, d) :: l => (py k, py d) :: pyk l
end
mutual
/-- no dict in it -/
def noDct : D → Bool
  | .tup l => noDcts l
  | .far l => noDcts l
  | .lst _ l => noDcts l
  | .dct _ _ => false
  | .non => true
  | .bl _ => true
  | .int _ => true
  | .str _ => true
def noDcts : List D → Bool
  | [] => true
  | d :: l => noDct d && noDcts l
end
mutual
theorem Rel.dp : ∀ {d : D} {v : V} {P : Own}, noDct d = true → Rel K M H d v P → Dp K H v (py d)
  | .non, _, _, _, h => by unfold Rel at h; subst h; unfold py; exact .non
  | .bl b, _, _, _, h => by unfold Rel at h; subst h; unfold py; exact .bl b
  | .int i, _, _, _, h => by unfold Rel at h; subst h; unfold py; exact .int i
  | .str s, _, _, _, h => by unfold Rel at h; subst h; unfold py; exact .str s
  | .tup l, _, _, z, h => by
    unfold noDct at z
    unfold Rel at h; obtain ⟨a, vs, rfl, h1, h2⟩ := h; unfold py; exact .tup h1.seq (Rels.dp z h2)
  | .far l, _, _, z, h => by
    unfold noDct at z
    unfold Rel at h; obtain ⟨a, vs, rfl, h1, h2⟩ := h; unfold py; exact .lst h1.seq (Rels.dp z h2)
  | .lst false l, _, _, z, h => by
    unfold noDct at z
    unfold Rel at h; obtain ⟨a, vs, rfl, h1, h2⟩ := h; unfold py; exact .lst h1.seq (Rels.dp z h2)
  | .lst true l, _, _, z, h => by
    unfold noDct at z
    unfold Rel at h; obtain ⟨a, vs, f, rfl, h1, _, _, h2⟩ := h; unfold py; exact .lst (SqL.of h1) (Rels.dp z h2)
  | .dct _ _, _, _, z, _ => by unfold noDct at z; cases z
theorem Rels.dp : ∀ {l : List D} {vs : List V} {f : Nat → Own}, noDcts l = true → Rels K M H l vs f → DpAll K H vs (pys l)
  | [], _, _, _, h => by unfold Rels at h; subst h; unfold pys; exact .nil
  | d :: l, _, _, z, h => by
    unfold noDcts at z
    rw [Bool.and_eq_true] at z
    unfold Rels at h
    obtain ⟨v, r, rfl, h1, h2⟩ := h
    unfold pys
    exact .cons (Rel.dp z.1 h1) (Rels.dp z.2 h2)
end
end

theorem pair2 {α β : Type} {F : α → β → Prop} {a b : α} {vs : List β} (h : Paired F [a, b] vs) : ∃ x y, vs = [x, y] ∧ F a x ∧ F b y := by
  cases h with
  | cons h1 t =>
    cases t with
    | cons h2 t => cases t; exact ⟨_, _, rfl, h1, h2⟩
theorem pair1 {α β : Type} {F : α → β → Prop} {a : α} {vs : List β} (h : Paired F [a] vs) : ∃ x, vs = [x] ∧ F a x := by
  cases h with
  | cons h1 t => cases t; exact ⟨_, rfl, h1⟩
theorem pair3 {α β : Type} {F : α → β → Prop} {a b c : α} {vs : List β} (h : Paired F [a, b, c] vs) : ∃ x y z, vs = [x, y, z] ∧ F a x ∧ F b y ∧ F c z := by
  cases h with
  | cons h1 t =>
    obtain ⟨y, z, rfl, h2, h3⟩ := pair2 t
    exact ⟨_, _, _, rfl, h1, h2, h3⟩

/-! ### what operators give -/
def big : Int := 18446744073709551616
def fitsMul (i j : Int) : Bool := (decide (-big < i) && decide (i < big)) || (decide (-big < j) && decide (j < big)) || decide (i.natAbs.log2 + j.natAbs.log2 < 1000000)
def fitsDiv (j : Int) : Bool := decide (0 < j) && (decide (j < big) || decide (j.natAbs.log2 < 9000))
def dAdd : List D → Option D
  | [.int i, .int j] => some (.int (i + j))
  | [.str s, .str t] => if s.length + t.length ≤ 16777216 then some (.str (s ++ t)) else none
  | [.lst _ l, .lst _ l'] => if flats l && flats l' && decide (l.length + l'.length ≤ 16777216) then some (.lst true (l ++ l')) else none
  | [.tup l, .tup l'] => if l.length + l'.length ≤ 16777216 then some (.tup (l ++ l')) else none
  | _ => none
def dSub : List D → Option D
  | [.int i, .int j] => some (.int (i - j))
  | _ => none
def dMul : List D → Option D
  | [.int i, .int j] => if fitsMul i j then some (.int (i * j)) else none
  | [.lst _ l, .int k] => if flats l && decide (l.length ≤ 1000) && decide (0 ≤ k) && decide (k ≤ 1000) then some (.lst true (List.replicate k.toNat l).flatten) else none
  | [.tup l, .int k] => if !l.isEmpty && decide (l.length ≤ 1000) && decide (2 ≤ k) && decide (k ≤ 1000) then some (.tup (List.replicate k.toNat l).flatten) else none
  | _ => none
def dFdiv : List D → Option D
  | [.int i, .int j] => if fitsDiv j then some (.int (i / j)) else none
  | _ => none
def dMod : List D → Option D
  | [.int i, .int j] => if 0 < j then some (.int (i % j)) else none
  | _ => none
def dPow : List D → Option D
  | [.int i, .int j] => if 0 ≤ j ∧ (Builtin.Int.intBits i : Int) * j ≤ 134217728 then some (.int (i ^ j.toNat)) else none
  | _ => none
def dShl : List D → Option D
  | [.int i, .int j] => if 0 ≤ j ∧ j ≤ 1000000 ∧ -big < i ∧ i < big then some (.int (i * 2 ^ j.toNat)) else none
  | _ => none
def dShr : List D → Option D
  | [.int i, .int j] => if 0 ≤ j then some (.int (i / 2 ^ j.toNat)) else none
  | _ => none
def dAnd : List D → Option D
  | [.int i, .int j] => some (.int (Builtin.bitAnd i j))
  | _ => none
def dOr : List D → Option D
  | [.int i, .int j] => some (.int (Builtin.bitOr i j))
  | _ => none
def dXor : List D → Option D
  | [.int i, .int j] => some (.int (Builtin.bitXor i j))
  | _ => none
def dEq : List D → Option D
  | [a, b] => if noDct a && noDct b && SeqAt.shaped (py a) && SeqAt.shaped (py b) then some (.bl (PyData.eqv (py a) (py b))) else none
  | _ => none
def dNe : List D → Option D
  | [a, b] => if noDct a && noDct b && SeqAt.shaped (py a) && SeqAt.shaped (py b) then some (.bl (!PyData.eqv (py a) (py b))) else none
  | _ => none
def dLt : List D → Option D
  | [.int i, .int j] => some (.bl (decide (i < j)))
  | _ => none
def dLe : List D → Option D
  | [.int i, .int j] => some (.bl (decide (i ≤ j)))
  | _ => none
def dGt : List D → Option D
  | [.int i, .int j] => some (.bl (decide (j < i)))
  | _ => none
def dGe : List D → Option D
  | [.int i, .int j] => some (.bl (decide (j ≤ i)))
  | _ => none
def isNonD : D → Bool
  | .non => true
  | _ => false
def dIsN : List D → Option D
  | [d, .non] => some (.bl (isNonD d))
  | _ => none
def dNotN : List D → Option D
  | [d, .non] => some (.bl (!isNonD d))
  | _ => none
def dIn : List D → Option D
  | [a, .lst _ l] => if noDct a && noDcts l && SeqAt.shaped (py a) && SeqAt.shaped (.list (pys l)) then some (.bl ((pys l).any fun z => PyData.eqv z (py a))) else none
  | _ => none
def dNotIn : List D → Option D
  | [a, .lst _ l] => if noDct a && noDcts l && SeqAt.shaped (py a) && SeqAt.shaped (.list (pys l)) then some (.bl (!(pys l).any fun z => PyData.eqv z (py a))) else none
  | _ => none

theorem le_line {n : Nat} (h : n ≤ 16777216) : n ≤ sizeLine := by rw [sizeLine_eq]; exact h
theorem bits_of_big {i : Int} (h : -big < i ∧ i < big) : -(2 ^ 64) < i ∧ i < 2 ^ 64 := by
  unfold big at h
  constructor <;> omega

section
variable {X : Cx}
def rAdd (K : PySem.W.Frag) : R2 := fun x y H Q => rI0 (fun i j => .int (i + j)) x y H Q ∨ (∃ i j, x = .str i ∧ y = .str j ∧ i.length + j.length ≤ sizeLine ∧ Q (.str (i ++ j)) H) ∨ rCat x y H Q ∨ rCatA K x y H Q
theorem op_addA : OpR X (binaryOp .Add) (rAdd X.K) := op_add.or (op_add_str.or (op_cat.or op_catA))
theorem meets_add {K : PySem.W.Frag} : Meets K (r2 (rAdd K)) dAdd := by
  intro M H ds vs d Q tr p h q
  unfold dAdd at h
  split at h
  · obtain ⟨x, y, rfl, h1, h2⟩ := pair2 p
    cases h
    exact ⟨x, y, rfl, .inl ⟨_, _, any_int.mp h1, any_int.mp h2, q _ _ _ new_int⟩⟩
  · obtain ⟨x, y, rfl, h1, h2⟩ := pair2 p
    split at h
    · rename_i z
      cases h
      exact ⟨x, y, rfl, .inr (.inl ⟨_, _, any_str.mp h1, any_str.mp h2, le_line z, q _ _ _ new_str⟩)⟩
    · cases h
  · obtain ⟨x, y, rfl, h1, h2⟩ := pair2 p
    split at h
    · rename_i z
      cases h
      simp only [Bool.and_eq_true, decide_eq_true_eq] at z
      obtain ⟨a, xs, rfl, e1, r1⟩ := any_lstF h1 z.1.1
      obtain ⟨b, ys, rfl, e2, r2'⟩ := any_lstF h2 z.1.2
      refine ⟨_, _, rfl, .inr (.inr (.inl ⟨a, b, xs, ys, rfl, rfl, e1, e2, ?_, fun p hp => q _ _ _ (new_lst tr hp (r1.app r2'))⟩))⟩
      rw [← r1.len, ← r2'.len]
      exact le_line z.2
    · cases h
  · obtain ⟨x, y, rfl, h1, h2⟩ := pair2 p
    split at h
    · rename_i l l' z
      cases h
      obtain ⟨a, xs, rfl, e1, r1⟩ := any_tup h1
      obtain ⟨b, ys, rfl, e2, r2'⟩ := any_tup h2
      refine ⟨_, _, rfl, .inr (.inr (.inr ⟨a, b, xs, ys, rfl, rfl, e1.seq, e2.seq, ?_, fun e => ?_, fun _ e => ?_, fun _ _ p hp => q _ _ _ (new_tup tr hp (r1.app r2'))⟩))⟩
      · rw [← r1.len, ← r2'.len]
        exact le_line z
      · subst e
        have : l = [] := List.eq_nil_of_length_eq_zero (by rw [r1.len]; rfl)
        subst this
        exact q _ _ _ (.same (by unfold Rel; exact ⟨b, ys, rfl, e2, r2'⟩))
      · subst e
        have : l' = [] := List.eq_nil_of_length_eq_zero (by rw [r2'.len]; rfl)
        subst this
        rw [List.append_nil] at q
        exact q _ _ _ (.same (by unfold Rel; exact ⟨a, xs, rfl, e1, r1⟩))
    · cases h
  · cases h
/-- two ints -/
theorem meets_I {K : PySem.W.Frag} {C : Int → Int → Prop} {g : Int → Int → V} {f : List D → Option D} {g' : Int → Int → D}
    (hf : ∀ ds d, f ds = some d → ∃ i j, ds = [.int i, .int j] ∧ C i j ∧ d = g' i j) (hg : ∀ M H i j, New K M H (g' i j) (g i j) nobody H) : Meets K (r2 (rI C g)) f := by
  intro M H ds vs d Q tr p h q
  obtain ⟨i, j, rfl, hc, rfl⟩ := hf ds d h
  obtain ⟨x, y, rfl, h1, h2⟩ := pair2 p
  exact ⟨x, y, rfl, i, j, any_int.mp h1, any_int.mp h2, hc, q _ _ _ (hg M H i j)⟩
theorem meets_I0 {K : PySem.W.Frag} {g : Int → Int → V} {f : List D → Option D} {g' : Int → Int → D}
    (hf : ∀ ds d, f ds = some d → ∃ i j, ds = [.int i, .int j] ∧ d = g' i j) (hg : ∀ M H i j, New K M H (g' i j) (g i j) nobody H) : Meets K (r2 (rI0 g)) f := by
  intro M H ds vs d Q tr p h q
  obtain ⟨i, j, rfl, rfl⟩ := hf ds d h
  obtain ⟨x, y, rfl, h1, h2⟩ := pair2 p
  exact ⟨x, y, rfl, i, j, any_int.mp h1, any_int.mp h2, q _ _ _ (hg M H i j)⟩
variable {K : PySem.W.Frag}
theorem meets_sub : Meets K (r2 (rI0 fun i j => .int (i - j))) dSub := meets_I0 (g' := fun i j => .int (i - j)) (fun ds d h => by unfold dSub at h; split at h <;> cases h; exact ⟨_, _, rfl, rfl⟩) fun _ _ _ _ => new_int
theorem meets_and : Meets K (r2 (rI0 fun i j => .int (Builtin.bitAnd i j))) dAnd := meets_I0 (g' := fun i j => .int (Builtin.bitAnd i j)) (fun ds d h => by unfold dAnd at h; split at h <;> cases h; exact ⟨_, _, rfl, rfl⟩) fun _ _ _ _ => new_int
theorem meets_or : Meets K (r2 (rI0 fun i j => .int (Builtin.bitOr i j))) dOr := meets_I0 (g' := fun i j => .int (Builtin.bitOr i j)) (fun ds d h => by unfold dOr at h; split at h <;> cases h; exact ⟨_, _, rfl, rfl⟩) fun _ _ _ _ => new_int
theorem meets_xor : Meets K (r2 (rI0 fun i j => .int (Builtin.bitXor i j))) dXor := meets_I0 (g' := fun i j => .int (Builtin.bitXor i j)) (fun ds d h => by unfold dXor at h; split at h <;> cases h; exact ⟨_, _, rfl, rfl⟩) fun _ _ _ _ => new_int
theorem meets_lt : Meets K (r2 (rI0 fun i j => .bl (decide (i < j)))) dLt := meets_I0 (g' := fun i j => .bl (decide (i < j))) (fun ds d h => by unfold dLt at h; split at h <;> cases h; exact ⟨_, _, rfl, rfl⟩) fun _ _ _ _ => new_bl
theorem meets_le : Meets K (r2 (rI0 fun i j => .bl (decide (i ≤ j)))) dLe := meets_I0 (g' := fun i j => .bl (decide (i ≤ j))) (fun ds d h => by unfold dLe at h; split at h <;> cases h; exact ⟨_, _, rfl, rfl⟩) fun _ _ _ _ => new_bl
theorem meets_gt : Meets K (r2 (rI0 fun i j => .bl (decide (j < i)))) dGt := meets_I0 (g' := fun i j => .bl (decide (j < i))) (fun ds d h => by unfold dGt at h; split at h <;> cases h; exact ⟨_, _, rfl, rfl⟩) fun _ _ _ _ => new_bl
theorem meets_ge : Meets K (r2 (rI0 fun i j => .bl (decide (j ≤ i)))) dGe := meets_I0 (g' := fun i j => .bl (decide (j ≤ i))) (fun ds d h => by unfold dGe at h; split at h <;> cases h; exact ⟨_, _, rfl, rfl⟩) fun _ _ _ _ => new_bl
theorem meets_mod : Meets K (r2 (rI (fun _ j => 0 < j) fun i j => .int (i % j))) dMod := meets_I (g' := fun i j => .int (i % j)) (fun ds d h => by
  unfold dMod at h; split at h
  · split at h
    · rename_i z; cases h; exact ⟨_, _, rfl, z, rfl⟩
    · cases h
  · cases h) fun _ _ _ _ => new_int
theorem op_powW : OpR X (binaryOp .Pow) (rI (fun i j => 0 ≤ j ∧ (Builtin.Int.intBits i : Int) * j ≤ 2 ^ 27) fun i j => .int (i ^ j.toNat)) := opI fun _ _ _ _ _ _ _ hc q => pow_int hc.1 hc.2 q
theorem meets_pow : Meets K (r2 (rI (fun i j => 0 ≤ j ∧ (Builtin.Int.intBits i : Int) * j ≤ 2 ^ 27) fun i j => .int (i ^ j.toNat))) dPow := meets_I (g' := fun i j => .int (i ^ j.toNat)) (fun ds d h => by
  unfold dPow at h; split at h
  · split at h
    · rename_i z; cases h; exact ⟨_, _, rfl, ⟨z.1, by have := z.2; omega⟩, rfl⟩
    · cases h
  · cases h) fun _ _ _ _ => new_int
theorem meets_shl : Meets K (r2 (rI CPow fun i j => .int (i * 2 ^ j.toNat))) dShl := meets_I (g' := fun i j => .int (i * 2 ^ j.toNat)) (fun ds d h => by
  unfold dShl at h; split at h
  · split at h
    · rename_i z; cases h; exact ⟨_, _, rfl, ⟨z.1, z.2.1, by have := bits_of_big z.2.2; omega⟩, rfl⟩
    · cases h
  · cases h) fun _ _ _ _ => new_int
theorem meets_shr : Meets K (r2 (rI (fun _ j => 0 ≤ j) fun i j => .int (i / 2 ^ j.toNat))) dShr := meets_I (g' := fun i j => .int (i / 2 ^ j.toNat)) (fun ds d h => by
  unfold dShr at h; split at h
  · split at h
    · rename_i z; cases h; exact ⟨_, _, rfl, z, rfl⟩
    · cases h
  · cases h) fun _ _ _ _ => new_int
theorem log_of_big {j : Int} (h0 : 0 < j) (h : j < big) : j.natAbs.log2 < 9000 := by
  unfold big at h
  have h1 : j.natAbs ≠ 0 := by omega
  have h2 : j.natAbs.log2 < 64 := (Nat.log2_lt h1).mpr (by omega)
  omega
theorem meets_fdiv : Meets K (r2 (rI CDivW fun i j => .int (i / j))) dFdiv := meets_I (g' := fun i j => .int (i / j)) (fun ds d h => by
  unfold dFdiv fitsDiv at h; split at h
  · split at h
    · rename_i z; cases h
      simp only [Bool.and_eq_true, Bool.or_eq_true, decide_eq_true_eq] at z
      refine ⟨_, _, rfl, ⟨z.1, ?_⟩, rfl⟩
      rcases z.2 with z2 | z2
      · exact log_of_big z.1 z2
      · exact z2
    · cases h
  · cases h) fun _ _ _ _ => new_int
def CMulB (i j : Int) : Prop := CMul i j ∨ CMulW i j
theorem op_mulB : OpR X (binaryOp .Mult) (rI CMulB fun i j => .int (i * j)) := opI fun _ _ _ _ _ _ _ hc q => mul_int q (hc.elim (fun h => h.ok) fun h => h.ok)
def rMul (K : PySem.W.Frag) : R2 := fun x y H Q => rI CMulB (fun i j => .int (i * j)) x y H Q ∨ rRep x y H Q ∨ rRepT K x y H Q
theorem op_mulA : OpR X (binaryOp .Mult) (rMul X.K) := op_mulB.or (op_rep.or op_repT)
theorem rep_get {α : Type} {l : List α} {k n : Nat} (h : n < (List.replicate k l).flatten.length) : ∀ {β : Type} {l' : List β}, l'.length = l.length → (List.replicate k l).flatten[n]? = l[n % l.length]? ∧ (List.replicate k l').flatten[n]? = l'[n % l.length]? := by
  intro β l' hl
  have key : ∀ {γ : Type} (m : List γ) (k n : Nat), n < k * m.length → (List.replicate k m).flatten[n]? = m[n % m.length]? := by
    intro γ m k
    induction k with
    | zero => intro n hn; simp at hn
    | succ k ih =>
      intro n hn
      rw [List.replicate_succ, List.flatten_cons]
      by_cases c : n < m.length
      · rw [List.getElem?_append_left c, Nat.mod_eq_of_lt c]
      · rw [List.getElem?_append_right (by omega), ih (n - m.length) (by rw [Nat.succ_mul] at hn; omega)]
        congr 1
        exact (Nat.mod_eq_sub_mod (by omega)).symm
  have hn : n < k * l.length := by simpa using h
  refine ⟨key l k n hn, ?_⟩
  have := key l' k n (by rw [hl]; exact hn)
  rw [hl] at this
  exact this
theorem Rels.rep {M : Own} {H : Hp} {l : List D} {vs : List V} (r : Rels K M H l vs nobodies) (k : Nat) : Rels K M H (List.replicate k l).flatten (List.replicate k vs).flatten nobodies := by
  have hl := r.len
  refine r.pick (by simp [hl]) fun n hn => ⟨n % l.length, ?_⟩
  exact rep_get hn hl.symm
theorem meets_mul : Meets K (r2 (rMul K)) dMul := by
  intro M H ds vs d Q tr p h q
  unfold dMul at h
  split at h
  · obtain ⟨x, y, rfl, h1, h2⟩ := pair2 p
    split at h
    · rename_i z
      cases h
      refine ⟨x, y, rfl, .inl ⟨_, _, any_int.mp h1, any_int.mp h2, ?_, q _ _ _ new_int⟩⟩
      unfold fitsMul at z
      simp only [Bool.and_eq_true, Bool.or_eq_true, decide_eq_true_eq] at z
      rcases z with (z | z) | z
      · exact .inl (.inl (bits_of_big z))
      · exact .inl (.inr (bits_of_big z))
      · exact .inr z
    · cases h
  · obtain ⟨x, y, rfl, h1, h2⟩ := pair2 p
    split at h
    · rename_i z
      cases h
      simp only [Bool.and_eq_true, decide_eq_true_eq] at z
      obtain ⟨a, xs, rfl, e1, r1⟩ := any_lstF h1 z.1.1.1
      refine ⟨_, _, rfl, .inr (.inl ⟨a, _, xs, rfl, any_int.mp h2, e1, by omega, by omega, ?_, fun p hp => q _ _ _ (new_lst tr hp (r1.rep _))⟩)⟩
      rw [← r1.len, sizeLine_eq]
      exact Nat.le_trans (Nat.mul_le_mul z.1.1.2 (show _ ≤ 1000 by omega)) (by decide)
    · cases h
  · obtain ⟨x, y, rfl, h1, h2⟩ := pair2 p
    split at h
    · rename_i z
      cases h
      simp only [Bool.and_eq_true, decide_eq_true_eq, Bool.not_eq_true', List.isEmpty_eq_false_iff] at z
      obtain ⟨a, xs, rfl, e1, r1⟩ := any_tup h1
      refine ⟨_, _, rfl, .inr (.inr ⟨a, _, xs, rfl, any_int.mp h2, e1.seq, fun e => ?_, z.1.2, z.2, by rw [← r1.len]; exact z.1.1.2, fun p hp => q _ _ _ (new_tup tr hp (r1.rep _))⟩)⟩
      subst e
      exact z.1.1.1 (List.eq_nil_of_length_eq_zero (by rw [r1.len]; rfl))
    · cases h
  · cases h
theorem meets_eq : Meets K (r2 (rEqD K)) dEq := by
  intro M H ds vs d Q tr p h q
  unfold dEq at h
  split at h
  · obtain ⟨x, y, rfl, ⟨P, h1⟩, ⟨P', h2⟩⟩ := pair2 p
    split at h
    · rename_i z
      cases h
      simp only [Bool.and_eq_true] at z
      exact ⟨x, y, rfl, _, _, h1.dp z.1.1.1, h2.dp z.1.1.2, z.1.2, z.2, q _ _ _ new_bl⟩
    · cases h
  · cases h
theorem meets_ne : Meets K (r2 (rNeD K)) dNe := by
  intro M H ds vs d Q tr p h q
  unfold dNe at h
  split at h
  · obtain ⟨x, y, rfl, ⟨P, h1⟩, ⟨P', h2⟩⟩ := pair2 p
    split at h
    · rename_i z
      cases h
      simp only [Bool.and_eq_true] at z
      exact ⟨x, y, rfl, _, _, h1.dp z.1.1.1, h2.dp z.1.1.2, z.1.2, z.2, q _ _ _ new_bl⟩
    · cases h
  · cases h
theorem isNon_of {M : Own} {H : Hp} {d : D} {x : V} (h : RelAny K M H d x) : decide (x = V.non) = isNonD d := by
  obtain ⟨P, h⟩ := h
  cases d with
  | non => unfold Rel at h; subst h; rfl
  | bl b => unfold Rel at h; subst h; rfl
  | int b => unfold Rel at h; subst h; rfl
  | str b => unfold Rel at h; subst h; rfl
  | tup l => unfold Rel at h; obtain ⟨a, _, rfl, _⟩ := h; rfl
  | far l => unfold Rel at h; obtain ⟨a, _, rfl, _⟩ := h; rfl
  | lst o l => cases o <;> (unfold Rel at h; obtain ⟨a, r⟩ := h; first | (obtain ⟨_, rfl, _⟩ := r; rfl) | (obtain ⟨_, _, rfl, _⟩ := r; rfl))
  | dct o l => cases o <;> (unfold Rel at h; obtain ⟨a, r⟩ := h; first | (obtain ⟨_, _, rfl, _⟩ := r; rfl) | (obtain ⟨_, _, _, rfl, _⟩ := r; rfl))
theorem meets_isN : Meets K (r2 fun x y H Q => y = .non ∧ Q (.bl (decide (x = .non))) H) dIsN := by
  intro M H ds vs d Q tr p h q
  unfold dIsN at h
  split at h
  · obtain ⟨x, y, rfl, h1, h2⟩ := pair2 p
    cases h
    exact ⟨x, y, rfl, any_non.mp h2, by rw [isNon_of h1]; exact q _ _ _ new_bl⟩
  · cases h
theorem meets_notN : Meets K (r2 fun x y H Q => y = .non ∧ Q (.bl (!decide (x = .non))) H) dNotN := by
  intro M H ds vs d Q tr p h q
  unfold dNotN at h
  split at h
  · obtain ⟨x, y, rfl, h1, h2⟩ := pair2 p
    cases h
    exact ⟨x, y, rfl, any_non.mp h2, by rw [isNon_of h1]; exact q _ _ _ new_bl⟩
  · cases h
theorem dp_list {M : Own} {H : Hp} {o : Bool} {l : List D} {y : V} (h : RelAny K M H (.lst o l) y) (z : noDcts l = true) : Dp K H y (.list (pys l)) := by
  obtain ⟨P, h⟩ := h
  have := h.dp (by unfold noDct; exact z)
  unfold py at this
  exact this
theorem meets_in : Meets K (r2 (rInD K)) dIn := by
  intro M H ds vs d Q tr p h q
  unfold dIn at h
  split at h
  · obtain ⟨x, y, rfl, ⟨P, h1⟩, h2⟩ := pair2 p
    split at h
    · rename_i z
      cases h
      simp only [Bool.and_eq_true] at z
      exact ⟨x, y, rfl, _, _, h1.dp z.1.1.1, dp_list h2 z.1.1.2, z.1.2, z.2, q _ _ _ new_bl⟩
    · cases h
  · cases h
theorem meets_notIn : Meets K (r2 (rNotInD K)) dNotIn := by
  intro M H ds vs d Q tr p h q
  unfold dNotIn at h
  split at h
  · obtain ⟨x, y, rfl, ⟨P, h1⟩, h2⟩ := pair2 p
    split at h
    · rename_i z
      cases h
      simp only [Bool.and_eq_true] at z
      exact ⟨x, y, rfl, _, _, h1.dp z.1.1.1, dp_list h2 z.1.1.2, z.1.2, z.2, q _ _ _ new_bl⟩
    · cases h
  · cases h
end
end Ow

set_option Elab.async false
set_option autoImplicit false
set_option linter.all false
set_option maxRecDepth 100000
/-! Ow, part 5: rules for expressions. -/
namespace Ow
open PySem PySem.Spec PyProof.Rows L2

/-! ### names, constants -/
/-- a name whose value goes elsewhere: from then on nobody changes it -/
def mNm (i : Nat) : ME := fun e => (slot e i).bind fun d => if top d then some (.ok (settle d) (e.set i (some (settle d)))) else some (.ok d e)
/-- a name whose value leaves for good, with what it owns -/
def mMv (i : Nat) : ME := fun e => (slot e i).bind fun d => if top d then some (.ok d (e.set i none)) else some (.ok d e)
def mC (d : D) : ME := fun e => some (.ok d e)
def iC (d : D) : MI := fun _ => some d
def iNm (i : Nat) : MI := fun e => (slot e i).bind fun d => if top d then none else some d
def mI (m : MI) : ME := fun e => (m e).bind fun d => some (.ok d e)
/-- data that bear no address -/
def plainD : D → V → Prop
  | .non, v => v = .non
  | .bl b, v => v = .bl b
  | .int i, v => v = .int i
  | .str s, v => v = .str s
  | _, _ => False
section
variable {K : PySem.W.Frag} {Fr : Own} {e e' : Sl} {own own' : Nat → Own} {σ : L2.St} {H H' : Hp} {d : D} {v : V}
theorem plain_rel {M : Own} {P : Own} (h : plainD d v) : Rel K M H d v P := by
  cases d <;> unfold plainD at h <;> first | exact h.elim | (unfold Rel; exact h)
def putO (own : Nat → Own) (i : Nat) (P : Own) : Nat → Own := fun j => if j = i then P else own j
theorem putO_self {i : Nat} {P : Own} : putO own i P i = P := by unfold putO; rw [if_pos rfl]
theorem putO_ne {i j : Nat} {P : Own} (h : j ≠ i) : putO own i P j = own j := by unfold putO; rw [if_neg h]
theorem set_get {α : Type} {l : List (Option α)} {i j : Nat} {x : Option α} {y : α} (h : (l.set i x)[j]? = some (some y)) : (j = i ∧ x = some y) ∨ (j ≠ i ∧ l[j]? = some (some y)) := by
  by_cases c : j = i
  · subst c
    refine .inl ⟨rfl, ?_⟩
    by_cases hl : j < l.length
    · rw [List.getElem?_set_self hl] at h; exact Option.some.inj h
    · rw [List.getElem?_eq_none (by simpa using hl)] at h; cases h
  · exact .inr ⟨c, by rw [List.getElem?_set_ne (Ne.symm c)] at h; exact h⟩
/-- slot i's owner gives up -/
theorem Rep.settle (r : Rep K Fr e own σ H) {i : Nat} {P : Own} (hs : slot e i = some d) (hv : σ[i]? = some (some v)) (h : Rel K (Mof Fr own) H d v P) (hp : P = own i) :
    Went K Fr own H (e.set i (some (settle d))) (putO own i nobody) σ H ∧ Rel K (Mof Fr (putO own i nobody)) H (settle d) v nobody := by
  subst hp
  have le : ∀ a, Mof Fr (putO own i nobody) a → Mof Fr own a := fun a q => by
    rcases q with q | ⟨j, q⟩
    · exact .inl q
    · by_cases c : j = i
      · subst c; rw [putO_self] at q; exact q.elim
      · rw [putO_ne c] at q; exact .inr ⟨j, q⟩
  have out : ∀ a, own i a → ¬ Mof Fr (putO own i nobody) a := fun a ha q => by
    rcases q with q | ⟨j, q⟩
    · exact r.fr i a ha q
    · by_cases c : j = i
      · subst c; rw [putO_self] at q; exact q
      · rw [putO_ne c] at q; exact c (r.dj _ _ _ q ha)
  have k : Keep (Mof Fr own) (Mof Fr (putO own i nobody)) H H := fun a o n z => ⟨z, fun q => n (le a q)⟩
  have rel := Rel.settle le (P' := nobody) out h
  refine ⟨⟨⟨by rw [List.length_set]; exact r.len, fun j d' hd => ?_, fun x y a hx hy => ?_, fun x a hx => ?_, fun a ha => r.tr a (le a ha)⟩, k, fun _ _ => rfl⟩, rel⟩
  · rcases set_get hd with ⟨rfl, e1⟩ | ⟨c, e1⟩
    · cases e1
      exact ⟨v, hv, by rw [putO_self]; exact rel⟩
    · obtain ⟨u, h1, h2⟩ := r.sl j d' e1
      exact ⟨u, h1, by rw [putO_ne c]; exact h2.keep k fun _ _ => rfl⟩
  · by_cases cx : x = i
    · subst cx; rw [putO_self] at hx; exact hx.elim
    · by_cases cy : y = i
      · subst cy; rw [putO_self] at hy; exact hy.elim
      · rw [putO_ne cx] at hx; rw [putO_ne cy] at hy; exact r.dj x y a hx hy
  · by_cases cx : x = i
    · subst cx; rw [putO_self] at hx; exact hx.elim
    · rw [putO_ne cx] at hx; exact r.fr x a hx
theorem Rep.move (r : Rep K Fr e own σ H) {i : Nat} (hv : σ[i]? = some (some v)) (h : Rel K (Mof Fr own) H d v (own i)) :
    Got K Fr own H (e.set i none) (putO own i nobody) σ H d v (own i) := by
  have sw : Mof (fun a => Fr a ∨ own i a) (putO own i nobody) = Mof Fr own := by
    funext a
    apply propext
    constructor
    · rintro ((q | q) | ⟨j, q⟩)
      · exact .inl q
      · exact .inr ⟨i, q⟩
      · by_cases c : j = i
        · subst c; rw [putO_self] at q; exact q.elim
        · rw [putO_ne c] at q; exact .inr ⟨j, q⟩
    · rintro (q | ⟨j, q⟩)
      · exact .inl (.inl q)
      · by_cases c : j = i
        · subst c; exact .inl (.inr q)
        · exact .inr ⟨j, by rw [putO_ne c]; exact q⟩
  refine ⟨⟨by rw [List.length_set]; exact r.len, fun j d' hd => ?_, fun x y a hx hy => ?_, fun x a hx z => ?_, fun a ha => ?_⟩, ?_, fun a ha => r.fr i a ha, ?_, fun _ _ => rfl⟩
  · rcases set_get hd with ⟨rfl, e1⟩ | ⟨c, e1⟩
    · cases e1
    · obtain ⟨u, h1, h2⟩ := r.sl j d' e1
      exact ⟨u, h1, by rw [putO_ne c, sw]; exact h2⟩
  · by_cases cx : x = i
    · subst cx; rw [putO_self] at hx; exact hx.elim
    · by_cases cy : y = i
      · subst cy; rw [putO_self] at hy; exact hy.elim
      · rw [putO_ne cx] at hx; rw [putO_ne cy] at hy; exact r.dj x y a hx hy
  · by_cases cx : x = i
    · subst cx; rw [putO_self] at hx; exact hx.elim
    · rw [putO_ne cx] at hx
      rcases z with z | z
      · exact r.fr x a hx z
      · exact cx (r.dj _ _ _ hx z)
  · rw [sw] at ha; exact r.tr a ha
  · rw [sw]; exact h
  · rw [sw]; exact fun a o n z => ⟨z, n⟩
end

section
variable {X : Cx} {W : WX}
theorem rd_nm {i : Nat} (σ : L2.St) (H : Hp) (Q : VK) (h : tM X W (mNm i) σ H Q) : tVar i σ H Q := by
  obtain ⟨Fr, e, own, r, rp, h1, h2⟩ := h
  unfold mNm at h1
  obtain ⟨d, hd, h1⟩ := Option.bind_eq_some_iff.mp h1
  obtain ⟨v, hv, hr⟩ := rp.at hd
  refine ⟨v, hv, ?_⟩
  split at h1
  · cases h1
    obtain ⟨w, rel⟩ := rp.settle hd hv hr rfl
    exact h2 v nobody _ H (w.val rel)
  · rename_i z
    cases h1
    exact h2 v nobody _ H (rp.refl.val (Rel.untop (by simpa using z) hr))
theorem rd_mv {i : Nat} (σ : L2.St) (H : Hp) (Q : VK) (h : tM X W (mMv i) σ H Q) : tVar i σ H Q := by
  obtain ⟨Fr, e, own, r, rp, h1, h2⟩ := h
  unfold mMv at h1
  obtain ⟨d, hd, h1⟩ := Option.bind_eq_some_iff.mp h1
  obtain ⟨v, hv, hr⟩ := rp.at hd
  refine ⟨v, hv, ?_⟩
  split at h1
  · cases h1
    exact h2 v _ _ H (rp.move hv hr)
  · rename_i z
    cases h1
    exact h2 v nobody _ H (rp.refl.val (Rel.untop (by simpa using z) hr))
theorem rd_inm {i : Nat} (σ : L2.St) (H : Hp) (Q : VK) (h : tI X (iNm i) σ H Q) : tVar i σ H Q := by
  obtain ⟨Fr, e, own, d, rp, h1, h2⟩ := h
  unfold iNm at h1
  obtain ⟨d', hd, h1⟩ := Option.bind_eq_some_iff.mp h1
  obtain ⟨v, hv, hr⟩ := rp.at hd
  refine ⟨v, hv, ?_⟩
  split at h1
  · cases h1
  · rename_i z
    cases h1
    exact h2 v H (Rel.untop (by simpa using z) hr) fun _ _ z => z
theorem rd_c {d : D} {v : V} (hp : plainD d v) (σ : L2.St) (H : Hp) (Q : VK) (h : tM X W (mC d) σ H Q) : tC v σ H Q := by
  obtain ⟨Fr, e, own, r, rp, h1, h2⟩ := h
  unfold mC at h1
  cases h1
  exact h2 v nobody _ H (rp.refl.val (plain_rel hp))
theorem rd_ic {d : D} {v : V} (hp : plainD d v) (σ : L2.St) (H : Hp) (Q : VK) (h : tI X (iC d) σ H Q) : tC v σ H Q := by
  obtain ⟨Fr, e, own, d', rp, h1, h2⟩ := h
  unfold iC at h1
  cases h1
  exact h2 v H (plain_rel hp) fun _ _ z => z
theorem rd_mi {m : MI} (σ : L2.St) (H : Hp) (Q : VK) (h : tM X W (mI m) σ H Q) : tI X m σ H Q := by
  obtain ⟨Fr, e, own, r, rp, h1, h2⟩ := h
  unfold mI at h1
  obtain ⟨d, hd, h1⟩ := Option.bind_eq_some_iff.mp h1
  cases h1
  exact ⟨Fr, e, own, d, rp, hd, fun v H' hr x => h2 v nobody _ H' ((rp.grown x).val (Rel.keep (ext_keep fun _ _ z => z) (fun _ z => z.elim) hr))⟩
variable {a b c : Expr} {ar br cr : Ar} {pos : Pos}
theorem oInt {i : Int} {j : Nat} : PE X (.Constant (.int i) j pos) (tM X W (mC (.int i))) := peImp pe_int (rd_c rfl)
theorem oBl {k : Bool} {j : Nat} : PE X (.Constant (.bool k) j pos) (tM X W (mC (.bl k))) := peImp pe_bl (rd_c rfl)
theorem oNon {j : Nat} : PE X (.Constant .none j pos) (tM X W (mC .non)) := peImp pe_non (rd_c rfl)
theorem oStr {s : Str} {j : Nat} : PE X (.Constant (.str s) j pos) (tM X W (mC (.str s))) := peImp pe_str (rd_c rfl)
theorem qInt {i : Int} {j : Nat} : PE X (.Constant (.int i) j pos) (tI X (iC (.int i))) := peImp pe_int (rd_ic rfl)
theorem qStr {s : Str} {j : Nat} : PE X (.Constant (.str s) j pos) (tI X (iC (.str s))) := peImp pe_str (rd_ic rfl)
section
variable {x : Str}
theorem oNm (i : Nat) (hN : X.N[i]? = some x := by rfl) (hv : Vis X.env.scope x := by first | exact Or.inl rfl | exact Or.inr (Or.inl rfl) | exact Or.inr (Or.inr rfl)) (hd : (x == ("__debug__" : Str)) = false := by decide)
    (hcd : (x == ("__classdict__" : Str)) = false := by decide) : PE X (.Name x pos) (tM X W (mNm i)) := peImp (pe_var hN hv hd hcd) rd_nm
theorem oMv (i : Nat) (hN : X.N[i]? = some x := by rfl) (hv : Vis X.env.scope x := by first | exact Or.inl rfl | exact Or.inr (Or.inl rfl) | exact Or.inr (Or.inr rfl)) (hd : (x == ("__debug__" : Str)) = false := by decide)
    (hcd : (x == ("__classdict__" : Str)) = false := by decide) : PE X (.Name x pos) (tM X W (mMv i)) := peImp (pe_var hN hv hd hcd) rd_mv
theorem qNm (i : Nat) (hN : X.N[i]? = some x := by rfl) (hv : Vis X.env.scope x := by first | exact Or.inl rfl | exact Or.inr (Or.inl rfl) | exact Or.inr (Or.inr rfl)) (hd : (x == ("__debug__" : Str)) = false := by decide)
    (hcd : (x == ("__classdict__" : Str)) = false := by decide) : PE X (.Name x pos) (tI X (iNm i)) := peImp (pe_var hN hv hd hcd) rd_inm
end
/-- an operand -/
def PO1 (X : Cx) (W : WX) (e : Expr) (a : Ar) : Prop := PE X e (tOpnd X W a)
theorem uNm (i : Nat) {x : Str} (hN : X.N[i]? = some x := by rfl) (hv : Vis X.env.scope x := by first | exact Or.inl rfl | exact Or.inr (Or.inl rfl) | exact Or.inr (Or.inr rfl)) (hd : (x == ("__debug__" : Str)) = false := by decide)
    (hcd : (x == ("__classdict__" : Str)) = false := by decide) : PO1 X W (.Name x pos) (.nm i) := pe_var hN hv hd hcd
theorem uV {m : ME} (h : PE X a (tM X W m)) : PO1 X W a (.vl m) := h
theorem uI {m : MI} (h : PE X a (tI X m)) : PO1 X W a (.il m) := h
/-- a list's part at a written place -/
theorem uPl (i : Nat) {x : Str} {n : Nat} {j : Nat} {p1 p2 : Pos} (hN : X.N[i]? = some x := by rfl) (hv : Vis X.env.scope x := by first | exact Or.inl rfl | exact Or.inr (Or.inl rfl) | exact Or.inr (Or.inr rfl)) (hd : (x == ("__debug__" : Str)) = false := by decide)
    (hcd : (x == ("__classdict__" : Str)) = false := by decide) : PO1 X W (.Subscript (.Name x p1) (.Constant (.int (n : Int)) j p2) pos) (.pt i (.int (n : Int))) := by
  refine peImp (pe_ix (hr := ix_list) (pe_var hN hv hd hcd) pe_int (fun _ _ => rfl)) (fun σ H Q h => ?_)
  obtain ⟨v, c, hσ, ⟨a, vs, rfl, ha, h0, hc⟩, q⟩ := h
  exact ⟨_, hσ, a, vs, n, c, rfl, rfl, SqL.of ha, atI_nat (by simpa using hc), q⟩
end
end Ow

set_option Elab.async false
set_option autoImplicit false
set_option linter.all false
set_option maxRecDepth 100000
/-! Ow, part 6: rules for operators, tests, displays, subscripts. -/
namespace Ow
open PySem PySem.Spec PyProof.Rows L2

/-! ### meanings -/
def truthD : D → Option Bool
  | .non => some false
  | .bl b => some b
  | .int i => some (i != 0)
  | .str s => if s.length ≤ 16777216 then some ((s.length : Int) != 0) else none
  | .tup l => some (!l.isEmpty)
  | .far l => some (!l.isEmpty)
  | .lst _ l => some (!l.isEmpty)
  | .dct _ _ => none
/-- the truth of what comes -/
def mTr (m : ME) : ME := fun e => (m e).bind fun r => match r with
  | .ok d e' => (truthD d).bind fun b => some (.ok (.bl b) e')
  | .exc x e' => some (.exc x e')
def mAnd (m1 m2 : ME) : ME := fun e => (m1 e).bind fun r => match r with
  | .ok (.bl true) e' => m2 e'
  | .ok (.bl false) e' => some (.ok (.bl false) e')
  | .ok _ _ => none
  | .exc x e' => some (.exc x e')
def mOr (m1 m2 : ME) : ME := fun e => (m1 e).bind fun r => match r with
  | .ok (.bl true) e' => some (.ok (.bl true) e')
  | .ok (.bl false) e' => m2 e'
  | .ok _ _ => none
  | .exc x e' => some (.exc x e')
def mNot (m : ME) : ME := fun e => (m e).bind fun r => match r with
  | .ok (.bl b) e' => some (.ok (.bl !b) e')
  | .ok _ _ => none
  | .exc x e' => some (.exc x e')
def mIf (c m1 m2 : ME) : ME := fun e => (c e).bind fun r => match r with
  | .ok (.bl true) e' => m1 e'
  | .ok (.bl false) e' => m2 e'
  | .ok _ _ => none
  | .exc x e' => some (.exc x e')

/-! ### tests -/
def tTm (X : Cx) (W : WX) (m : ME) : TT := fun σ H Q => ∃ Fr e own r, Rep X.K Fr e own σ H ∧ m e = some r ∧
  match r with
  | .ok d e' => ∃ b, d = .bl b ∧ ∀ own' H', Went X.K Fr own H e' own' σ H' → Q b H'
  | .exc x e' => XWish X W Fr own σ H x e'
section
variable {X : Cx} {W : WX} {K : PySem.W.Frag} {M : Own} {σ : L2.St} {H : Hp} {m m1 m2 : ME} {a b c : Expr} {rest : List Expr} {pos : Pos} {d : D} {v : V} {P : Own}
theorem truthD_tru (h : Rel K M H d v P) {k : Bool} (hk : truthD d = some k) : TruV K v H k := by
  cases d with
  | non => unfold Rel at h; subst h; cases hk; rfl
  | bl b => unfold Rel at h; subst h; cases hk; rfl
  | int i => unfold Rel at h; subst h; cases hk; rfl
  | str s =>
    unfold Rel at h; subst h
    have hk : (if s.length ≤ 16777216 then some ((s.length : Int) != 0) else none) = some k := hk
    split at hk
    · rename_i z; cases hk; exact ⟨le_line z, rfl⟩
    · cases hk
  | tup l =>
    unfold Rel at h
    obtain ⟨a, vs, rfl, h1, h2⟩ := h
    cases hk
    refine .inr (.inl ⟨vs, h1.seq, ?_⟩)
    have := h2.len
    cases l <;> cases vs <;> simp at this ⊢
  | far l =>
    unfold Rel at h
    obtain ⟨a, vs, rfl, h1, h2⟩ := h
    cases hk
    refine .inl ⟨vs, h1.seq, ?_⟩
    have := h2.len
    cases l <;> cases vs <;> simp at this ⊢
  | lst o l =>
    obtain ⟨a, vs, f, rfl, h1, h2⟩ := any_lst ⟨P, h⟩
    cases hk
    refine .inl ⟨vs, SqL.of h1, ?_⟩
    have := h2.len
    cases l <;> cases vs <;> simp at this ⊢
  | dct o l => cases hk
theorem cTr (h : PE X a (tM X W m)) (he : ∀ whole, isTrue a X.env whole = (do let v ← whole; standAt a.pos; holding [v] (truthy v)) := by intro _; rfl) : PT X a (tTm X W (mTr m)) := by
  refine ⟨fun pins s σ H Q I hw => (pt_truth h he).run pins s σ H Q I ?_⟩
  obtain ⟨Fr, e, own, r, rp, h1, h2⟩ := hw
  unfold mTr at h1
  obtain ⟨q, hq, h1⟩ := Option.bind_eq_some_iff.mp h1
  refine ⟨Fr, e, own, q, rp, hq, ?_⟩
  cases q with
  | exc x e' => cases h1; exact h2
  | ok d e' =>
    obtain ⟨k, hk, h1⟩ := Option.bind_eq_some_iff.mp h1
    cases h1
    obtain ⟨b, hb, h3⟩ := h2
    cases hb
    intro v P own' H' g
    exact ⟨k, truthD_tru g.rel hk, h3 own' H' g.frozen.1⟩
/-- a reading whose value is a bool, as a test -/
theorem tb_of {Q : Bool → Hp → Prop} (h : tTm X W m σ H Q) : tM X W m σ H fun x H' => ∃ k, x = .bl k ∧ Q k H' := by
  obtain ⟨Fr, e, own, r, rp, h1, h2⟩ := h
  refine ⟨Fr, e, own, r, rp, h1, ?_⟩
  cases r with
  | exc x e' => exact h2
  | ok d e' =>
    obtain ⟨b, rfl, h3⟩ := h2
    intro v P own' H' g
    have hv : v = .bl b := by have := g.rel; unfold Rel at this; exact this
    exact ⟨b, hv, h3 own' H' g.frozen.1⟩
theorem cV (h : PE X a (tM X W m)) (he : ∀ whole, isTrue a X.env whole = (do let v ← whole; standAt a.pos; holding [v] (truthy v)) := by intro _; rfl) : PT X a (tTm X W m) :=
  ⟨fun pins s σ H Q I hw => (pt_val h he).run pins s σ H Q I (tb_of hw)⟩
theorem cAnd1 (h : PT X a (tTm X W m)) : PW X (.BoolOp .And [a] pos) (tTm X W m) := pw_and1 h
theorem cOr1 (h : PT X a (tTm X W m)) : PW X (.BoolOp .Or [a] pos) (tTm X W m) := pw_or1 h
theorem rd_and {Q : Bool → Hp → Prop} (h : tTm X W (mAnd m1 m2) σ H Q) : tAnd (tTm X W m1) (tTm X W m2) σ H Q := by
  obtain ⟨Fr, e, own, r, rp, h1, h2⟩ := h
  unfold mAnd at h1
  obtain ⟨q, hq, h1⟩ := Option.bind_eq_some_iff.mp h1
  refine ⟨Fr, e, own, q, rp, hq, ?_⟩
  cases q with
  | exc x e' => cases h1; exact h2
  | ok d e' =>
    cases d with
    | bl k =>
      refine ⟨k, rfl, fun own' H' w => ?_⟩
      cases k with
      | true =>
        refine ⟨Fr, e', own', r, w.rep, h1, ?_⟩
        cases r with
        | exc x e2 => exact fun c dx own2 H2 w2 xr => h2 c dx own2 H2 (w.trans w2) xr
        | ok d2 e2 =>
          obtain ⟨b, hb, h3⟩ := h2
          exact ⟨b, hb, fun own2 H2 w2 => h3 own2 H2 (w.trans w2)⟩
      | false =>
        cases h1
        obtain ⟨b, hb, h3⟩ := h2
        cases hb
        exact h3 own' H' w
    | _ => cases h1
theorem rd_or {Q : Bool → Hp → Prop} (h : tTm X W (mOr m1 m2) σ H Q) : tOr (tTm X W m1) (tTm X W m2) σ H Q := by
  obtain ⟨Fr, e, own, r, rp, h1, h2⟩ := h
  unfold mOr at h1
  obtain ⟨q, hq, h1⟩ := Option.bind_eq_some_iff.mp h1
  refine ⟨Fr, e, own, q, rp, hq, ?_⟩
  cases q with
  | exc x e' => cases h1; exact h2
  | ok d e' =>
    cases d with
    | bl k =>
      refine ⟨k, rfl, fun own' H' w => ?_⟩
      cases k with
      | false =>
        refine ⟨Fr, e', own', r, w.rep, h1, ?_⟩
        cases r with
        | exc x e2 => exact fun c dx own2 H2 w2 xr => h2 c dx own2 H2 (w.trans w2) xr
        | ok d2 e2 =>
          obtain ⟨b, hb, h3⟩ := h2
          exact ⟨b, hb, fun own2 H2 w2 => h3 own2 H2 (w.trans w2)⟩
      | true =>
        cases h1
        obtain ⟨b, hb, h3⟩ := h2
        cases hb
        exact h3 own' H' w
    | _ => cases h1
theorem cAnd (ha : PT X a (tTm X W m1)) (hb : PW X (.BoolOp .And (b :: rest) pos) (tTm X W m2)) : PW X (.BoolOp .And (a :: b :: rest) pos) (tTm X W (mAnd m1 m2)) :=
  ⟨fun wh pins s σ H Q I h => (pw_and ha hb).run wh pins s σ H Q I (rd_and h)⟩
theorem cOr (ha : PT X a (tTm X W m1)) (hb : PW X (.BoolOp .Or (b :: rest) pos) (tTm X W m2)) : PW X (.BoolOp .Or (a :: b :: rest) pos) (tTm X W (mOr m1 m2)) :=
  ⟨fun wh pins s σ H Q I h => (pw_or ha hb).run wh pins s σ H Q I (rd_or h)⟩
theorem cB (h : PW X a (tTm X W m)) : PT X a (tTm X W m) := h.pt
theorem cNot (ha : PT X a (tTm X W m)) : PT X (.UnaryOp .Not a pos) (tTm X W (mNot m)) := by
  refine ⟨fun pins s σ H Q I h => (pt_not ha).run pins s σ H Q I ?_⟩
  obtain ⟨Fr, e, own, r, rp, h1, h2⟩ := h
  unfold mNot at h1
  obtain ⟨q, hq, h1⟩ := Option.bind_eq_some_iff.mp h1
  refine ⟨Fr, e, own, q, rp, hq, ?_⟩
  cases q with
  | exc x e' => cases h1; exact h2
  | ok d e' =>
    cases d with
    | bl k =>
      cases h1
      obtain ⟨b, hb, h3⟩ := h2
      cases hb
      exact ⟨k, rfl, fun own' H' w => h3 own' H' w⟩
    | _ => cases h1
/-! .. as values -/
theorem oAnd1 {op : PySem.BoolOp} (h : PE X a (tM X W m)) : PE X (.BoolOp op [a] pos) (tM X W m) := pe_one h
theorem cont {Q : VK} {Fr : Own} {own own1 : Nat → Own} {H1 : Hp} {e1 : Sl} {r : ER} (w : Went X.K Fr own H e1 own1 σ H1) (h : RWish X W Fr own σ H r Q) : RWish X W Fr own1 σ H1 r Q := by
  cases r with
  | exc x e2 => exact fun c dx own2 H2 w2 xr => h c dx own2 H2 (w.trans w2) xr
  | ok d2 e2 => exact fun v P own2 H2 g => h v P own2 H2 (w.got g)
theorem oAnd (ha : PE X a (tM X W m1)) (hb : PE X (.BoolOp .And (b :: rest) pos) (tM X W m2)) : PE X (.BoolOp .And (a :: b :: rest) pos) (tM X W (mAnd m1 m2)) := by
  refine peImp (pe_and ha hb) fun σ H Q h => ?_
  obtain ⟨Fr, e, own, r, rp, h1, h2⟩ := h
  unfold mAnd at h1
  obtain ⟨q, hq, h1⟩ := Option.bind_eq_some_iff.mp h1
  refine ⟨Fr, e, own, q, rp, hq, ?_⟩
  cases q with
  | exc x e' => cases h1; exact h2
  | ok d e' =>
    cases d with
    | bl k =>
      intro v P own' H' g
      have hv : v = .bl k := by have := g.rel; unfold Rel at this; exact this
      have w := g.frozen.1
      refine ⟨k, hv, ?_⟩
      cases k with
      | true => exact (if_pos rfl).mpr ⟨Fr, e', own', r, w.rep, h1, cont w h2⟩
      | false =>
        rw [if_neg Bool.false_ne_true]
        cases h1
        exact h2 (.bl false) nobody own' H' (w.val (by unfold Rel; rfl))
    | _ => cases h1
theorem oOr (ha : PE X a (tM X W m1)) (hb : PE X (.BoolOp .Or (b :: rest) pos) (tM X W m2)) : PE X (.BoolOp .Or (a :: b :: rest) pos) (tM X W (mOr m1 m2)) := by
  refine peImp (pe_or ha hb) fun σ H Q h => ?_
  obtain ⟨Fr, e, own, r, rp, h1, h2⟩ := h
  unfold mOr at h1
  obtain ⟨q, hq, h1⟩ := Option.bind_eq_some_iff.mp h1
  refine ⟨Fr, e, own, q, rp, hq, ?_⟩
  cases q with
  | exc x e' => cases h1; exact h2
  | ok d e' =>
    cases d with
    | bl k =>
      intro v P own' H' g
      have hv : v = .bl k := by have := g.rel; unfold Rel at this; exact this
      have w := g.frozen.1
      refine ⟨k, hv, ?_⟩
      cases k with
      | false =>
        rw [if_neg Bool.false_ne_true]
        exact ⟨Fr, e', own', r, w.rep, h1, cont w h2⟩
      | true =>
        rw [if_pos rfl]
        cases h1
        exact h2 (.bl true) nobody own' H' (w.val (by unfold Rel; rfl))
    | _ => cases h1
theorem oNot (ha : PE X a (tM X W m)) : PE X (.UnaryOp .Not a pos) (tM X W (mNot m)) := by
  refine peImp (pe_not ha) fun σ H Q h => ?_
  obtain ⟨Fr, e, own, r, rp, h1, h2⟩ := h
  unfold mNot at h1
  obtain ⟨q, hq, h1⟩ := Option.bind_eq_some_iff.mp h1
  refine ⟨Fr, e, own, q, rp, hq, ?_⟩
  cases q with
  | exc x e' => cases h1; exact h2
  | ok d e' =>
    cases d with
    | bl k =>
      cases h1
      intro v P own' H' g
      have hv : v = .bl k := by have := g.rel; unfold Rel at this; exact this
      exact ⟨k, hv, h2 (.bl !k) nobody own' H' (g.frozen.1.val (by unfold Rel; rfl))⟩
    | _ => cases h1
theorem oIf (hc : PT X c (tTm X W m)) (ha : PE X a (tM X W m1)) (hb : PE X b (tM X W m2)) : PE X (.IfExp c a b pos) (tM X W (mIf m m1 m2)) := by
  refine peImp (pe_ifExp hc ha hb) fun σ H Q h => ?_
  obtain ⟨Fr, e, own, r, rp, h1, h2⟩ := h
  unfold mIf at h1
  obtain ⟨q, hq, h1⟩ := Option.bind_eq_some_iff.mp h1
  refine ⟨Fr, e, own, q, rp, hq, ?_⟩
  cases q with
  | exc x e' => cases h1; exact h2
  | ok d e' =>
    cases d with
    | bl k =>
      refine ⟨k, rfl, fun own' H' w => ?_⟩
      cases k with
      | true => rw [if_pos rfl]; exact ⟨Fr, e', own', r, w.rep, h1, cont w h2⟩
      | false => rw [if_neg Bool.false_ne_true]; exact ⟨Fr, e', own', r, w.rep, h1, cont w h2⟩
    | _ => cases h1
end

/-! ### operators -/
section
variable {X : Cx} {W : WX} {a b c : Expr} {u w z : Ar} {pos : Pos} {g g' : List D → Option D} {r r' : R2} {r1' : V → Hp → VK → Prop}
theorem oBin {op : Operator} (ho : OpR X (binaryOp op) r) (hm : Meets X.K (r2 r) g) (ha : PO1 X W a u) (hb : PO1 X W b w) : PE X (.BinOp a op b pos) (tM X W (mB g [u, w])) :=
  peImp (pe_op ho ha hb) fun _ _ _ h => as2 (mB_read hm h)
theorem qBin {op : Operator} (ho : OpR X (binaryOp op) r) (hm : Meets X.K (r2 r) g) (ha : PO1 X W a u) (hb : PO1 X W b w) : PE X (.BinOp a op b pos) (tI X (iB g [u, w])) :=
  peImp (pe_op ho ha hb) fun _ _ _ h => as2 (iB_read hm h)
theorem oUn {op : UnaryOp} (ho : UnR X (unaryOp op) r1') (hm : Meets X.K (r1 r1') g) (ha : PO1 X W a u) : PE X (.UnaryOp op a pos) (tM X W (mB g [u])) :=
  peImp (pe_un ho ha) fun _ _ _ h => as1 (mB_read hm h)
theorem oCmp {op : CmpOp} (ho : OpR X (compareOp op) r) (hm : Meets X.K (r2 r) g) (ha : PO1 X W a u) (hb : PO1 X W b w) (hk : behindInMarks op b = false := by first | exact nomark _ | rfl) : PE X (.Compare a [op] [b] pos) (tM X W (mB g [u, w])) :=
  peImp (pe_cmpR ho ha hb hk) fun _ _ _ h => as2 (mB_read hm h)
theorem cCmp {op : CmpOp} (ho : OpR X (compareOp op) r) (hm : Meets X.K (r2 r) g) (ha : PO1 X W a u) (hb : PO1 X W b w) (hk : behindInMarks op b = false := by first | exact nomark _ | rfl) : PT X (.Compare a [op] [b] pos) (tTm X W (mB g [u, w])) :=
  ⟨fun pins s σ H Q I h => (pt_cmpR ho ha hb hk).run pins s σ H Q I (as2 (mB_read hm (tb_of h)))⟩
/-- a op b op' c, with plain operands -/
def gChain (g g' : List D → Option D) : List D → Option D
  | [x, y, z] => (g [x, y]).bind fun r => match r with
    | .bl true => g' [y, z]
    | .bl false => some (.bl false)
    | _ => none
  | _ => none
def iToV : Ar → Bool
  | .il _ => true
  | .nm _ => true
  | _ => false
def dNeg : List D → Option D
  | [.int i] => some (.int (-i))
  | _ => none
theorem meets_neg {K : PySem.W.Frag} : Meets K (r1 (rU fun i => .int (-i))) dNeg := by
  intro M H ds vs d Q tr p h q
  unfold dNeg at h
  split at h
  · obtain ⟨x, rfl, h1⟩ := pair1 p
    cases h
    exact ⟨x, rfl, _, any_int.mp h1, q _ _ _ new_int⟩
  · cases h
end
end Ow

set_option Elab.async false
set_option autoImplicit false
set_option linter.all false
set_option maxRecDepth 100000
/-! Ow, part 7: displays, subscripts, slices, calls of built-ins. -/
namespace Ow
open PySem PySem.Spec PyProof.Rows L2

abbrev PAs (X : Cx) (W : WX) (es : List Expr) (ars : List Ar) : Prop := PA X es (tAs X W ars)
section
variable {X : Cx} {W : WX} {K : PySem.W.Frag} {M : Own} {H : Hp} {a b c : Expr} {es : List Expr} {u w z : Ar} {us : List Ar} {pos : Pos}
theorem aNil : PAs X W [] [] := pa_nil
theorem aCons (ha : PO1 X W a u) (hr : PAs X W es us) (hs : starEach (a :: es) X.env = (false, eval a X.env) :: starEach es X.env := by rfl) : PAs X W (a :: es) (u :: us) := pa_cons ha hr hs
def low (l : List D) : Bool := l.all fun d => !top d
theorem low_rels : ∀ {ds : List D} {vs : List V}, Paired (RelAny K M H) ds vs → low ds = true → Rels K M H ds vs nobodies
  | [], _, .nil, _ => by unfold Rels; rfl
  | d :: ds, _, .cons ⟨P, h⟩ t, z => by
    unfold low at z
    rw [List.all_cons, Bool.and_eq_true] at z
    unfold Rels
    exact ⟨_, _, rfl, Rel.untop (by simpa using z.1) h, low_rels t z.2⟩
/-- what a frozen row's items own: nothing -/
theorem Rels.none_top : ∀ {l : List D} {vs : List V}, Rels K M H l vs nobodies → low l = true
  | [], _, _ => rfl
  | d :: l, _, h => by
    unfold Rels at h
    obtain ⟨v, r, rfl, h1, h2⟩ := h
    unfold low
    rw [List.all_cons, Bool.and_eq_true]
    refine ⟨?_, Rels.none_top h2⟩
    cases d with
    | lst o l =>
      cases o with
      | false => rfl
      | true => unfold Rel at h1; obtain ⟨_, _, _, _, _, q, _⟩ := h1; exact q.elim
    | dct o l =>
      cases o with
      | false => rfl
      | true => unfold Rel at h1; obtain ⟨_, _, _, _, _, _, q, _⟩ := h1; exact q.elim
    | _ => rfl

/-! ### displays -/
def rTupD : List V → Hp → VK → Prop := fun xs H1 Q => xs.length ≤ sizeLine ∧ ∀ p, H1 p = none → Q (.ref p) (upd H1 p (.tup xs))
def rLstD : List V → Hp → VK → Prop := fun xs H1 Q => xs.length ≤ sizeLine ∧ ∀ p, H1 p = none → Q (.ref p) (upd H1 p (.lst xs))
def dTupl (ds : List D) : Option D := if low ds && decide (ds.length ≤ 16777216) then some (.tup ds) else none
def dLst (ds : List D) : Option D := if low ds && decide (ds.length ≤ 16777216) then some (.lst true ds) else none
theorem meets_tupl : Meets K rTupD dTupl := by
  intro M H ds vs d Q tr p h q
  unfold dTupl at h
  split at h
  · rename_i z
    cases h
    simp only [Bool.and_eq_true, decide_eq_true_eq] at z
    exact ⟨by rw [← Paired.length p]; exact le_line z.2, fun a hp => q _ _ _ (new_tup tr hp (low_rels p z.1))⟩
  · cases h
theorem meets_lst : Meets K rLstD dLst := by
  intro M H ds vs d Q tr p h q
  unfold dLst at h
  split at h
  · rename_i z
    cases h
    simp only [Bool.and_eq_true, decide_eq_true_eq] at z
    exact ⟨by rw [← Paired.length p]; exact le_line z.2, fun a hp => q _ _ _ (new_lst tr hp (low_rels p z.1))⟩
  · cases h
theorem oTup {k : Nat} (h : PAs X W es us) : PE X (.Tuple es k pos) (tM X W (mB dTupl us)) := peImp (pe_tup h) fun _ _ _ q => mB_read meets_tupl q
theorem oLst (h : PAs X W es us) : PE X (.List es pos) (tM X W (mB dLst us)) := peImp (pe_lst h) fun _ _ _ q => mB_read meets_lst q
theorem qTup {k : Nat} (h : PAs X W es us) : PE X (.Tuple es k pos) (tI X (iB dTupl us)) := peImp (pe_tup h) fun _ _ _ q => iB_read meets_tupl q
theorem qLst (h : PAs X W es us) : PE X (.List es pos) (tI X (iB dLst us)) := peImp (pe_lst h) fun _ _ _ q => iB_read meets_lst q

/-! ### subscripts -/
def notTop (d : D) : Option D := if top d then none else some d
def dIx : List D → Option D
  | [.lst _ l, .int i] => (atI l i).bind notTop
  | [.tup l, .int i] => (atI l i).bind notTop
  | [.far l, .int i] => (atI l i).bind notTop
  | [.str s, .int i] => if s.length ≤ 16777216 then (atI s.cps.toList i).bind fun c => some (.str ⟨#[c]⟩) else none
  | _ => none
theorem atI_rel {l : List D} {vs : List V} {f : Nat → Own} {i : Int} {d : D} (r : Rels K M H l vs f) (h : atI l i = some d) : ∃ v n, atI vs i = some v ∧ Rel K M H d v (f n) := by
  unfold atI at h ⊢
  rw [← r.len]
  obtain ⟨j, h1, h2⟩ := Option.bind_eq_some_iff.mp h
  obtain ⟨v, h3, h4⟩ := r.get h2
  exact ⟨v, j, by rw [h1]; exact h3, h4⟩
theorem notTop_some {d d' : D} (h : notTop d = some d') : d' = d ∧ top d = false := by
  unfold notTop at h
  split at h
  · cases h
  · rename_i z; cases h; exact ⟨rfl, by simpa using z⟩
theorem meets_ix : Meets K (r2 (rIx K)) dIx := by
  intro M H ds vs d Q tr p h q
  unfold dIx at h
  split at h
  · obtain ⟨x, y, rfl, h1, h2⟩ := pair2 p
    obtain ⟨d', e1, e2⟩ := Option.bind_eq_some_iff.mp h
    obtain ⟨rfl, e3⟩ := notTop_some e2
    obtain ⟨a, vs, f, rfl, ha, r⟩ := any_lst h1
    obtain ⟨v, n, e4, e5⟩ := atI_rel r e1
    exact ⟨_, _, rfl, .inl ⟨a, vs, _, v, rfl, any_int.mp h2, SqL.of ha, e4, q _ _ _ (.same (Rel.untop e3 e5))⟩⟩
  · obtain ⟨x, y, rfl, h1, h2⟩ := pair2 p
    obtain ⟨d', e1, e2⟩ := Option.bind_eq_some_iff.mp h
    obtain ⟨rfl, e3⟩ := notTop_some e2
    obtain ⟨a, vs, rfl, ha, r⟩ := any_tup h1
    obtain ⟨v, n, e4, e5⟩ := atI_rel r e1
    exact ⟨_, _, rfl, .inr (.inl ⟨a, vs, _, v, rfl, any_int.mp h2, ha.seq, e4, q _ _ _ (.same e5)⟩)⟩
  · obtain ⟨x, y, rfl, h1, h2⟩ := pair2 p
    obtain ⟨d', e1, e2⟩ := Option.bind_eq_some_iff.mp h
    obtain ⟨rfl, e3⟩ := notTop_some e2
    obtain ⟨a, vs, rfl, ha, r⟩ := any_far h1
    obtain ⟨v, n, e4, e5⟩ := atI_rel r e1
    exact ⟨_, _, rfl, .inl ⟨a, vs, _, v, rfl, any_int.mp h2, ha.seq, e4, q _ _ _ (.same e5)⟩⟩
  · obtain ⟨x, y, rfl, h1, h2⟩ := pair2 p
    split at h
    · rename_i z
      obtain ⟨c, e1, e2⟩ := Option.bind_eq_some_iff.mp h
      cases e2
      exact ⟨_, _, rfl, .inr (.inr ⟨_, _, c, any_str.mp h1, any_int.mp h2, le_line z, e1, q _ _ _ new_str⟩)⟩
    · cases h
  · cases h
theorem oIx (ha : PO1 X W a u) (hb : PO1 X W b w) (hs : PlainIx b := by exact fun _ _ => rfl) : PE X (.Subscript a b pos) (tM X W (mB dIx [u, w])) :=
  peImp (pe_ix ix_seq ha hb hs) fun _ _ _ h => as2 (mB_read meets_ix h)
theorem qIx (ha : PO1 X W a u) (hb : PO1 X W b w) (hs : PlainIx b := by exact fun _ _ => rfl) : PE X (.Subscript a b pos) (tI X (iB dIx [u, w])) :=
  peImp (pe_ix ix_seq ha hb hs) fun _ _ _ h => as2 (iB_read meets_ix h)

/-! ### slices -/
def cut {α : Type} (l : List α) (lo hi : Option Int) : List α := (l.drop (HT.sIx l.length 0 lo)).take (HT.sIx l.length l.length hi - HT.sIx l.length 0 lo)
def cutD (d : D) (lo hi : Option Int) : Option D :=
  match d with
  | .lst _ l => if low l then some (.lst true (cut l lo hi)) else none
  | .far l => some (.lst true (cut l lo hi))
  | .tup l => some (.tup (cut l lo hi))
  | .str s => if s.length ≤ 16777216 then some (.str (cutS s lo hi)) else none
  | _ => none
def partD : D → Option (Option Int)
  | .int i => some (some i)
  | _ => none
def dSl (l h : Bool) : List D → Option D
  | [x] => if !l && !h then cutD x none none else none
  | [x, y] => (partD y).bind fun p => if l && !h then cutD x p none else if !l && h then cutD x none p else none
  | [x, y, z] => (partD y).bind fun p => (partD z).bind fun q => if l && h then cutD x p q else none
  | _ => none
def rCut (K : PySem.W.Frag) : V → Option Int → Option Int → Hp → VK → Prop := fun x lo hi H Q => rSlL K x lo hi H Q ∨ rSlA K x lo hi H Q ∨ rSlS x lo hi H Q
theorem sl_all : SlR X (rCut X.K) := SlR.or sl_list (SlR.or sl_tupA sl_str)
theorem cut_rels {l : List D} {vs : List V} (r : Rels K M H l vs nobodies) (lo hi : Option Int) : Rels K M H (cut l lo hi) (cutV vs lo hi) nobodies := by
  have hl := r.len
  refine r.pick ?_ fun n hn => ⟨HT.sIx l.length 0 lo + n, ?_⟩
  · unfold cut cutV
    simp only [List.length_take, List.length_drop, hl]
  · unfold cut at hn ⊢
    unfold cutV
    simp only [List.length_take, List.length_drop] at hn
    rw [← hl, List.getElem?_take_of_lt (by omega), List.getElem?_drop, List.getElem?_take_of_lt (by omega), List.getElem?_drop]
    exact ⟨rfl, rfl⟩
theorem low_flat_rels {o : Bool} {l : List D} {v : V} (h : RelAny K M H (.lst o l) v) (z : low l = true) : ∃ a vs, v = .ref a ∧ H a = some (.lst vs) ∧ Rels K M H l vs nobodies := by
  obtain ⟨a, vs, f, e, h1, h2⟩ := any_lst h
  refine ⟨a, vs, e, h1, ?_⟩
  clear h1 e h
  induction l generalizing vs f with
  | nil => unfold Rels at h2 ⊢; exact h2
  | cons d l ih =>
    unfold low at z
    rw [List.all_cons, Bool.and_eq_true] at z
    unfold Rels at h2 ⊢
    obtain ⟨u, r, e1, e2, e3⟩ := h2
    exact ⟨u, r, e1, Rel.untop (by simpa using z.1) e2, ih z.2 _ _ e3⟩
theorem cut_meets {M : Own} {H : Hp} {x : V} {d d' : D} {lo hi : Option Int} {Q : VK} (tr : ∀ a, M a → H a ≠ none) (hx : RelAny K M H d x) (h : cutD d lo hi = some d') (q : ∀ v P H', New K M H d' v P H' → Q v H') : rCut K x lo hi H Q := by
  unfold cutD at h
  split at h
  · split at h
    · rename_i z
      cases h
      obtain ⟨a, vs, rfl, ha, r⟩ := low_flat_rels hx z
      exact .inl ⟨a, vs, rfl, SqL.of ha, fun p hp => q _ _ _ (new_lst tr hp (cut_rels r lo hi))⟩
    · cases h
  · cases h
    obtain ⟨a, vs, rfl, ha, r⟩ := any_far hx
    exact .inl ⟨a, vs, rfl, ha.seq, fun p hp => q _ _ _ (new_lst tr hp (cut_rels r lo hi))⟩
  · cases h
    obtain ⟨a, vs, rfl, ha, r⟩ := any_tup hx
    refine .inr (.inl ⟨a, vs, rfl, ha.seq, fun e => ?_, fun _ p hp => q _ _ _ (new_tup tr hp (cut_rels r lo hi))⟩)
    have hl := r.len
    rename_i l
    have e1 : cut l lo hi = l := by
      unfold cut
      rw [hl, e.1, e.2]
      simp only [List.drop_zero, Nat.sub_zero]
      exact List.take_of_length_le (Nat.le_of_eq hl)
    rw [e1] at q
    exact q _ _ _ (.same (by unfold Rel; exact ⟨a, vs, rfl, ha, r⟩))
  · split at h
    · rename_i z
      cases h
      exact .inr (.inr ⟨_, any_str.mp hx, le_line z, q _ _ _ new_str⟩)
    · cases h
  · cases h
variable {p2 : Pos} {σ : L2.St} {Q : VK}
/-- the rows of a slice: what is cut, then its bounds, where they are written -/
def rSl0 (K : PySem.W.Frag) : List V → Hp → VK → Prop := fun vs H Q => ∃ x, vs = [x] ∧ rCut K x none none H Q
def rSlLo (K : PySem.W.Frag) : List V → Hp → VK → Prop := fun vs H Q => ∃ x i, vs = [x, .int i] ∧ rCut K x (some i) none H Q
def rSlHi (K : PySem.W.Frag) : List V → Hp → VK → Prop := fun vs H Q => ∃ x i, vs = [x, .int i] ∧ rCut K x none (some i) H Q
def rSl2 (K : PySem.W.Frag) : List V → Hp → VK → Prop := fun vs H Q => ∃ x i j, vs = [x, .int i, .int j] ∧ rCut K x (some i) (some j) H Q
theorem part_int {d : D} {p : Option Int} {v : V} (h : partD d = some p) (r : RelAny K M H d v) : ∃ i, p = some i ∧ v = .int i := by
  unfold partD at h
  split at h
  · cases h; exact ⟨_, rfl, any_int.mp r⟩
  · cases h
theorem meets_sl0 : Meets K (rSl0 K) (dSl false false) := by
  intro M H ds vs d Q tr p h q
  unfold dSl at h
  split at h
  · obtain ⟨x, rfl, h1⟩ := pair1 p
    exact ⟨x, rfl, cut_meets tr h1 (by simpa using h) q⟩
  · obtain ⟨_, _, h⟩ := Option.bind_eq_some_iff.mp h
    simp at h
  · obtain ⟨_, _, h⟩ := Option.bind_eq_some_iff.mp h
    obtain ⟨_, _, h⟩ := Option.bind_eq_some_iff.mp h
    simp at h
  · cases h
theorem meets_slLo : Meets K (rSlLo K) (dSl true false) := by
  intro M H ds vs d Q tr p h q
  unfold dSl at h
  split at h
  · simp at h
  · obtain ⟨pt, e1, h⟩ := Option.bind_eq_some_iff.mp h
    obtain ⟨x, y, rfl, h1, h2⟩ := pair2 p
    obtain ⟨i, rfl, rfl⟩ := part_int e1 h2
    exact ⟨x, i, rfl, cut_meets tr h1 (by simpa using h) q⟩
  · obtain ⟨_, _, h⟩ := Option.bind_eq_some_iff.mp h
    obtain ⟨_, _, h⟩ := Option.bind_eq_some_iff.mp h
    simp at h
  · cases h
theorem meets_slHi : Meets K (rSlHi K) (dSl false true) := by
  intro M H ds vs d Q tr p h q
  unfold dSl at h
  split at h
  · simp at h
  · obtain ⟨pt, e1, h⟩ := Option.bind_eq_some_iff.mp h
    obtain ⟨x, y, rfl, h1, h2⟩ := pair2 p
    obtain ⟨i, rfl, rfl⟩ := part_int e1 h2
    exact ⟨x, i, rfl, cut_meets tr h1 (by simpa using h) q⟩
  · obtain ⟨_, _, h⟩ := Option.bind_eq_some_iff.mp h
    obtain ⟨_, _, h⟩ := Option.bind_eq_some_iff.mp h
    simp at h
  · cases h
theorem meets_sl2 : Meets K (rSl2 K) (dSl true true) := by
  intro M H ds vs d Q tr p h q
  unfold dSl at h
  split at h
  · simp at h
  · obtain ⟨_, _, h⟩ := Option.bind_eq_some_iff.mp h
    simp at h
  · obtain ⟨pt, e1, h⟩ := Option.bind_eq_some_iff.mp h
    obtain ⟨pu, e2, h⟩ := Option.bind_eq_some_iff.mp h
    obtain ⟨x, y, z, rfl, h1, h2, h3⟩ := pair3 p
    obtain ⟨i, rfl, rfl⟩ := part_int e1 h2
    obtain ⟨j, rfl, rfl⟩ := part_int e2 h3
    exact ⟨x, i, j, rfl, cut_meets tr h1 (by simpa using h) q⟩
  · cases h
theorem oSl0 (ha : PO1 X W a u) : PE X (.Subscript a (.Slice none none none p2) pos) (tM X W (mB (dSl false false) [u])) :=
  peImp (pe_slice sl_all ha po_none po_none) fun σ H Q h => tOpnd_mono (mB_read meets_sl0 h) fun x H1 h1 => by
    obtain ⟨x', e, q⟩ := h1; cases e; exact q
theorem oSlLo (ha : PO1 X W a u) (hb : PO1 X W b w) : PE X (.Subscript a (.Slice (some b) none none p2) pos) (tM X W (mB (dSl true false) [u, w])) :=
  peImp (pe_slice sl_all ha (po_some hb) po_none) fun σ H Q h => tOpnd_mono (mB_read meets_slLo h) fun x H1 h1 => tOpnd_mono h1 fun y H2 h2 => by
    obtain ⟨x', i, e, q⟩ := h2; cases e; exact ⟨i, rfl, q⟩
theorem oSlHi (ha : PO1 X W a u) (hb : PO1 X W b w) : PE X (.Subscript a (.Slice none (some b) none p2) pos) (tM X W (mB (dSl false true) [u, w])) :=
  peImp (pe_slice sl_all ha po_none (po_some hb)) fun σ H Q h => tOpnd_mono (mB_read meets_slHi h) fun x H1 h1 => tOpnd_mono h1 fun y H2 h2 => by
    obtain ⟨x', i, e, q⟩ := h2; cases e; exact ⟨i, rfl, q⟩
/-- an operand's worth stays while others are evaluated -/
def AV.noPt : AV → Bool
  | .pt _ _ => false
  | _ => true
theorem ArgRel.carry {Fr : Own} {e' : Sl} {own own' : Nat → Own} {σ' : L2.St} {H' : Hp} (w' : Went K Fr own H e' own' σ' H') : ∀ {a : AV} {v : V}, a.noPt = true → ArgRel K (Mof Fr own) σ H a v → ArgRel K (Mof Fr own') σ H' a v
  | .nm _, _, _, h => h
  | .pt _ _, _, z, _ => by cases z
  | .v d, _, _, h => Rel.carry (d := d) w' h
/-- two operands, a test of them, a third one -/
def mThree (k : D → D → Option Bool) (stop : Option D) (f : D → D → D → Option D) (u w z : Ar) : ME := fun e => (evA [u, w] e).bind fun q => match q with
  | .exc x e1 => some (.exc x e1)
  | .ok [au, aw] e1 => if au.noPt && aw.noPt then (resolve e1 au).bind fun d1 => (resolve e1 aw).bind fun d2 => (k d1 d2).bind fun b =>
      if b then (evA [z] e1).bind fun q => match q with
        | .exc x e2 => some (.exc x e2)
        | .ok [az] e2 => (resolve e2 au).bind fun d1 => (resolve e2 aw).bind fun d2 => (resolve e2 az).bind fun d3 => (f d1 d2 d3).bind fun d => some (.ok d e2)
        | _ => none
      else stop.bind fun d => some (.ok d e1)
    else none
  | _ => none
/-- as it is read: test, go on, or stop -/
theorem three_read {k : D → D → Option Bool} {stop : Option D} {f : D → D → D → Option D} (h : tM X W (mThree k stop f u w z) σ H Q) :
    tOpnd X W u σ H fun x H1 => tOpnd X W w σ H1 fun y H2 => ∃ M d1 d2 b, (∀ a, M a → H2 a ≠ none) ∧ RelAny X.K M H2 d1 x ∧ RelAny X.K M H2 d2 y ∧ k d1 d2 = some b ∧
      (b = false → ∀ d, stop = some d → flat d = true → ∀ v, plainD d v → Q v H2) ∧
      (b = true → tOpnd X W z σ H2 fun t H3 => ∃ M d1 d2 d3 d, (∀ a, M a → H3 a ≠ none) ∧ RelAny X.K M H3 d1 x ∧ RelAny X.K M H3 d2 y ∧ RelAny X.K M H3 d3 t ∧ f d1 d2 d3 = some d ∧ ∀ v P H', New X.K M H3 d v P H' → Q v H') := by
  obtain ⟨Fr, e, own, r, rp, h1, h2⟩ := h
  unfold mThree at h1
  obtain ⟨q, hq, h1⟩ := Option.bind_eq_some_iff.mp h1
  have key : tAs X W [u, w] σ H fun vs H2 => ∃ x y, vs = [x, y] ∧ (∃ M d1 d2 b, (∀ a, M a → H2 a ≠ none) ∧ RelAny X.K M H2 d1 x ∧ RelAny X.K M H2 d2 y ∧ k d1 d2 = some b ∧
      (b = false → ∀ d, stop = some d → flat d = true → ∀ v, plainD d v → Q v H2) ∧
      (b = true → tOpnd X W z σ H2 fun t H3 => ∃ M d1 d2 d3 d, (∀ a, M a → H3 a ≠ none) ∧ RelAny X.K M H3 d1 x ∧ RelAny X.K M H3 d2 y ∧ RelAny X.K M H3 d3 t ∧ f d1 d2 d3 = some d ∧ ∀ v P H', New X.K M H3 d v P H' → Q v H')) := by
    refine evA_read rp hq ?_
    cases q with
    | exc x e1 => cases h1; exact h2
    | ok l e1 =>
      intro vs own1 H1 w1 p
      match l, h1, p with
      | [], h1, _ => cases h1
      | [_], h1, _ => cases h1
      | _ :: _ :: _ :: _, h1, _ => cases h1
      | [au, aw], h1, p =>
        obtain ⟨x, y, rfl, p1, p2⟩ := pair2 p
        refine ⟨x, y, rfl, ?_⟩
        dsimp only at h1
        split at h1
        · rename_i np
          rw [Bool.and_eq_true] at np
          obtain ⟨d1, r1, h1⟩ := Option.bind_eq_some_iff.mp h1
          obtain ⟨d2, r2', h1⟩ := Option.bind_eq_some_iff.mp h1
          obtain ⟨b, hb, h1⟩ := Option.bind_eq_some_iff.mp h1
          refine ⟨_, d1, d2, b, w1.rep.tr, resolve_rel w1.rep p1 r1, resolve_rel w1.rep p2 r2', hb, fun eb d hd _ v pv => ?_, fun eb => ?_⟩
          · subst eb
            rw [if_neg Bool.false_ne_true, hd] at h1
            cases h1
            exact h2 v nobody own1 H1 (w1.val (plain_rel pv))
          · subst eb
            rw [if_pos rfl] at h1
            obtain ⟨q2, hq2, h1⟩ := Option.bind_eq_some_iff.mp h1
            have key2 : tAs X W [z] σ H1 fun vs H3 => ∃ t, vs = [t] ∧ ∃ M d1 d2 d3 d, (∀ a, M a → H3 a ≠ none) ∧ RelAny X.K M H3 d1 x ∧ RelAny X.K M H3 d2 y ∧ RelAny X.K M H3 d3 t ∧ f d1 d2 d3 = some d ∧ ∀ v P H', New X.K M H3 d v P H' → Q v H' := by
              refine evA_read w1.rep hq2 ?_
              cases q2 with
              | exc x e2 => cases h1; exact fun c dx own2 H2 w2 xr => h2 c dx own2 H2 (w1.trans w2) xr
              | ok l2 e2 =>
                intro vs2 own2 H2 w2 p3
                match l2, h1, p3 with
                | [], h1, _ => cases h1
                | _ :: _ :: _, h1, _ => cases h1
                | [az], h1, p3 =>
                  obtain ⟨t, rfl, p4⟩ := pair1 p3
                  obtain ⟨d1', s1, h1⟩ := Option.bind_eq_some_iff.mp h1
                  obtain ⟨d2', s2, h1⟩ := Option.bind_eq_some_iff.mp h1
                  obtain ⟨d3', s3, h1⟩ := Option.bind_eq_some_iff.mp h1
                  obtain ⟨d, s4, h1⟩ := Option.bind_eq_some_iff.mp h1
                  cases h1
                  exact ⟨t, rfl, _, d1', d2', d3', d, w2.rep.tr, resolve_rel w2.rep (p1.carry w2 np.1) s1, resolve_rel w2.rep (p2.carry w2 np.2) s2, resolve_rel w2.rep p4 s3, s4,
                    fun v P H' n => h2 v P own2 H' ((w1.trans w2).got (n.got w2.rep))⟩
            refine tOpnd_mono key2 fun t H3 h3 => ?_
            obtain ⟨t', e3, h3⟩ := h3
            cases e3
            exact h3
        · cases h1
  refine tOpnd_mono key fun x H1 h1 => tOpnd_mono h1 fun y H2 h2 => ?_
  obtain ⟨x', y', e3, h3⟩ := h2
  cases e3
  exact h3
def isIntD : D → Bool
  | .int _ => true
  | _ => false
def kSl (_ y : D) : Option Bool := if isIntD y then some true else none
def fSl (x y z : D) : Option D := (partD y).bind fun p => (partD z).bind fun q => cutD x p q
theorem oSl2 (ha : PO1 X W a u) (hb : PO1 X W b w) (hc : PO1 X W c z) : PE X (.Subscript a (.Slice (some b) (some c) none p2) pos) (tM X W (mThree kSl none fSl u w z)) := by
  refine peImp (pe_slice sl_all ha (po_some hb) (po_some hc)) fun σ H Q h => tOpnd_mono (three_read h) fun x H1 h1 => tOpnd_mono h1 fun y H2 h2 => ?_
  obtain ⟨M, d1, d2, b, tr, r1, r2', hk, _, go⟩ := h2
  unfold kSl at hk
  split at hk
  · rename_i z2
    cases hk
    have ey : ∃ i, y = .int i := by
      cases d2 <;> first | (cases z2; done) | exact ⟨_, any_int.mp r2'⟩
    obtain ⟨i, rfl⟩ := ey
    refine ⟨i, rfl, tOpnd_mono (go rfl) fun t H3 h3 => ?_⟩
    obtain ⟨M', d1', d2', d3', d, tr', s1, s2, s3, hf, q⟩ := h3
    unfold fSl at hf
    obtain ⟨p, hp, hf⟩ := Option.bind_eq_some_iff.mp hf
    obtain ⟨p', hp', hf⟩ := Option.bind_eq_some_iff.mp hf
    obtain ⟨i', rfl, e1⟩ := part_int hp s2
    cases e1
    obtain ⟨j, rfl, rfl⟩ := part_int hp' s3
    exact ⟨j, rfl, cut_meets tr' s1 hf q⟩
  · cases hk
/-! ### chains a op b op' c -/
def kCh (g : List D → Option D) (x y : D) : Option Bool := (g [x, y]).bind fun d => match d with
  | .bl b => some b
  | _ => none
def fCh (g' : List D → Option D) (_ y z : D) : Option D := g' [y, z]
/-- as Meets, the heap as it was -/
def MeetsB (K : PySem.W.Frag) (r : R2) (g : List D → Option D) : Prop :=
  ∀ (M : Own) (H : Hp) (d1 d2 : D) (x y : V) (b : Bool) (Q : VK), (∀ a, M a → H a ≠ none) → RelAny K M H d1 x → RelAny K M H d2 y → g [d1, d2] = some (.bl b) → Q (.bl b) H → r x y H Q
theorem meetsB_I0 {K : PySem.W.Frag} {g : Int → Int → Bool} {f : List D → Option D} (hf : ∀ ds d, f ds = some d → ∃ i j, ds = [.int i, .int j] ∧ d = .bl (g i j)) : MeetsB K (rI0 fun i j => .bl (g i j)) f := by
  intro M H d1 d2 x y b Q tr h1 h2 h q
  obtain ⟨i, j, e1, e2⟩ := hf _ _ h
  cases e1
  cases e2
  exact ⟨i, j, any_int.mp h1, any_int.mp h2, q⟩
theorem mb_lt : MeetsB K (rI0 fun i j => .bl (decide (i < j))) dLt := meetsB_I0 fun ds d h => by unfold dLt at h; split at h <;> cases h; exact ⟨_, _, rfl, rfl⟩
theorem mb_le : MeetsB K (rI0 fun i j => .bl (decide (i ≤ j))) dLe := meetsB_I0 fun ds d h => by unfold dLe at h; split at h <;> cases h; exact ⟨_, _, rfl, rfl⟩
theorem mb_gt : MeetsB K (rI0 fun i j => .bl (decide (j < i))) dGt := meetsB_I0 fun ds d h => by unfold dGt at h; split at h <;> cases h; exact ⟨_, _, rfl, rfl⟩
theorem mb_ge : MeetsB K (rI0 fun i j => .bl (decide (j ≤ i))) dGe := meetsB_I0 fun ds d h => by unfold dGe at h; split at h <;> cases h; exact ⟨_, _, rfl, rfl⟩
theorem rd_chain {r r' : R2} {g g' : List D → Option D} (hm : MeetsB X.K r g) (hm' : Meets X.K (r2 r') g') (h : tM X W (mThree (kCh g) (some (.bl false)) (fCh g') u w z) σ H Q) :
    tChain r r' (tOpnd X W u) (tOpnd X W w) (tOpnd X W z) σ H Q := by
  refine tOpnd_mono (three_read h) fun x H1 h1 => tOpnd_mono h1 fun y H2 h2 => ?_
  obtain ⟨M, d1, d2, b, tr, s1, s2, hk, st, go⟩ := h2
  unfold kCh at hk
  obtain ⟨d, hg, hk⟩ := Option.bind_eq_some_iff.mp hk
  have hd : d = .bl b := by
    cases d <;> first | (cases hk; done) | (cases hk; rfl)
  subst hd
  refine hm M H2 d1 d2 x y b _ tr s1 s2 hg ⟨b, rfl, ?_⟩
  cases b with
  | false =>
    rw [if_neg Bool.false_ne_true]
    exact st rfl _ rfl rfl _ rfl
  | true =>
    rw [if_pos rfl]
    refine tOpnd_mono (go rfl) fun t H3 h3 => ?_
    obtain ⟨M', d1', d2', d3', d, tr', s3, s4, s5, hf, q⟩ := h3
    obtain ⟨y', t', e1, q1⟩ := hm' M' H3 [d2', d3'] [y, t] d Q tr' (.cons s4 (.cons s5 .nil)) hf q
    cases e1
    exact q1
theorem oChain {op op' : CmpOp} {r r' : R2} {g g' : List D → Option D} (ho : OpR X (compareOp op) r) (ho' : OpR X (compareOp op') r') (hm : MeetsB X.K r g) (hm' : Meets X.K (r2 r') g')
    (ha : PO1 X W a u) (hb : PO1 X W b w) (hc : PO1 X W c z) (hk : lastMarks [op, op'] [b, c] = false := by with_unfolding_all rfl) : PE X (.Compare a [op, op'] [b, c] pos) (tM X W (mThree (kCh g) (some (.bl false)) (fCh g') u w z)) :=
  peImp (pe_chain ho ho' ha hb hc hk) fun _ _ _ h => rd_chain hm hm' h
theorem cChain {op op' : CmpOp} {r r' : R2} {g g' : List D → Option D} (ho : OpR X (compareOp op) r) (ho' : OpR X (compareOp op') r') (hm : MeetsB X.K r g) (hm' : Meets X.K (r2 r') g')
    (ha : PO1 X W a u) (hb : PO1 X W b w) (hc : PO1 X W c z) (hk : lastMarks [op, op'] [b, c] = false := by with_unfolding_all rfl) : PT X (.Compare a [op, op'] [b, c] pos) (tTm X W (mThree (kCh g) (some (.bl false)) (fCh g') u w z)) :=
  ⟨fun pins s σ H Q I h => (pt_chain ho ho' ha hb hc hk).run pins s σ H Q I (rd_chain hm hm' (tb_of h))⟩

/-! ### calls of built-ins -/
theorem oCallB {id : String} {x : Str} {p : Pos} {r : List V → Hp → VK → Prop} {g : List D → Option D} (hc : CallR X (.builtin id) r) (hm : Meets X.K r g) (ha : PAs X W (a :: es) us) (hg : Gl X x) (hx : X.mg x = none) (hv : bootBuiltins x = some (.builtin id))
    (hn : x ≠ "__name__" := by decide) (hdb : (x == ("__debug__" : Str)) = false := by decide)
    (he : starEach (a :: es) X.env = (false, eval a X.env) :: starEach es X.env := by rfl) (hpl : (backTo pos (starEach es X.env)).any (·.1) = false := by rfl) : PE X (.Call (.Name x p) (a :: es) [] pos) (tM X W (mB g us)) :=
  peImp (pe_callB hc hg hx hv ha hn hdb he hpl) fun _ _ _ h => mB_read hm h
theorem oCallT {T : String} {x : Str} {p : Pos} {r : List V → Hp → VK → Prop} {g : List D → Option D} (hc : CallR X (.type T) r) (hm : Meets X.K r g) (ha : PAs X W (a :: es) us) (hg : Gl X x) (hx : X.mg x = none) (hv : bootBuiltins x = some (.type T))
    (hn : x ≠ "__name__" := by decide) (hdb : (x == ("__debug__" : Str)) = false := by decide)
    (he : starEach (a :: es) X.env = (false, eval a X.env) :: starEach es X.env := by rfl) (hpl : (backTo pos (starEach es X.env)).any (·.1) = false := by rfl) : PE X (.Call (.Name x p) (a :: es) [] pos) (tM X W (mB g us)) :=
  peImp (pe_callTy hc hg hx hv ha hn hdb he hpl) fun _ _ _ h => mB_read hm h
/-! what they give -/
def dLen : List D → Option D
  | [.lst _ l] => some (.int l.length)
  | [.tup l] => some (.int l.length)
  | [.far l] => some (.int l.length)
  | [.str s] => if s.length ≤ 16777216 then some (.int s.length) else none
  | _ => none
theorem meets_len : Meets K (fun xs H Q => ∃ x n, xs = [x] ∧ LenV K x H n ∧ Q (.int n) H) dLen := by
  intro M H ds vs d Q tr p h q
  unfold dLen at h
  split at h
  · obtain ⟨x, rfl, h1⟩ := pair1 p
    cases h
    obtain ⟨a, vs, f, rfl, ha, r⟩ := any_lst h1
    exact ⟨_, _, rfl, .inl ⟨vs, SqL.of ha, r.len⟩, q _ _ _ new_int⟩
  · obtain ⟨x, rfl, h1⟩ := pair1 p
    cases h
    obtain ⟨a, vs, rfl, ha, r⟩ := any_tup h1
    exact ⟨_, _, rfl, .inr ⟨vs, ha.seq, r.len⟩, q _ _ _ new_int⟩
  · obtain ⟨x, rfl, h1⟩ := pair1 p
    cases h
    obtain ⟨a, vs, rfl, ha, r⟩ := any_far h1
    exact ⟨_, _, rfl, .inl ⟨vs, ha.seq, r.len⟩, q _ _ _ new_int⟩
  · obtain ⟨x, rfl, h1⟩ := pair1 p
    split at h
    · rename_i z; cases h
      have h1 := any_str.mp h1
      subst h1
      exact ⟨_, _, rfl, ⟨le_line z, rfl⟩, q _ _ _ new_int⟩
    · cases h
  · cases h
def dAbs : List D → Option D
  | [.int i] => some (.int (if i < 0 then -i else i))
  | _ => none
theorem meets_abs : Meets K (fun xs H Q => ∃ i, xs = [.int i] ∧ Q (.int (if i < 0 then -i else i)) H) dAbs := by
  intro M H ds vs d Q tr p h q
  unfold dAbs at h
  split at h
  · obtain ⟨x, rfl, h1⟩ := pair1 p
    cases h
    exact ⟨_, by rw [any_int.mp h1], q _ _ _ new_int⟩
  · cases h
def dInt : List D → Option D
  | [.int i] => some (.int i)
  | [.bl b] => some (.int (if b then 1 else 0))
  | _ => none
theorem meets_int : Meets K (fun xs H Q => (∃ i, xs = [.int i] ∧ Q (.int i) H) ∨ ∃ k, xs = [.bl k] ∧ Q (.int (if k then 1 else 0)) H) dInt := by
  intro M H ds vs d Q tr p h q
  unfold dInt at h
  split at h
  · obtain ⟨x, rfl, h1⟩ := pair1 p
    cases h
    exact .inl ⟨_, by rw [any_int.mp h1], q _ _ _ new_int⟩
  · obtain ⟨x, rfl, h1⟩ := pair1 p
    cases h
    exact .inr ⟨_, by rw [any_bl.mp h1], q _ _ _ new_int⟩
  · cases h
def dList : List D → Option D
  | [.lst _ l] => if low l then some (.lst true l) else none
  | [.tup l] => some (.lst true l)
  | [.far l] => some (.lst true l)
  | _ => none
theorem meets_list : Meets K (fun xs H Q => ∃ p ys, xs = [.ref p] ∧ (SqL K H p ys ∨ SqT K H p ys) ∧ ∀ l, H l = none → Q (.ref l) (upd H l (.lst ys))) dList := by
  intro M H ds vs d Q tr p h q
  unfold dList at h
  split at h
  · obtain ⟨x, rfl, h1⟩ := pair1 p
    split at h
    · rename_i z; cases h
      obtain ⟨a, vs, rfl, ha, r⟩ := low_flat_rels h1 z
      exact ⟨a, vs, rfl, .inl (SqL.of ha), fun l hl => q _ _ _ (new_lst tr hl r)⟩
    · cases h
  · obtain ⟨x, rfl, h1⟩ := pair1 p
    cases h
    obtain ⟨a, vs, rfl, ha, r⟩ := any_tup h1
    exact ⟨a, vs, rfl, .inr ha.seq, fun l hl => q _ _ _ (new_lst tr hl r)⟩
  · obtain ⟨x, rfl, h1⟩ := pair1 p
    cases h
    obtain ⟨a, vs, rfl, ha, r⟩ := any_far h1
    exact ⟨a, vs, rfl, .inl ha.seq, fun l hl => q _ _ _ (new_lst tr hl r)⟩
  · cases h
def dTuple : List D → Option D
  | [.lst _ l] => if low l then some (.tup l) else none
  | [.tup l] => some (.tup l)
  | [.far l] => some (.tup l)
  | _ => none
theorem meets_tuple : Meets K (fun xs H Q => ∃ p ys, xs = [.ref p] ∧ ((SqL K H p ys ∧ ∀ l, H l = none → Q (.ref l) (upd H l (.tup ys))) ∨ (SqT K H p ys ∧ Q (.ref p) H))) dTuple := by
  intro M H ds vs d Q tr p h q
  unfold dTuple at h
  split at h
  · obtain ⟨x, rfl, h1⟩ := pair1 p
    split at h
    · rename_i z; cases h
      obtain ⟨a, vs, rfl, ha, r⟩ := low_flat_rels h1 z
      exact ⟨a, vs, rfl, .inl ⟨SqL.of ha, fun l hl => q _ _ _ (new_tup tr hl r)⟩⟩
    · cases h
  · obtain ⟨x, rfl, h1⟩ := pair1 p
    cases h
    obtain ⟨a, vs, rfl, ha, r⟩ := any_tup h1
    exact ⟨a, vs, rfl, .inr ⟨ha.seq, q _ _ _ (.same (by unfold Rel; exact ⟨a, vs, rfl, ha, r⟩))⟩⟩
  · obtain ⟨x, rfl, h1⟩ := pair1 p
    cases h
    obtain ⟨a, vs, rfl, ha, r⟩ := any_far h1
    exact ⟨a, vs, rfl, .inl ⟨ha.seq, fun l hl => q _ _ _ (new_tup tr hl r)⟩⟩
  · cases h
def intsD : List D → Option (List Int)
  | [] => some []
  | .int i :: l => (intsD l).bind fun r => some (i :: r)
  | _ :: _ => none
def boolsD : List D → Option (List Bool)
  | [] => some []
  | .bl i :: l => (boolsD l).bind fun r => some (i :: r)
  | _ :: _ => none
def strsD : List D → Option (List Str)
  | [] => some []
  | .str i :: l => (strsD l).bind fun r => some (i :: r)
  | _ :: _ => none
theorem intsD_map : ∀ ns : List Int, intsD (ns.map D.int) = some ns
  | [] => rfl
  | n :: ns => by show ((intsD (ns.map D.int)).bind fun r => some (n :: r)) = _; rw [intsD_map ns]; rfl
theorem boolsD_map : ∀ ns : List Bool, boolsD (ns.map D.bl) = some ns
  | [] => rfl
  | n :: ns => by show ((boolsD (ns.map D.bl)).bind fun r => some (n :: r)) = _; rw [boolsD_map ns]; rfl
theorem strsD_map : ∀ ns : List Str, strsD (ns.map D.str) = some ns
  | [] => rfl
  | n :: ns => by show ((strsD (ns.map D.str)).bind fun r => some (n :: r)) = _; rw [strsD_map ns]; rfl
theorem intsD_eq : ∀ {l : List D} {ns : List Int}, intsD l = some ns → l = ns.map D.int
  | [], ns, h => by cases h; rfl
  | d :: l, ns, h => by
    cases d with
    | int i => obtain ⟨r, h1, h2⟩ := Option.bind_eq_some_iff.mp h; cases h2; rw [intsD_eq h1]; rfl
    | _ => cases h
theorem boolsD_eq : ∀ {l : List D} {ns : List Bool}, boolsD l = some ns → l = ns.map D.bl
  | [], ns, h => by cases h; rfl
  | d :: l, ns, h => by
    cases d with
    | bl i => obtain ⟨r, h1, h2⟩ := Option.bind_eq_some_iff.mp h; cases h2; rw [boolsD_eq h1]; rfl
    | _ => cases h
theorem strsD_eq : ∀ {l : List D} {ns : List Str}, strsD l = some ns → l = ns.map D.str
  | [], ns, h => by cases h; rfl
  | d :: l, ns, h => by
    cases d with
    | str i => obtain ⟨r, h1, h2⟩ := Option.bind_eq_some_iff.mp h; cases h2; rw [strsD_eq h1]; rfl
    | _ => cases h
theorem rels_ints {f : Nat → Own} : ∀ {ns : List Int} {vs : List V} {f : Nat → Own}, Rels K M H (ns.map D.int) vs f → vs = ns.map V.int
  | [], _, _, h => by unfold List.map Rels at h; rw [h]; rfl
  | n :: ns, _, _, h => by
    simp only [List.map_cons] at h
    unfold Rels at h
    obtain ⟨v, r, rfl, h1, h2⟩ := h
    unfold Rel at h1
    subst h1
    rw [rels_ints (f := f) h2]
    rfl
theorem rels_bools {f : Nat → Own} : ∀ {ns : List Bool} {vs : List V} {f : Nat → Own}, Rels K M H (ns.map D.bl) vs f → vs = ns.map V.bl
  | [], _, _, h => by unfold List.map Rels at h; rw [h]; rfl
  | n :: ns, _, _, h => by
    simp only [List.map_cons] at h
    unfold Rels at h
    obtain ⟨v, r, rfl, h1, h2⟩ := h
    unfold Rel at h1
    subst h1
    rw [rels_bools (f := f) h2]
    rfl
theorem rels_of_ints : ∀ ns : List Int, Rels K M H (ns.map D.int) (ns.map V.int) nobodies
  | [] => by unfold List.map Rels; rfl
  | n :: ns => by
    simp only [List.map_cons]
    unfold Rels
    exact ⟨_, _, rfl, by unfold Rel; rfl, rels_of_ints ns⟩
/-- the items of a list -/
def listD : D → Option (List D)
  | .lst _ l => some l
  | .far l => some l
  | _ => none
theorem listD_rel {d : D} {l : List D} {x : V} (hl : listD d = some l) (h : RelAny K M H d x) : ∃ a vs f, x = .ref a ∧ SqL K H a vs ∧ Rels K M H l vs f := by
  unfold listD at hl
  split at hl
  · cases hl
    obtain ⟨a, vs, f, rfl, ha, r⟩ := any_lst h
    exact ⟨a, vs, f, rfl, SqL.of ha, r⟩
  · cases hl
    obtain ⟨a, vs, rfl, ha, r⟩ := any_far h
    exact ⟨a, vs, _, rfl, ha.seq, r⟩
  · cases hl
/-- what is told of the ints of a list -/
def onInts (f : List Int → Option D) : List D → Option D
  | [d] => (listD d).bind fun l => (intsD l).bind f
  | _ => none
def onBools (f : List Bool → D) : List D → Option D
  | [d] => (listD d).bind fun l => (boolsD l).bind fun bs => some (f bs)
  | _ => none
theorem onInts_of {f : List Int → Option D} {ds : List D} {vs : List V} {d : D} (p : Paired (RelAny K M H) ds vs) (h : onInts f ds = some d) : ∃ a ns, vs = [.ref a] ∧ SqL K H a (ns.map V.int) ∧ f ns = some d := by
  unfold onInts at h
  split at h
  · obtain ⟨x, rfl, h1⟩ := pair1 p
    obtain ⟨l, e1, h⟩ := Option.bind_eq_some_iff.mp h
    obtain ⟨ns, e2, h⟩ := Option.bind_eq_some_iff.mp h
    obtain ⟨a, vs, f', rfl, ha, r⟩ := listD_rel e1 h1
    rw [intsD_eq e2] at r
    rw [rels_ints (f := f') r] at ha
    exact ⟨a, ns, rfl, ha, h⟩
  · cases h
theorem onBools_of {f : List Bool → D} {ds : List D} {vs : List V} {d : D} (p : Paired (RelAny K M H) ds vs) (h : onBools f ds = some d) : ∃ a ns, vs = [.ref a] ∧ SqL K H a (ns.map V.bl) ∧ d = f ns := by
  unfold onBools at h
  split at h
  · obtain ⟨x, rfl, h1⟩ := pair1 p
    obtain ⟨l, e1, h⟩ := Option.bind_eq_some_iff.mp h
    obtain ⟨ns, e2, h⟩ := Option.bind_eq_some_iff.mp h
    cases h
    obtain ⟨a, vs, f', rfl, ha, r⟩ := listD_rel e1 h1
    rw [boolsD_eq e2] at r
    rw [rels_bools (f := f') r] at ha
    exact ⟨a, ns, rfl, ha, rfl⟩
  · cases h
def dSum : List D → Option D := onInts fun ns => some (.int ns.sum)
def dAll : List D → Option D := onBools fun bs => .bl (bs.all id)
def dAny : List D → Option D := onBools fun bs => .bl (bs.any id)
def maxI : List Int → Int
  | [] => 0
  | [i] => i
  | i :: l => if i < maxI l then maxI l else i
def minI : List Int → Int
  | [] => 0
  | [i] => i
  | i :: l => if minI l < i then minI l else i
def dMax : List D → Option D := onInts fun ns => if ns.isEmpty then none else some (.int (maxI ns))
def dMin : List D → Option D := onInts fun ns => if ns.isEmpty then none else some (.int (minI ns))
theorem maxI_is : ∀ {ns : List Int} {m : Int}, m ∈ ns → (∀ y ∈ ns, y ≤ m) → m = maxI ns
  | [], _, h, _ => by cases h
  | [i], m, h, _ => by simp at h; exact h
  | i :: j :: l, m, h, hm => by
    unfold maxI
    rcases List.mem_cons.mp h with rfl | h'
    · have : ∀ k : List Int, k ≠ [] → maxI k ∈ k := by
        intro k
        induction k with
        | nil => intro z; exact absurd rfl z
        | cons x k ih =>
          intro _
          cases k with
          | nil => simp [maxI]
          | cons y k =>
            unfold maxI
            split
            · exact List.mem_cons_of_mem _ (ih (by simp))
            · exact List.mem_cons_self
      have h1 := hm _ (List.mem_cons_of_mem _ (this (j :: l) (by simp)))
      rw [if_neg (by omega)]
    · have ih := maxI_is h' fun y hy => hm y (List.mem_cons_of_mem _ hy)
      have h2 := hm i List.mem_cons_self
      rw [← ih]
      split <;> omega
theorem minI_is : ∀ {ns : List Int} {m : Int}, m ∈ ns → (∀ y ∈ ns, m ≤ y) → m = minI ns
  | [], _, h, _ => by cases h
  | [i], m, h, _ => by simp at h; exact h
  | i :: j :: l, m, h, hm => by
    unfold minI
    rcases List.mem_cons.mp h with rfl | h'
    · have : ∀ k : List Int, k ≠ [] → minI k ∈ k := by
        intro k
        induction k with
        | nil => intro z; exact absurd rfl z
        | cons x k ih =>
          intro _
          cases k with
          | nil => simp [minI]
          | cons y k =>
            unfold minI
            split
            · exact List.mem_cons_of_mem _ (ih (by simp))
            · exact List.mem_cons_self
      have h1 := hm _ (List.mem_cons_of_mem _ (this (j :: l) (by simp)))
      rw [if_neg (by omega)]
    · have ih := minI_is h' fun y hy => hm y (List.mem_cons_of_mem _ hy)
      have h2 := hm i List.mem_cons_self
      rw [← ih]
      split <;> omega
theorem meets_sum : Meets K (rSum K) dSum := by
  intro M H ds vs d Q tr p h q
  obtain ⟨a, ns, rfl, ha, e⟩ := onInts_of p h
  cases e
  exact ⟨a, ns, rfl, ha, q _ _ _ new_int⟩
theorem meets_all : Meets K (rAll K) dAll := by
  intro M H ds vs d Q tr p h q
  obtain ⟨a, ns, rfl, ha, e⟩ := onBools_of p h
  cases e
  exact ⟨a, ns, rfl, ha, q _ _ _ new_bl⟩
theorem meets_any : Meets K (rAny K) dAny := by
  intro M H ds vs d Q tr p h q
  obtain ⟨a, ns, rfl, ha, e⟩ := onBools_of p h
  cases e
  exact ⟨a, ns, rfl, ha, q _ _ _ new_bl⟩
theorem meets_max : Meets K (rMax K) dMax := by
  intro M H ds vs d Q tr p h q
  obtain ⟨a, ns, rfl, ha, e⟩ := onInts_of p h
  split at e
  · cases e
  · rename_i z
    cases e
    refine ⟨a, ns, rfl, ha, ?_, fun m h1 h2 => by rw [maxI_is h1 h2]; exact q _ _ _ new_int⟩
    cases ns <;> simp at z ⊢
theorem meets_min : Meets K (rMin K) dMin := by
  intro M H ds vs d Q tr p h q
  obtain ⟨a, ns, rfl, ha, e⟩ := onInts_of p h
  split at e
  · cases e
  · rename_i z
    cases e
    refine ⟨a, ns, rfl, ha, ?_, fun m h1 h2 => by rw [minI_is h1 h2]; exact q _ _ _ new_int⟩
    cases ns <;> simp at z ⊢
def dMax2 : List D → Option D
  | [.int i, .int j] => some (.int (if j > i then j else i))
  | _ => none
def dMin2 : List D → Option D
  | [.int i, .int j] => some (.int (if j < i then j else i))
  | _ => none
theorem meets_max2 : Meets K (fun xs H Q => ∃ i j, xs = [.int i, .int j] ∧ Q (.int (if j > i then j else i)) H) dMax2 := by
  intro M H ds vs d Q tr p h q
  unfold dMax2 at h
  split at h
  · obtain ⟨x, y, rfl, h1, h2⟩ := pair2 p
    cases h
    exact ⟨_, _, by rw [any_int.mp h1, any_int.mp h2], q _ _ _ new_int⟩
  · cases h
theorem meets_min2 : Meets K (fun xs H Q => ∃ i j, xs = [.int i, .int j] ∧ Q (.int (if j < i then j else i)) H) dMin2 := by
  intro M H ds vs d Q tr p h q
  unfold dMin2 at h
  split at h
  · obtain ⟨x, y, rfl, h1, h2⟩ := pair2 p
    cases h
    exact ⟨_, _, by rw [any_int.mp h1, any_int.mp h2], q _ _ _ new_int⟩
  · cases h
end
end Ow

set_option Elab.async false
set_option autoImplicit false
set_option linter.all false
set_option maxRecDepth 100000
/-! Ow, part 8: statements. -/
namespace Ow
open PySem PySem.Spec PyProof.Rows L2

inductive SR where
  | nx (e : Sl) | rt (d : D) (e : Sl) | bk (e : Sl) | ct (e : Sl) | exc (x : XD) (e : Sl)
abbrev MS := Sl → Option SR
/-- a step of a body: the slots that fx names are as they were -/
structure Step (K : PySem.W.Frag) (fx : Nat → Bool) (Fr : Own) (own : Nat → Own) (σ : L2.St) (H : Hp) (e' : Sl) (own' : Nat → Own) (σ' : L2.St) (H' : Hp) : Prop where
  went : Went K Fr own H e' own' σ' H'
  fixed : ∀ i, fx i = true → σ'[i]? = σ[i]?
def SWish (X : Cx) (W : WX) (fx : Nat → Bool) (D : Ends) (Fr : Own) (own : Nat → Own) (σ : L2.St) (H : Hp) : SR → Prop
  | .nx e' => ∀ own' σ' H', Step X.K fx Fr own σ H e' own' σ' H' → D.nx σ' H'
  | .bk e' => ∀ own' σ' H', Step X.K fx Fr own σ H e' own' σ' H' → D.bk σ' H'
  | .ct e' => ∀ own' σ' H', Step X.K fx Fr own σ H e' own' σ' H' → D.ct σ' H'
  | .rt d e' => ∀ v P own' σ' H', Got X.K Fr own H e' own' σ' H' d v P → (∀ i, fx i = true → σ'[i]? = σ[i]?) → D.rt v H'
  | .exc x e' => ∀ c dx own' σ' H', Step X.K fx Fr own σ H e' own' σ' H' → XRel X.K X.mg (Mof Fr own') H' x c dx → W c dx σ' H'
def tS (X : Cx) (W : WX) (fx : Nat → Bool) (m : MS) : TS := fun D σ H => ∃ Fr e own r, Rep X.K Fr e own σ H ∧ m e = some r ∧ SWish X W fx D Fr own σ H r

/-! ### meanings -/
def sNx : MS := fun e => some (.nx e)
def sBk : MS := fun e => some (.bk e)
def sCt : MS := fun e => some (.ct e)
def sSeq (m1 m2 : MS) : MS := fun e => (m1 e).bind fun r => match r with
  | .nx e' => m2 e'
  | r => some r
def sIf (c : ME) (m1 m2 : MS) : MS := fun e => (c e).bind fun r => match r with
  | .ok (.bl true) e' => m1 e'
  | .ok (.bl false) e' => m2 e'
  | .ok _ _ => none
  | .exc x e' => some (.exc x e')
def sRt (m : ME) : MS := fun e => (m e).bind fun r => match r with
  | .ok d e' => some (.rt d e')
  | .exc x e' => some (.exc x e')
def sDo (m : ME) : MS := fun e => (m e).bind fun r => match r with
  | .ok _ e' => some (.nx e')
  | .exc x e' => some (.exc x e')
/-- name = value; what the value owns is the name's -/
def sSet (i : Nat) (m : ME) : MS := fun e => (m e).bind fun r => match r with
  | .ok d e' => some (.nx (e'.set i (some d)))
  | .exc x e' => some (.exc x e')

section
variable {X : Cx} {W : WX} {fx : Nat → Bool} {K : PySem.W.Frag} {M Fr : Own} {e e' : Sl} {own own' : Nat → Own} {σ σ' : L2.St} {H H' : Hp} {d d' : D} {v : V} {P : Own} {m m1 m2 : ME} {s1 s2 : MS} {D : Ends}
theorem Rep.step (r : Rep K Fr e own σ H) : Step K fx Fr own σ H e own σ H := ⟨r.refl, fun _ _ => rfl⟩
theorem Step.trans {own1 : Nat → Own} {σ1 : L2.St} {H1 : Hp} {e1 : Sl} (a : Step K fx Fr own σ H e1 own1 σ1 H1) (b : Step K fx Fr own1 σ1 H1 e' own' σ' H') : Step K fx Fr own σ H e' own' σ' H' :=
  ⟨a.went.trans b.went, fun i h => (b.fixed i h).trans (a.fixed i h)⟩
theorem Went.step (w : Went K Fr own H e' own' σ H') : Step K fx Fr own σ H e' own' σ H' := ⟨w, fun _ _ => rfl⟩
/-- go on behind a step -/
theorem contS {own1 : Nat → Own} {σ1 : L2.St} {H1 : Hp} {e1 : Sl} {r : SR} (w : Step X.K fx Fr own σ H e1 own1 σ1 H1) (h : SWish X W fx D Fr own σ H r) : SWish X W fx D Fr own1 σ1 H1 r := by
  cases r with
  | nx e2 => exact fun o s H2 z => h o s H2 (w.trans z)
  | bk e2 => exact fun o s H2 z => h o s H2 (w.trans z)
  | ct e2 => exact fun o s H2 z => h o s H2 (w.trans z)
  | rt d e2 => exact fun v P o s H2 g f => h v P o s H2 (w.went.got g) fun i z => (f i z).trans (w.fixed i z)
  | exc x e2 => exact fun c dx o s H2 z xr => h c dx o s H2 (w.trans z) xr
theorem sImp {st : Stmt} {t t' : TS} (h : PS X st t) (w : ∀ D σ H, t' D σ H → t D σ H) : PS X st t' := ⟨fun pins s σ H D I q => h.run pins s σ H D I (w D σ H q)⟩
theorem ssImp {st : List Stmt} {t t' : TS} (h : PSs X st t) (w : ∀ D σ H, t' D σ H → t D σ H) : PSs X st t' := ⟨fun pins s σ H D I q => h.run pins s σ H D I (w D σ H q)⟩
variable {st : Stmt} {sts : List Stmt} {pos : Pos} {a b c : Expr}
theorem bNil : PSs X [] (tS X W fx sNx) := ssImp pss_nil fun D σ H h => by
  obtain ⟨Fr, e, own, r, rp, h1, h2⟩ := h
  cases h1
  exact h2 own σ H rp.step
theorem pPass : PS X (.Pass pos) (tS X W fx sNx) := sImp ps_pass fun D σ H h => by
  obtain ⟨Fr, e, own, r, rp, h1, h2⟩ := h
  cases h1
  exact h2 own σ H rp.step
theorem pBk : PS X (.Break pos) (tS X W fx sBk) := sImp ps_break fun D σ H h => by
  obtain ⟨Fr, e, own, r, rp, h1, h2⟩ := h
  cases h1
  exact h2 own σ H rp.step
theorem pCt : PS X (.Continue pos) (tS X W fx sCt) := sImp ps_continue fun D σ H h => by
  obtain ⟨Fr, e, own, r, rp, h1, h2⟩ := h
  cases h1
  exact h2 own σ H rp.step
theorem bOne (h : PS X st (tS X W fx s1)) : PSs X [st] (tS X W fx s1) := pss_one h
theorem bCons (h1 : PS X st (tS X W fx s1)) (h2 : PSs X sts (tS X W fx s2)) : PSs X (st :: sts) (tS X W fx (sSeq s1 s2)) := by
  refine ssImp (pss_cons h1 h2) fun D σ H h => ?_
  obtain ⟨Fr, e, own, r, rp, h1, h2⟩ := h
  unfold sSeq at h1
  obtain ⟨q, hq, h1⟩ := Option.bind_eq_some_iff.mp h1
  refine ⟨Fr, e, own, q, rp, hq, ?_⟩
  cases q with
  | nx e' => exact fun own' σ' H' w => ⟨Fr, e', own', r, w.went.rep, h1, contS w h2⟩
  | bk e' => cases h1; exact h2
  | ct e' => cases h1; exact h2
  | rt d e' => cases h1; exact h2
  | exc x e' => cases h1; exact h2
theorem pIf {sa sb : List Stmt} (hc : PT X c (tTm X W m)) (ha : PSs X sa (tS X W fx s1)) (hb : PSs X sb (tS X W fx s2)) : PS X (.If c sa sb pos) (tS X W fx (sIf m s1 s2)) := by
  refine sImp (ps_if hc ha hb) fun D σ H h => ?_
  obtain ⟨Fr, e, own, r, rp, h1, h2⟩ := h
  unfold sIf at h1
  obtain ⟨q, hq, h1⟩ := Option.bind_eq_some_iff.mp h1
  refine ⟨Fr, e, own, q, rp, hq, ?_⟩
  cases q with
  | exc x e' => cases h1; exact fun c dx own' H' w xr => h2 c dx own' σ H' w.step xr
  | ok d e' =>
    cases d with
    | bl k =>
      refine ⟨k, rfl, fun own' H' w => ?_⟩
      cases k with
      | true => exact (if_pos rfl).mpr ⟨Fr, e', own', r, w.rep, h1, contS w.step h2⟩
      | false => rw [if_neg Bool.false_ne_true]; exact ⟨Fr, e', own', r, w.rep, h1, contS w.step h2⟩
    | _ => cases h1
theorem pRt (ha : PE X a (tM X W m)) : PS X (.Return (some a) pos) (tS X W fx (sRt m)) := by
  refine sImp (ps_ret ha) fun D σ H h => ?_
  obtain ⟨Fr, e, own, r, rp, h1, h2⟩ := h
  unfold sRt at h1
  obtain ⟨q, hq, h1⟩ := Option.bind_eq_some_iff.mp h1
  refine ⟨Fr, e, own, q, rp, hq, ?_⟩
  cases q with
  | exc x e' => cases h1; exact fun c dx own' H' w xr => h2 c dx own' σ H' w.step xr
  | ok d e' => cases h1; exact fun v P own' H' g => h2 v P own' σ H' g fun _ _ => rfl
theorem pDo (ha : PE X a (tM X W m)) (hs : swapsWith a none pos.line X.env = pure false := by rfl) : PS X (.Expr a pos) (tS X W fx (sDo m)) := by
  refine sImp (ps_expr ha hs) fun D σ H h => ?_
  obtain ⟨Fr, e, own, r, rp, h1, h2⟩ := h
  unfold sDo at h1
  obtain ⟨q, hq, h1⟩ := Option.bind_eq_some_iff.mp h1
  refine ⟨Fr, e, own, q, rp, hq, ?_⟩
  cases q with
  | exc x e' => cases h1; exact fun c dx own' H' w xr => h2 c dx own' σ H' w.step xr
  | ok d e' => cases h1; exact fun v P own' H' g => h2 own' σ H' g.frozen.1.step
/-- a slot takes a value with what it owns -/
theorem Got.put (g : Got K Fr own H e' own' σ H' d v P) (i : Nat) : Went K Fr own H (e'.set i (some d)) (putO own' i P) (σ.set i (some v)) H' := by
  have le : ∀ a, Mof Fr (putO own' i P) a → Mof (fun a => Fr a ∨ P a) own' a := fun a q => by
    rcases q with q | ⟨j, q⟩
    · exact .inl (.inl q)
    · by_cases c : j = i
      · subst c; rw [putO_self] at q; exact .inl (.inr q)
      · rw [putO_ne c] at q; exact .inr ⟨j, q⟩
  have k : Keep (Mof (fun a => Fr a ∨ P a) own') (Mof Fr (putO own' i P)) H' H' := fun a o n z => ⟨z, fun q => n (le a q)⟩
  refine ⟨⟨by rw [List.length_set, List.length_set]; exact g.rep.len, fun j d' hd => ?_, fun x y a hx hy => ?_, fun x a hx => ?_, fun a ha => g.rep.tr a (le a ha)⟩, g.keep.trans k, g.fix⟩
  · rcases set_get hd with ⟨rfl, e1⟩ | ⟨c, e1⟩
    · cases e1
      have hl : j < σ.length := by
        have := (List.getElem?_eq_some_iff.mp hd).1
        rw [List.length_set] at this
        rw [← g.rep.len]; exact this
      exact ⟨v, List.getElem?_set_self hl, by rw [putO_self]; exact g.rel.keep k fun _ _ => rfl⟩
    · obtain ⟨u, h1, h2⟩ := g.rep.sl j d' e1
      exact ⟨u, by rw [List.getElem?_set_ne (Ne.symm c)]; exact h1, by rw [putO_ne c]; exact h2.keep k fun _ _ => rfl⟩
  · by_cases cx : x = i
    · by_cases cy : y = i
      · rw [cx, cy]
      · subst cx; rw [putO_self] at hx; rw [putO_ne cy] at hy; exact (g.rep.fr y a hy (.inr hx)).elim
    · by_cases cy : y = i
      · subst cy; rw [putO_self] at hy; rw [putO_ne cx] at hx; exact (g.rep.fr x a hx (.inr hy)).elim
      · rw [putO_ne cx] at hx; rw [putO_ne cy] at hy; exact g.rep.dj x y a hx hy
  · by_cases cx : x = i
    · subst cx; rw [putO_self] at hx; exact g.ap a hx
    · rw [putO_ne cx] at hx; exact fun z => g.rep.fr x a hx (.inl z)
theorem pSet {i : Nat} {x : Str} {pos' : Pos} (hN : X.N.Nodup) (he : PE X a (tM X W m)) (hi : X.N[i]? = some x := by rfl) (hx : Loc X.env.scope x := by first | exact .inl rfl | exact .inr rfl) (hfx : fx i = false := by rfl)
    (hs : swapsWith a (some (.Name x pos')) pos.line X.env = pure false := by rfl) (hf : X.fn x = true ∨ X.env.scope.names.lookup x = some .local := by first | exact .inl rfl | exact .inr rfl | assumption) :
    PS X (.Assign [.Name x pos'] a pos) (tS X W fx (sSet i m)) := by
  refine sImp (ps_set hN hi hx he hs hf) fun D σ H h => ?_
  obtain ⟨Fr, e, own, r, rp, h1, h2⟩ := h
  unfold sSet at h1
  obtain ⟨q, hq, h1⟩ := Option.bind_eq_some_iff.mp h1
  refine ⟨Fr, e, own, q, rp, hq, ?_⟩
  cases q with
  | exc x e' => cases h1; exact fun c dx own' H' w xr => h2 c dx own' σ H' w.step xr
  | ok d e' =>
    cases h1
    intro v P own' H' g
    refine h2 _ _ H' ⟨g.put i, fun j hj => ?_⟩
    have : i ≠ j := fun z => by subst z; rw [hfx] at hj; cases hj
    exact List.getElem?_set_ne this
end

/-! ### rows of values, each with what it owns -/
inductive OR where
  | ok (l : List D) (e : Sl)
  | exc (x : XD) (e : Sl)
def evO : List ME → Sl → Option OR
  | [], e => some (.ok [] e)
  | m :: r, e => (m e).bind fun q => match q with
    | .ok d e1 => (evO r e1).bind fun q => match q with
      | .ok l e2 => some (.ok (d :: l) e2)
      | .exc x e2 => some (.exc x e2)
    | .exc x e1 => some (.exc x e1)
def tOs (X : Cx) (W : WX) : List ME → TA
  | [] => tNil
  | m :: r => tCons (tM X W m) (tOs X W r)
/-- behind such a row -/
structure Gots (K : PySem.W.Frag) (Fr : Own) (own : Nat → Own) (H : Hp) (e' : Sl) (own' : Nat → Own) (σ : L2.St) (H' : Hp) (ds : List D) (vs : List V) (f : Nat → Own) : Prop where
  rep : Rep K (fun a => Fr a ∨ ∃ j, f j a) e' own' σ H'
  rel : Rels K (Mof (fun a => Fr a ∨ ∃ j, f j a) own') H' ds vs f
  ap : ∀ j a, f j a → ¬ Fr a
  dj : ∀ i j a, f i a → f j a → i = j
  keep : Keep (Mof Fr own) (Mof (fun a => Fr a ∨ ∃ j, f j a) own') H H'
  fix : ∀ a, Fr a → H' a = H a
section
variable {X : Cx} {W : WX} {σ : L2.St}
theorem evO_read : ∀ {ms : List ME} {Fr : Own} {e : Sl} {own : Nat → Own} {H : Hp} {q : OR} {Q : List V → Hp → Prop}, Rep X.K Fr e own σ H → evO ms e = some q →
    (match q with
      | .ok l e' => ∀ vs f own' H', Gots X.K Fr own H e' own' σ H' l vs f → Q vs H'
      | .exc x e' => XWish X W Fr own σ H x e') → tOs X W ms σ H Q
  | [], Fr, e, own, H, q, Q, r, h, hq => by
    unfold evO at h
    cases h
    have e1 : (fun a => Fr a ∨ ∃ j : Nat, nobodies j a) = Fr := by funext a; simp
    refine hq [] nobodies own H ⟨by rw [e1]; exact r, by unfold Rels; rfl, fun _ _ z => z.elim, fun _ _ _ z => z.elim, by rw [e1]; exact fun _ _ n z => ⟨z, n⟩, fun _ _ => rfl⟩
  | m :: ms, Fr, e, own, H, q, Q, r, h, hq => by
    unfold evO at h
    obtain ⟨q1, h1, h⟩ := Option.bind_eq_some_iff.mp h
    refine ⟨Fr, e, own, q1, r, h1, ?_⟩
    cases q1 with
    | exc x e1 => cases h; exact hq
    | ok d e1 =>
      obtain ⟨q2, h2, h⟩ := Option.bind_eq_some_iff.mp h
      intro v P own1 H1 g
      refine evO_read (Fr := fun a => Fr a ∨ P a) g.rep h2 ?_
      cases q2 with
      | exc x e2 =>
        cases h
        intro c dx own2 H2 w xr
        have le : ∀ a, Mof Fr own2 a → Mof (fun a => Fr a ∨ P a) own2 a := fun a z => z.elim (fun z => .inl (.inl z)) .inr
        refine hq c dx own2 H2 ⟨w.rep.less fun a z => .inl z, g.keep.trans fun a o n z => ⟨(w.keep a o n z).1, fun z2 => (w.keep a o n z).2 (le a z2)⟩, fun a z => (w.fix a (.inl z)).trans (g.fix a z)⟩ ?_
        obtain ⟨C, c1, c2, c3⟩ := xr
        refine ⟨C, c1, c2, ?_⟩
        rcases c3 with c3 | ⟨p, fs, d1, d2, d3, d4, d5⟩
        · exact .inl c3
        · have k : Keep (Mof (fun a => Fr a ∨ P a) own2) (Mof Fr own2) H2 H2 := fun a o n z => ⟨z, fun z2 => n (le a z2)⟩
          exact .inr ⟨p, fs, d1, fun z => d2 (le p z), d3, d4, d5.keep k fun _ _ z => z.elim⟩
      | ok l e2 =>
        cases h
        intro vs f own2 H2 G
        have e3 : (fun a => (Fr a ∨ P a) ∨ ∃ j, f j a) = (fun a => Fr a ∨ ∃ j, (fun n => if n = 0 then P else f (n - 1)) j a) := by
          funext a
          apply propext
          constructor
          · rintro ((z | z) | ⟨j, z⟩)
            · exact .inl z
            · exact .inr ⟨0, by simpa using z⟩
            · exact .inr ⟨j + 1, by simpa using z⟩
          · rintro (z | ⟨j, z⟩)
            · exact .inl (.inl z)
            · cases j with
              | zero => exact .inl (.inr (by simpa using z))
              | succ j => exact .inr ⟨j, by simpa using z⟩
        refine hq (v :: vs) (fun n => if n = 0 then P else f (n - 1)) own2 H2 ⟨by rw [← e3]; exact G.rep, ?_, fun j a z => ?_, fun i j a z z2 => ?_, by rw [← e3]; exact g.keep.trans G.keep, fun a z => (G.fix a (.inl z)).trans (g.fix a z)⟩
        · rw [← e3]
          unfold Rels
          refine ⟨v, vs, rfl, ?_, by simpa using G.rel⟩
          have := g.rel.keep G.keep fun a z => G.fix a (.inr z)
          simpa using this
        · cases j with
          | zero => exact g.ap a (by simpa using z)
          | succ j => exact fun z2 => G.ap j a (by simpa using z) (.inl z2)
        · cases i with
          | zero =>
            cases j with
            | zero => rfl
            | succ j => exact (G.ap j a (by simpa using z2) (.inr (by simpa using z))).elim
          | succ i =>
            cases j with
            | zero => exact (G.ap i a (by simpa using z) (.inr (by simpa using z2))).elim
            | succ j => rw [G.dj i j a (by simpa using z) (by simpa using z2)]
end
end Ow

set_option Elab.async false
set_option autoImplicit false
set_option linter.all false
set_option maxRecDepth 100000
/-! Ow, part 9: targets, several at once, lists with owned parts, lists changed in place. -/
namespace Ow
open PySem PySem.Spec PyProof.Rows L2

/-! ### targets -/
inductive Tgt where
  | nm (i : Nat) | tp (l : List Tgt)
mutual
def setTg : Tgt → D → Sl → Option Sl
  | .nm i, d, e => some (e.set i (some d))
  | .tp ts, .tup ds, e => setTgs ts ds e
  | .tp _, _, _ => none
def setTgs : List Tgt → List D → Sl → Option Sl
  | [], [], e => some e
  | t :: ts, d :: ds, e => (setTg t d e).bind fun e' => setTgs ts ds e'
  | _, _, _ => none
end
mutual
def inTg : Tgt → Nat → Bool
  | .nm i, j => i == j
  | .tp ts, j => inTgs ts j
def inTgs : List Tgt → Nat → Bool
  | [], _ => false
  | t :: ts, j => inTg t j || inTgs ts j
end
/-- names are stored, nothing else -/
structure Named (K : PySem.W.Frag) (b : Nat → Bool) (Fr : Own) (own : Nat → Own) (σ : L2.St) (H : Hp) (e' : Sl) (own' : Nat → Own) (σ' : L2.St) : Prop where
  went : Went K Fr own H e' own' σ' H
  fixed : ∀ j, b j = false → σ'[j]? = σ[j]?
def gT (X : Cx) (t : Tgt) : TG := fun v σ H Q => ∃ Fr e own d e', Rep X.K Fr e own σ H ∧ Rel X.K (Mof Fr own) H d v nobody ∧ setTg t d e = some e' ∧ ∀ own' σ', Named X.K (inTg t) Fr own σ H e' own' σ' → Q σ' H
def gTs (X : Cx) (ts : List Tgt) : TGs := fun vs σ H Q => ∃ Fr e own ds e', Rep X.K Fr e own σ H ∧ Rels X.K (Mof Fr own) H ds vs nobodies ∧ setTgs ts ds e = some e' ∧ ∀ own' σ', Named X.K (inTgs ts) Fr own σ H e' own' σ' → Q σ' H
section
variable {X : Cx} {K : PySem.W.Frag} {Fr : Own} {e : Sl} {own : Nat → Own} {σ : L2.St} {H : Hp} {d : D} {v : V} {pos : Pos} {t : Tgt} {ts : List Tgt} {es : List Expr} {tg : Expr}
theorem Rep.put (r : Rep K Fr e own σ H) (h : Rel K (Mof Fr own) H d v nobody) (i : Nat) : Went K Fr own H (e.set i (some d)) (putO own i nobody) (σ.set i (some v)) H := (r.refl.val h).put i
theorem gNm {i : Nat} {x : Str} (hN : X.N.Nodup) (hi : X.N[i]? = some x := by rfl) (hx : Loc X.env.scope x := by first | exact .inl rfl | exact .inr rfl) (hf : X.fn x = true ∨ X.env.scope.names.lookup x = some .local := by first | exact .inl rfl | exact .inr rfl | assumption) :
    PG X (.Name x pos) (gT X (.nm i)) := by
  refine ⟨fun pins s σ H v u Q I r h => (pg_name hN hi hx hf).run pins s σ H v u Q I r ?_⟩
  obtain ⟨Fr, e, own, d, e', rp, rel, hs, q⟩ := h
  unfold setTg at hs
  cases hs
  refine q _ _ ⟨rp.put rel i, fun j hj => ?_⟩
  unfold inTg at hj
  have : i ≠ j := by simpa using hj
  exact List.getElem?_set_ne this
theorem gsNil : PGs X [] (gTs X []) := by
  refine ⟨fun pins s σ H vs us Q I r h => pgs_nil.run pins s σ H vs us Q I r ?_⟩
  obtain ⟨Fr, e, own, ds, e', rp, rel, hs, q⟩ := h
  cases ds with
  | cons _ _ => unfold setTgs at hs; cases hs
  | nil =>
    unfold setTgs at hs
    cases hs
    unfold Rels at rel
    exact ⟨rel, q own σ ⟨rp.refl, fun _ _ => rfl⟩⟩
theorem gsCons (h1 : PG X tg (gT X t)) (h2 : PGs X es (gTs X ts)) (hs : (assignEach (tg :: es) X.env).map (·.2) = assign tg X.env :: (assignEach es X.env).map (·.2) := by rfl) : PGs X (tg :: es) (gTs X (t :: ts)) := by
  refine ⟨fun pins s σ H vs us Q I r h => (pgs_cons h1 h2 hs).run pins s σ H vs us Q I r ?_⟩
  obtain ⟨Fr, e, own, ds, e', rp, rel, hs, q⟩ := h
  cases ds with
  | nil => unfold setTgs at hs; cases hs
  | cons d ds =>
    unfold setTgs at hs
    obtain ⟨e1, hs1, hs2⟩ := Option.bind_eq_some_iff.mp hs
    unfold Rels at rel
    obtain ⟨v, rs, rfl, rel1, rel2⟩ := rel
    refine ⟨v, rs, rfl, Fr, e, own, d, e1, rp, rel1, hs1, fun own1 σ1 n1 => ?_⟩
    refine ⟨Fr, e1, own1, ds, e', n1.went.rep, rel2.keep n1.went.keep fun _ _ z => z.elim, hs2, fun own2 σ2 n2 => ?_⟩
    refine q own2 σ2 ⟨n1.went.trans n2.went, fun j hj => ?_⟩
    unfold inTgs at hj
    rw [Bool.or_eq_false_iff] at hj
    exact (n2.fixed j hj.2).trans (n1.fixed j hj.1)
theorem gTp {k n : Nat} (hc : X.calm = true) (h : PGs X es (gTs X ts)) (hn : (assignEach es X.env).length = n := by rfl) (hlen : n = ts.length := by rfl) (hst : (assignEach es X.env).findIdx? (·.1) = none := by rfl) : PG X (.Tuple es k pos) (gT X (.tp ts)) := by
  refine ⟨fun pins s σ H v u Q I r hw => (pg_tup hc h hn hst).run pins s σ H v u Q I r ?_⟩
  obtain ⟨Fr, e, own, d, e', rp, rel, hs, q⟩ := hw
  cases d with
  | tup ds =>
    unfold setTg at hs
    unfold Rel at rel
    obtain ⟨a, vs, rfl, ha, rel⟩ := rel
    have hl : ∀ (ts : List Tgt) (ds : List D) (e : Sl), setTgs ts ds e = some e' → ts.length = ds.length := by
      intro ts
      induction ts with
      | nil => intro ds e h; cases ds with
        | nil => rfl
        | cons _ _ => unfold setTgs at h; cases h
      | cons t ts ih => intro ds e h; cases ds with
        | nil => unfold setTgs at h; cases h
        | cons d ds =>
          unfold setTgs at h
          obtain ⟨e1, _, h2⟩ := Option.bind_eq_some_iff.mp h
          simp [ih ds e1 h2]
    exact ⟨a, vs, rfl, ha.seq, by rw [← rel.len, ← hl ts ds e hs, hlen], Fr, e, own, ds, e', rp, rel, hs, fun own' σ' n => q own' σ' ⟨n.went, fun j hj => n.fixed j (by unfold inTg at hj; exact hj)⟩⟩
  | _ => unfold setTg at hs; cases hs
end
/-- a target takes a value -/
def sTg (t : Tgt) (m : ME) : MS := fun e => (m e).bind fun r => match r with
  | .ok d e' => (setTg t (settle d) e').bind fun e2 => some (.nx e2)
  | .exc x e' => some (.exc x e')
section
variable {X : Cx} {W : WX} {fx : Nat → Bool} {K : PySem.W.Frag} {M Fr : Own} {e e' : Sl} {own own' : Nat → Own} {σ σ' : L2.St} {H H' : Hp} {d d' : D} {v : V} {P : Own} {m m1 m2 : ME} {pos : Pos} {a b c tg : Expr} {t : Tgt} {ms : List ME} {es : List Expr}
theorem pTg (he : PE X a (tM X W m)) (hg : PG X tg (gT X t)) (hfx : ∀ j, fx j = true → inTg t j = false) (hs : swapsWithSole [tg] a pos.line X.env = pure false := by rfl) (hw : swappedStores [tg] a X.env = pure none := by rfl)
    (h1 : (assignEach [tg] X.env).map (·.2) = [assign tg X.env] := by rfl) : PS X (.Assign [tg] a pos) (tS X W fx (sTg t m)) := by
  refine sImp (ps_asg he hg hs hw h1) fun D σ H h => ?_
  obtain ⟨Fr, e, own, r, rp, h1, h2⟩ := h
  unfold sTg at h1
  obtain ⟨q, hq, h1⟩ := Option.bind_eq_some_iff.mp h1
  refine ⟨Fr, e, own, q, rp, hq, ?_⟩
  cases q with
  | exc x e' => cases h1; exact fun c dx own' H' w xr => h2 c dx own' σ H' w.step xr
  | ok d e' =>
    obtain ⟨e2, hs, h1⟩ := Option.bind_eq_some_iff.mp h1
    cases h1
    intro v P own' H' g
    obtain ⟨w, rel⟩ := g.frozen
    exact ⟨Fr, e', own', _, e2, w.rep, rel nobody, hs, fun own2 σ2 n => h2 own2 σ2 H' ⟨w.trans n.went, fun j hj => n.fixed j (hfx j hj)⟩⟩

/-! ### several names at once -/
theorem Gots.nil {vs : List V} {f : Nat → Own} (g : Gots K Fr own H e' own' σ' H' [] vs f) : Went K Fr own H e' own' σ' H' := by
  have le : ∀ a, Mof Fr own' a → Mof (fun a => Fr a ∨ ∃ j, f j a) own' a := fun a z => z.elim (fun z => .inl (.inl z)) .inr
  exact ⟨g.rep.less fun a z => .inl z, g.keep.trans fun a o n z => ⟨z, fun z2 => n (le a z2)⟩, g.fix⟩
theorem Gots.put {ds : List D} {vs : List V} {f : Nat → Own} (g : Gots K Fr own H e' own' σ' H' (d :: ds) vs f) (i : Nat) : ∃ v r, vs = v :: r ∧ Gots K Fr own H (e'.set i (some d)) (putO own' i (f 0)) (σ'.set i (some v)) H' ds r (fun j => f (j + 1)) := by
  have rel := g.rel
  unfold Rels at rel
  obtain ⟨v, r, rfl, rel1, rel2⟩ := rel
  refine ⟨v, r, rfl, ?_⟩
  have le : ∀ a, Mof (fun a => Fr a ∨ ∃ j, f (j + 1) a) (putO own' i (f 0)) a → Mof (fun a => Fr a ∨ ∃ j, f j a) own' a := fun a q => by
    rcases q with (q | ⟨j, q⟩) | ⟨j, q⟩
    · exact .inl (.inl q)
    · exact .inl (.inr ⟨_, q⟩)
    · by_cases c : j = i
      · subst c; rw [putO_self] at q; exact .inl (.inr ⟨0, q⟩)
      · rw [putO_ne c] at q; exact .inr ⟨j, q⟩
  have k : Keep (Mof (fun a => Fr a ∨ ∃ j, f j a) own') (Mof (fun a => Fr a ∨ ∃ j, f (j + 1) a) (putO own' i (f 0))) H' H' := fun a o n z => ⟨z, fun q => n (le a q)⟩
  refine ⟨⟨by rw [List.length_set, List.length_set]; exact g.rep.len, fun j d' hd => ?_, fun x y a hx hy => ?_, fun x a hx => ?_, fun a ha => g.rep.tr a (le a ha)⟩, rel2.keep k fun _ _ _ => rfl, fun j a z => g.ap (j + 1) a z, fun i j a z z2 => by have := g.dj _ _ a z z2; omega, g.keep.trans k, g.fix⟩
  · rcases set_get hd with ⟨rfl, e1⟩ | ⟨c, e1⟩
    · cases e1
      have hl : j < σ'.length := by
        have := (List.getElem?_eq_some_iff.mp hd).1
        rw [List.length_set] at this
        rw [← g.rep.len]; exact this
      exact ⟨v, List.getElem?_set_self hl, by rw [putO_self]; exact rel1.keep k fun _ _ => rfl⟩
    · obtain ⟨u, h1, h2⟩ := g.rep.sl j d' e1
      exact ⟨u, by rw [List.getElem?_set_ne (Ne.symm c)]; exact h1, by rw [putO_ne c]; exact h2.keep k fun _ _ => rfl⟩
  · by_cases cx : x = i
    · by_cases cy : y = i
      · rw [cx, cy]
      · subst cx; rw [putO_self] at hx; rw [putO_ne cy] at hy; exact (g.rep.fr y a hy (.inr ⟨0, hx⟩)).elim
    · by_cases cy : y = i
      · subst cy; rw [putO_self] at hy; rw [putO_ne cx] at hx; exact (g.rep.fr x a hx (.inr ⟨0, hy⟩)).elim
      · rw [putO_ne cx] at hx; rw [putO_ne cy] at hy; exact g.rep.dj x y a hx hy
  · by_cases cx : x = i
    · subst cx; rw [putO_self] at hx
      rintro (z | ⟨j, z⟩)
      · exact g.ap 0 a hx z
      · have := g.dj _ _ a hx z; omega
    · rw [putO_ne cx] at hx
      rintro (z | ⟨j, z⟩)
      · exact g.rep.fr x a hx (.inl z)
      · exact g.rep.fr x a hx (.inr ⟨j + 1, z⟩)
def putAll : List Nat → List D → Sl → Option Sl
  | [], [], e => some e
  | i :: is, d :: ds, e => putAll is ds (e.set i (some d))
  | _, _, _ => none
def sPar (is : List Nat) (ms : List ME) : MS := fun e => (evO ms e).bind fun r => match r with
  | .ok ds e' => (putAll is ds e').bind fun e2 => some (.nx e2)
  | .exc x e' => some (.exc x e')
theorem os1 (ha : PE X a (tM X W m)) (hr : PA X es (tOs X W ms)) (hs : starEach (a :: es) X.env = (false, eval a X.env) :: starEach es X.env := by rfl) : PA X (a :: es) (tOs X W (m :: ms)) := pa_cons ha hr hs
theorem os0 : PA X [] (tOs X W []) := pa_nil
theorem pPar2 {i j : Nat} {x y : Str} {px py pt : Pos} {kt k2 pt2} (hc : X.calm = true) (hN : X.N.Nodup) (ha : PA X [a, b] (tOs X W ms)) (hi : X.N[i]? = some x := by rfl) (hj : X.N[j]? = some y := by rfl) (hij : i ≠ j := by decide)
    (hx : X.env.scope.names.lookup x = some .local := by rfl) (hy : X.env.scope.names.lookup y = some .local := by rfl) (hfi : fx i = false := by rfl) (hfj : fx j = false := by rfl)
    (hw : swappedStores [.Tuple [.Name x px, .Name y py] kt pt] (.Tuple [a, b] k2 pt2) X.env = pure (some [x, y]) := by rfl)
    (hs : swapsWithSole [.Tuple [.Name x px, .Name y py] kt pt] (.Tuple [a, b] k2 pt2) pos.line X.env = pure false := by rfl) :
    PS X (.Assign [.Tuple [.Name x px, .Name y py] kt pt] (.Tuple [a, b] k2 pt2) pos) (tS X W fx (sPar [i, j] ms)) := by
  refine sImp (ps_par hc hN hi hj hij hx hy ha hw hs) fun D σ H h => ?_
  obtain ⟨Fr, e, own, r, rp, h1, h2⟩ := h
  unfold sPar at h1
  obtain ⟨q, hq, h1⟩ := Option.bind_eq_some_iff.mp h1
  refine evO_read rp hq ?_
  cases q with
  | exc x e' => cases h1; exact fun c dx own' H' w xr => h2 c dx own' σ H' w.step xr
  | ok ds e' =>
    obtain ⟨e2, hp, h1⟩ := Option.bind_eq_some_iff.mp h1
    cases h1
    match ds, hp with
    | [], hp => cases hp
    | [_], hp => cases hp
    | _ :: _ :: _ :: _, hp => cases hp
    | [d1, d2], hp =>
      cases hp
      intro vs f own' H' g
      obtain ⟨v1, r1, rfl, g1⟩ := g.put i
      obtain ⟨v2, r2, rfl, g2⟩ := g1.put j
      have er : r2 = [] := by have := g2.rel; unfold Rels at this; exact this
      subst er
      refine ⟨v1, v2, rfl, h2 _ _ H' ⟨g2.nil, fun l hl => ?_⟩⟩
      have n1 : i ≠ l := fun z => by subst z; rw [hfi] at hl; cases hl
      have n2 : j ≠ l := fun z => by subst z; rw [hfj] at hl; cases hl
      rw [List.getElem?_set_ne n2, List.getElem?_set_ne n1]
theorem pPar3 {i j l : Nat} {x y z : Str} {px py pz pt : Pos} {kt k2 pt2} (hc : X.calm = true) (hN : X.N.Nodup) (ha : PA X [a, b, c] (tOs X W ms)) (hi : X.N[i]? = some x := by rfl) (hj : X.N[j]? = some y := by rfl) (hl : X.N[l]? = some z := by rfl)
    (hij : i ≠ j := by decide) (hil : i ≠ l := by decide) (hjl : j ≠ l := by decide)
    (hx : X.env.scope.names.lookup x = some .local := by rfl) (hy : X.env.scope.names.lookup y = some .local := by rfl) (hz : X.env.scope.names.lookup z = some .local := by rfl) (hfi : fx i = false := by rfl) (hfj : fx j = false := by rfl) (hfl : fx l = false := by rfl)
    (hw : swappedStores [.Tuple [.Name x px, .Name y py, .Name z pz] kt pt] (.Tuple [a, b, c] k2 pt2) X.env = pure (some [x, y, z]) := by rfl)
    (hs : swapsWithSole [.Tuple [.Name x px, .Name y py, .Name z pz] kt pt] (.Tuple [a, b, c] k2 pt2) pos.line X.env = pure false := by rfl) :
    PS X (.Assign [.Tuple [.Name x px, .Name y py, .Name z pz] kt pt] (.Tuple [a, b, c] k2 pt2) pos) (tS X W fx (sPar [i, j, l] ms)) := by
  refine sImp (ps_par3 hc hN hi hj hl hij hil hjl hx hy hz ha hw hs) fun D σ H h => ?_
  obtain ⟨Fr, e, own, r, rp, h1, h2⟩ := h
  unfold sPar at h1
  obtain ⟨q, hq, h1⟩ := Option.bind_eq_some_iff.mp h1
  refine evO_read rp hq ?_
  cases q with
  | exc x e' => cases h1; exact fun c dx own' H' w xr => h2 c dx own' σ H' w.step xr
  | ok ds e' =>
    obtain ⟨e2, hp, h1⟩ := Option.bind_eq_some_iff.mp h1
    cases h1
    match ds, hp with
    | [], hp => cases hp
    | [_], hp => cases hp
    | [_, _], hp => cases hp
    | _ :: _ :: _ :: _ :: _, hp => cases hp
    | [d1, d2, d3], hp =>
      cases hp
      intro vs f own' H' g
      obtain ⟨v1, r1, rfl, g1⟩ := g.put i
      obtain ⟨v2, r2, rfl, g2⟩ := g1.put j
      obtain ⟨v3, r3, rfl, g3⟩ := g2.put l
      have er : r3 = [] := by have := g3.rel; unfold Rels at this; exact this
      subst er
      refine ⟨v1, v2, v3, rfl, h2 _ _ H' ⟨g3.nil, fun k hk => ?_⟩⟩
      have n1 : i ≠ k := fun z => by subst z; rw [hfi] at hk; cases hk
      have n2 : j ≠ k := fun z => by subst z; rw [hfj] at hk; cases hk
      have n3 : l ≠ k := fun z => by subst z; rw [hfl] at hk; cases hk
      rw [List.getElem?_set_ne n3, List.getElem?_set_ne n2, List.getElem?_set_ne n1]
end
end Ow

set_option Elab.async false
set_option autoImplicit false
set_option linter.all false
set_option maxRecDepth 100000
/-! Ow, part 10: lists changed in place; lists with owned parts. -/
namespace Ow
open PySem PySem.Spec PyProof.Rows L2

section
variable {K : PySem.W.Frag} {M Fr : Own} {e e' : Sl} {own own' : Nat → Own} {σ σ' : L2.St} {H H' : Hp} {d d' c c' : D} {v : V} {P : Own}
/-- all but one address as it was -/
def But (b : Addr) (H H' : Hp) : Prop := ∀ a, a ≠ b → H' a = H a
theorem But.keep {b : Addr} (x : But b H H') (m : M b) : Keep M M H H' := fun a o n h => ⟨by rw [x a (fun z => n (z ▸ m))]; exact h, n⟩
/-- slot i's owned object at b is changed: the slot stands for d' -/
theorem Rep.change (r : Rep K Fr e own σ H) {i : Nat} {b : Addr} (hb : own i b) (x : But b H H') (hn : H' b ≠ none) (hv : σ[i]? = some (some v)) (rel : Rel K (Mof Fr own) H' d' v (own i)) :
    Went K Fr own H (e.set i (some d')) own σ H' := by
  have mb : Mof Fr own b := .inr ⟨i, hb⟩
  refine ⟨⟨by rw [List.length_set]; exact r.len, fun j d2 hd => ?_, r.dj, r.fr, fun a ha => ?_⟩, x.keep mb, fun a ha => x a fun z => r.fr i b hb (z ▸ ha)⟩
  · rcases set_get hd with ⟨rfl, e1⟩ | ⟨c, e1⟩
    · cases e1
      exact ⟨v, hv, rel⟩
    · obtain ⟨u, h1, h2⟩ := r.sl j d2 e1
      exact ⟨u, h1, h2.keep (x.keep mb) fun a ha => x a fun z => c (r.dj _ _ _ (z ▸ ha) hb)⟩
  · by_cases z : a = b
    · rw [z]; exact hn
    · rw [x a z]; exact r.tr a ha

/-! ### rules that change a list in place -/
/-- g: the new list and the answer, told of the list and the operands -/
def Muts (K : PySem.W.Frag) (r : V → List V → Hp → VK → Prop) (g : List D → List D → Option (D × List D)) : Prop :=
  ∀ (M : Own) (H : Hp) (b : Addr) (l : List D) (vs : List V) (f : Nat → Own) (ds : List D) (us : List V) (res : D) (l' : List D) (Q : VK),
    (∀ a, M a → H a ≠ none) → M b → H b = some (.lst vs) → Rels K M H l vs f → (∀ j a, f j a → a ≠ b) → (∀ i j a, f i a → f j a → i = j) → Paired (RelAny K M H) ds us → g l ds = some (res, l') →
    (∀ u vs' f', (∀ j a, f' j a → ∃ i, f i a) → (∀ i j a, f' i a → f' j a → i = j) → Rels K M H l' vs' f' → Rel K M H res u nobody → Q u (upd H b (.lst vs'))) → r (.ref b) us H Q
def gAppend (l ds : List D) : Option (D × List D) :=
  match ds with
  | [d] => if top d || decide (16777216 ≤ l.length) then none else some (.non, l ++ [d])
  | _ => none
def gPop (l ds : List D) : Option (D × List D) :=
  match ds with
  | [] => (l[l.length - 1]?).bind fun d => if top d then none else some (d, l.dropLast)
  | _ => none
def gPopAt (l ds : List D) : Option (D × List D) :=
  match ds with
  | [.int i] => if 16777216 < l.length then none else (ixN l.length i).bind fun k => (l[k]?).bind fun d => if top d then none else some (d, l.eraseIdx k)
  | _ => none
def gExtend (l ds : List D) : Option (D × List D) :=
  match ds with
  | [.lst _ l'] => if low l' && decide (l.length + l'.length ≤ 16777216) then some (.non, l ++ l') else none
  | _ => none
theorem Rels.get2 {l : List D} {vs : List V} {f : Nat → Own} (r : Rels K M H l vs f) : ∀ (n : Nat) d v, l[n]? = some d → vs[n]? = some v → Rel K M H d v (f n) := fun n d v h1 h2 => by
  obtain ⟨u, h3, h4⟩ := r.get h1
  rw [h2] at h3; cases h3
  exact h4
theorem Rels.of_get2 : ∀ {l : List D} {vs : List V} {f : Nat → Own}, l.length = vs.length → (∀ (n : Nat) d v, l[n]? = some d → vs[n]? = some v → Rel K M H d v (f n)) → Rels K M H l vs f
  | [], [], _, _, _ => by unfold Rels; rfl
  | [], _ :: _, _, h, _ => by simp at h
  | _ :: _, [], _, h, _ => by simp at h
  | d :: l, v :: vs, f, h, g => by
    unfold Rels
    exact ⟨v, vs, rfl, g 0 d v rfl rfl, Rels.of_get2 (by simpa using h) fun n d' v' h1 h2 => g (n + 1) d' v' (by simpa using h1) (by simpa using h2)⟩
theorem muts_append : Muts K rAppend gAppend := by
  intro M H b l vs f ds us res l' Q tr mb hb r hne hdj p hg q
  unfold gAppend at hg
  split at hg
  · split at hg
    · cases hg
    · rename_i d z
      cases hg
      simp only [Bool.or_eq_true, decide_eq_true_eq, not_or] at z
      obtain ⟨u, rfl, P, h1⟩ := pair1 p
      refine ⟨b, vs, u, rfl, rfl, hb, ?_, q .non _ (fun j => if j < l.length then f j else nobody) ?_ ?_ ?_ (by unfold Rel; rfl)⟩
      · rw [← r.len, sizeLine_eq]; omega
      · intro j a h
        split at h
        · exact ⟨j, h⟩
        · exact h.elim
      · intro i j a h h2
        split at h
        · split at h2
          · exact hdj i j a h h2
          · exact h2.elim
        · exact h.elim
      · refine Rels.of_get2 (by simp [r.len]) fun n d' v' g1 g2 => ?_
        by_cases c : n < l.length
        · rw [List.getElem?_append_left c] at g1
          rw [List.getElem?_append_left (by rw [← r.len]; exact c)] at g2
          rw [if_pos c]
          exact r.get2 n d' v' g1 g2
        · rw [if_neg c]
          rw [List.getElem?_append_right (by omega)] at g1
          rw [List.getElem?_append_right (by rw [← r.len]; omega), ← r.len] at g2
          have : n - l.length = 0 := by
            have := (List.getElem?_eq_some_iff.mp g1).1
            simp at this; omega
          rw [this] at g1 g2
          simp at g1 g2
          subst g1 g2
          exact Rel.untop (by simpa using z.1) h1
  · cases hg
theorem muts_pop : Muts K rPop gPop := by
  intro M H b l vs f ds us res l' Q tr mb hb r hne hdj p hg q
  unfold gPop at hg
  split at hg
  · cases p
    obtain ⟨d, e1, hg⟩ := Option.bind_eq_some_iff.mp hg
    split at hg
    · cases hg
    · rename_i z
      cases hg
      obtain ⟨u, e2, e3⟩ := r.get e1
      rw [r.len] at e2
      refine ⟨b, vs, u, rfl, rfl, hb, e2, q u _ f (fun j a h => ⟨j, h⟩) hdj ?_ (Rel.untop (by simpa using z) e3)⟩
      refine Rels.of_get2 (by simp [r.len]) fun n d' v' g1 g2 => ?_
      rw [List.dropLast_eq_take] at g1 g2
      rw [List.getElem?_take] at g1 g2
      split at g1
      · split at g2
        · exact r.get2 n d' v' g1 g2
        · cases g2
      · cases g1
  · cases hg
theorem muts_popAt : Muts K rPopAt gPopAt := by
  intro M H b l vs f ds us res l' Q tr mb hb r hne hdj p hg q
  unfold gPopAt at hg
  split at hg
  · rename_i i
    split at hg
    · cases hg
    · rename_i hl
      obtain ⟨x, rfl, h1⟩ := pair1 p
      obtain ⟨k, ek, hg⟩ := Option.bind_eq_some_iff.mp hg
      obtain ⟨d, e1, hg⟩ := Option.bind_eq_some_iff.mp hg
      split at hg
      · cases hg
      · rename_i z
        cases hg
        obtain ⟨u, e2, e3⟩ := r.get e1
        obtain ⟨s1, s2, s3, s4⟩ := ixN_seq ek
        have hx := any_int.mp h1
        subst hx
        refine ⟨b, vs, i, k, u, rfl, rfl, hb, by omega, by omega, by rw [← r.len]; exact s1, e2, q u _ (fun j => if j < k then f j else f (j + 1)) ?_ ?_ ?_ (Rel.untop (by simpa using z) e3)⟩
        · intro j a h
          split at h
          · exact ⟨_, h⟩
          · exact ⟨_, h⟩
        · intro i j a h h2
          split at h <;> split at h2 <;> (have := hdj _ _ a h h2; omega)
        · refine Rels.of_get2 (by rw [List.length_eraseIdx, List.length_eraseIdx, r.len]) fun n d' v' g1 g2 => ?_
          rw [List.getElem?_eraseIdx] at g1 g2
          by_cases c : n < k
          · rw [if_pos c] at g1 g2 ⊢
            exact r.get2 n d' v' g1 g2
          · rw [if_neg c] at g1 g2 ⊢
            exact r.get2 (n + 1) d' v' g1 g2
  · cases hg
theorem muts_extend : Muts K rExtend gExtend := by
  intro M H b l vs f ds us res l' Q tr mb hb r hne hdj p hg q
  unfold gExtend at hg
  split at hg
  · split at hg
    · rename_i l2 z
      cases hg
      simp only [Bool.and_eq_true, decide_eq_true_eq] at z
      obtain ⟨u, rfl, h1⟩ := pair1 p
      obtain ⟨a2, vs2, rfl, ha2, r2'⟩ := low_flat_rels h1 z.1
      refine ⟨b, a2, vs, vs2, rfl, rfl, hb, ha2, ?_, q .non _ (fun j => if j < l.length then f j else nobody) ?_ ?_ ?_ (by unfold Rel; rfl)⟩
      · rw [← r.len, ← r2'.len]; exact le_line z.2
      · intro j a h
        split at h
        · exact ⟨j, h⟩
        · exact h.elim
      · intro i j a h h2
        split at h
        · split at h2
          · exact hdj i j a h h2
          · exact h2.elim
        · exact h.elim
      · refine Rels.of_get2 (by simp [r.len, r2'.len]) fun n d' v' g1 g2 => ?_
        by_cases c : n < l.length
        · rw [List.getElem?_append_left c] at g1
          rw [List.getElem?_append_left (by rw [← r.len]; exact c)] at g2
          rw [if_pos c]
          exact r.get2 n d' v' g1 g2
        · rw [if_neg c]
          rw [List.getElem?_append_right (by omega)] at g1
          rw [List.getElem?_append_right (by rw [← r.len]; omega), ← r.len] at g2
          exact r2'.get2 _ d' v' g1 g2
    · cases hg
  · cases hg
end

/-! ### x.m(..) of a list at a name; of a part of it -/
def lstT : D → Option (List D)
  | .lst true l => some l
  | _ => none
def mMut (g : List D → List D → Option (D × List D)) (i : Nat) (ars : List Ar) : ME := fun e => ((slot e i).bind lstT).bind fun _ => (evA ars e).bind fun q => match q with
  | .ok as e' => ((slot e' i).bind lstT).bind fun l => (resolves e' as).bind fun ds => (g l ds).bind fun p => some (.ok p.1 (e'.set i (some (.lst true p.2))))
  | .exc x e' => some (.exc x e')
/-- an entry is set in its place -/
def setD (k c : D) : List (D × D) → List (D × D)
  | [] => []
  | p :: l => if sameKey k p.1 then (p.1, c) :: l else p :: setD k c l
/-- a part of an owned list or dict is set -/
def putKid (d k c : D) : Option D :=
  match d, k with
  | .lst true l, .int n => if 0 ≤ n ∧ n < l.length then some (.lst true (l.set n.toNat c)) else none
  | .dct true l, .str s => some (.dct true (setD (.str s) c l))
  | _, _ => none
def mMutP (g : List D → List D → Option (D × List D)) (i : Nat) (k : D) (ars : List Ar) : ME := fun e => (slot e i).bind fun d => ((kid d k).bind lstT).bind fun l => (evI ars e).bind fun as => (resolves e as).bind fun ds => (g l ds).bind fun p =>
  (putKid d k (.lst true p.2)).bind fun d' => some (.ok p.1 (e.set i (some d')))
section
variable {X : Cx} {W : WX} {σ : L2.St} {H : Hp} {Q : VK} {ars : List Ar} {r : V → List V → Hp → VK → Prop} {g : List D → List D → Option (D × List D)} {i : Nat}
theorem lstT_some {d : D} {l : List D} (h : lstT d = some l) : d = .lst true l := by
  unfold lstT at h
  split at h
  · cases h; rfl
  · cases h
theorem mut_core {Fr : Own} {e e' : Sl} {own own' : Nat → Own} {H' : Hp} {l : List D} {ds : List D} {us : List V} {p : D × List D} {v : V} (m : Muts X.K r g) (w : Went X.K Fr own H e' own' σ H') (hs : slot e' i = some (.lst true l)) (hv : σ[i]? = some (some v))
    (pr : Paired (RelAny X.K (Mof Fr own') H') ds us) (hg : g l ds = some p) (h2 : VWish X Fr own σ H p.1 (e'.set i (some (.lst true p.2))) Q) : r v us H' Q := by
  obtain ⟨u, h3, h4⟩ := w.rep.at hs
  rw [hv] at h3; cases h3
  have h4' := h4
  unfold Rel at h4
  obtain ⟨b, vs, f, rfl, hb, pb, un, rel⟩ := h4
  obtain ⟨res, l'⟩ := p
  refine m (Mof Fr own') H' b l vs f ds us res l' Q w.rep.tr (.inr ⟨i, pb⟩) hb rel un.ne un.dj pr hg fun u vs' f' sub dj' rel' relr => ?_
  have bt : But b H' (upd H' b (.lst vs')) := fun a ha => upd_ne ha
  have mb : Mof Fr own' b := .inr ⟨i, pb⟩
  have w2 := w.rep.change (d' := .lst true l') pb bt (by rw [upd_same]; simp) hv (by
    unfold Rel
    exact ⟨b, vs', f', rfl, upd_same, pb, ⟨fun j a z => let ⟨k, z⟩ := sub j a z; un.sub k a z, fun j a z => let ⟨k, z⟩ := sub j a z; un.ne k a z, dj'⟩,
      rel'.keep (bt.keep mb) fun j a z => bt a (let ⟨k, z⟩ := sub j a z; un.ne k a z)⟩)
  exact h2 u nobody own' _ ((w.trans w2).val (relr.keep (bt.keep mb) fun _ z => z.elim))
theorem rd_mut (m : Muts X.K r g) (h : tM X W (mMut g i ars) σ H Q) : ∃ v, σ[i]? = some (some v) ∧ tyV X.K "list" v H ∧ tAs X W ars σ H fun us H' => r v us H' Q := by
  obtain ⟨Fr, e, own, q, rp, h1, h2⟩ := h
  unfold mMut at h1
  obtain ⟨l0, e0, h1⟩ := Option.bind_eq_some_iff.mp h1
  obtain ⟨d0, e1, e2⟩ := Option.bind_eq_some_iff.mp e0
  have := lstT_some e2
  subst this
  obtain ⟨qa, hq, h1⟩ := Option.bind_eq_some_iff.mp h1
  obtain ⟨v, hv, rel⟩ := rp.at e1
  refine ⟨v, hv, ?_, evA_read rp hq ?_⟩
  · unfold Rel at rel
    obtain ⟨b, vs, f, rfl, hb, _⟩ := rel
    exact .inl ⟨rfl, vs, SqL.of hb⟩
  · cases qa with
    | exc x e' => cases h1; exact h2
    | ok as e' =>
      obtain ⟨l, e3, h1⟩ := Option.bind_eq_some_iff.mp h1
      obtain ⟨d1, e4, e5⟩ := Option.bind_eq_some_iff.mp e3
      have := lstT_some e5
      subst this
      obtain ⟨ds, e6, h1⟩ := Option.bind_eq_some_iff.mp h1
      obtain ⟨p, e7, h1⟩ := Option.bind_eq_some_iff.mp h1
      cases h1
      intro us own' H' w pr
      exact mut_core (e := e) m w e4 hv (resolves_rel w.rep pr e6) e7 h2
end
section
variable {K : PySem.W.Frag} {M Fr : Own} {e e' : Sl} {own own' : Nat → Own} {σ : L2.St} {H H' : Hp} {d d' c c' : D} {v w u : V} {P : Own}
theorem Rels.set {l : List D} {vs : List V} {f : Nat → Own} {n : Nat} (r : Rels K M H l vs f) (kp : Keep M M H H') (hk : ∀ j a, f j a → j ≠ n → H' a = H a) (hu : vs[n]? = some u) (hc : Rel K M H' c u (f n)) : Rels K M H' (l.set n c) vs f := by
  refine Rels.of_get2 (by rw [List.length_set]; exact r.len) fun j d v g1 g2 => ?_
  by_cases e : j = n
  · subst e
    rw [hu] at g2; cases g2
    have : d = c := by
      rw [List.getElem?_set_self (by have := (List.getElem?_eq_some_iff.mp g1).1; rwa [List.length_set] at this)] at g1
      exact (Option.some.inj g1).symm
    rw [this]; exact hc
  · rw [List.getElem?_set_ne (Ne.symm e)] at g1
    exact (r.get2 j d v g1 g2).keep kp fun a z => hk j a z e
theorem Relk.set : ∀ {kvs : List (Key × V)} {l : List (D × D)} {f : Nat → Own} {q : Key}, Relk K M H l (kvs.map fun p => keyD p.1) (kvs.map (·.2)) f → lookD (keyD q) l = some c →
    ∃ n v, valV kvs q = some v ∧ Rel K M H c v (f n) ∧ ∀ (H' : Hp) (c' : D), Keep M M H H' → (∀ j a, f j a → j ≠ n → H' a = H a) → Rel K M H' c' v (f n) → Relk K M H' (setD (keyD q) c' l) (kvs.map fun p => keyD p.1) (kvs.map (·.2)) f
  | [], [], _, _, _, h => by simp [lookD] at h
  | [], _ :: _, _, _, h, _ => by unfold Relk at h; obtain ⟨_, _, _, h1, _⟩ := h; simp at h1
  | _ :: _, [], _, _, h, _ => by unfold Relk at h; simp at h
  | (j, x) :: kvs, (k, y) :: l, f, q, h, hl => by
    unfold Relk at h
    obtain ⟨kr, v, r, h1, h2, h3, h4⟩ := h
    simp only [List.map_cons, List.cons.injEq] at h1 h2
    obtain ⟨h1a, h1b⟩ := h1
    obtain ⟨h2a, h2b⟩ := h2
    subst h1b h2b h1a h2a
    unfold lookD at hl
    rw [sameKey_iff] at hl
    by_cases e : j = q
    · subst e
      rw [if_pos (by simp)] at hl
      cases hl
      refine ⟨0, x, by unfold valV; rw [List.find?_cons_of_pos (by simp)]; rfl, h3, fun H' c' kp hk hc => ?_⟩
      unfold setD
      simp only
      rw [sameKey_iff, if_pos (by simp)]
      unfold Relk
      exact ⟨_, _, _, rfl, rfl, hc, h4.keep kp fun n a z => hk (n + 1) a z (by omega)⟩
    · rw [if_neg (by simpa using e)] at hl
      obtain ⟨n, v, a1, a2, a3⟩ := Relk.set h4 hl
      refine ⟨n + 1, v, by unfold valV at a1 ⊢; rw [List.find?_cons_of_neg (by simpa using e)]; exact a1, a2, fun H' c' kp hk hc => ?_⟩
      unfold setD
      simp only
      rw [sameKey_iff, if_neg (by simpa using e)]
      unfold Relk
      exact ⟨_, _, _, rfl, rfl, h3.keep kp fun a z => hk 0 a z (by omega), a3 H' c' kp (fun i a z ne => hk (i + 1) a z (by omega)) hc⟩
/-- a part and its change -/
theorem kid_put {k : D} (h : Rel K M H d w P) (hk : kid d k = some c) (hv : Kid H w k u) : ∃ Pc : Own, Rel K M H c u Pc ∧ (∀ a, Pc a → P a) ∧
    ∀ (H' : Hp) (b : Addr) (c' d' : D), But b H H' → Pc b → M b → Rel K M H' c' u Pc → putKid d k c' = some d' → Rel K M H' d' w P := by
  unfold kid at hk
  split at hk
  · rename_i l n
    unfold Rel at h
    obtain ⟨a, vs, f, rfl, h1, pa, un, h2⟩ := h
    obtain ⟨a', vs', e1, e2, e4, e5⟩ := hv
    cases e1
    rw [h1] at e2; cases e2
    rw [if_pos e4] at hk
    refine ⟨f n.toNat, h2.get2 _ _ _ hk e5, un.sub _, fun H' b c' d' bt pb mb hc hp => ?_⟩
    unfold putKid at hp
    simp only at hp
    split at hp
    · cases hp
      unfold Rel
      exact ⟨a, vs, f, rfl, by rw [bt a fun z => un.ne _ _ pb z.symm]; exact h1, pa, un, h2.set (bt.keep mb) (fun j x z ne => bt x fun q => ne (un.dj _ _ _ (q ▸ z) pb)) e5 hc⟩
    · cases hp
  · rename_i l s
    unfold Rel at h
    obtain ⟨a, ks, vs, f, rfl, h1, pa, un, h2⟩ := h
    obtain ⟨a', kvs, e1, e2, e4⟩ := hv
    cases e1
    rcases h1 with ⟨kvs', h1, rfl, rfl⟩ | ⟨_, h1, _⟩
    · rw [h1] at e2; cases e2
      obtain ⟨n, v, a1, a2, a3⟩ := Relk.set (q := Sum.inr s) h2 hk
      rw [e4] at a1; cases a1
      refine ⟨f n, a2, un.sub _, fun H' b c' d' bt pb mb hc hp => ?_⟩
      cases hp
      unfold Rel
      refine ⟨a, _, _, f, rfl, .inl ⟨kvs, by rw [bt a fun z => un.ne _ _ pb z.symm]; exact h1, rfl, rfl⟩, pa, un, a3 H' c' (bt.keep mb) (fun j x z ne => bt x fun q => ne (un.dj _ _ _ (q ▸ z) pb)) hc⟩
    · rw [h1] at e2; cases e2
  · cases hk
end
section
variable {X : Cx} {W : WX} {σ : L2.St} {H : Hp} {Q : VK} {ars : List Ar} {r : V → List V → Hp → VK → Prop} {g : List D → List D → Option (D × List D)} {i : Nat} {k : D}
theorem rd_mutP (m : Muts X.K r g) (h : tM X W (mMutP g i k ars) σ H Q) : ∃ v u, σ[i]? = some (some v) ∧ Kid H v k u ∧ tyV X.K "list" u H ∧ tAs X W ars σ H fun us H' => r u us H' Q := by
  obtain ⟨Fr, e, own, q, rp, h1, h2⟩ := h
  unfold mMutP at h1
  obtain ⟨d, e1, h1⟩ := Option.bind_eq_some_iff.mp h1
  obtain ⟨lc, e2, h1⟩ := Option.bind_eq_some_iff.mp h1
  obtain ⟨c, e3, e4⟩ := Option.bind_eq_some_iff.mp e2
  have := lstT_some e4
  subst this
  obtain ⟨as, e5, h1⟩ := Option.bind_eq_some_iff.mp h1
  obtain ⟨ds, e6, h1⟩ := Option.bind_eq_some_iff.mp h1
  obtain ⟨p, e7, h1⟩ := Option.bind_eq_some_iff.mp h1
  obtain ⟨d', e8, h1⟩ := Option.bind_eq_some_iff.mp h1
  cases h1
  obtain ⟨v, hv, rel⟩ := rp.at e1
  obtain ⟨u, hk⟩ := kid_get rel e3
  refine ⟨v, u, hv, hk, ?_, evI_read rp e5 fun us H1 x pr => ?_⟩
  · obtain ⟨P, hc⟩ := kid_rel rel e3 hk
    obtain ⟨b, vs, f, rfl, hb, _⟩ := any_lst ⟨P, hc⟩
    exact .inl ⟨rfl, vs, SqL.of hb⟩
  · have w1 := rp.grown x
    obtain ⟨v', hv', rel1⟩ := w1.rep.at e1
    rw [hv] at hv'; cases hv'
    obtain ⟨Pc, rc, sub, put⟩ := kid_put rel1 e3 (hk.ext x)
    have rc' := rc
    unfold Rel at rc
    obtain ⟨b, vs, f, rfl, hb, pb, un, relc⟩ := rc
    obtain ⟨res, l'⟩ := p
    have mb : Mof Fr own b := .inr ⟨i, sub b pb⟩
    refine m (Mof Fr own) H1 b lc vs f ds us res l' Q w1.rep.tr mb hb relc un.ne un.dj (resolves_rel w1.rep pr e6) e7 fun u vs' f' sb dj' rel' relr => ?_
    have bt : But b H1 (upd H1 b (.lst vs')) := fun a ha => upd_ne ha
    have nc : Rel X.K (Mof Fr own) (upd H1 b (.lst vs')) (.lst true l') (.ref b) Pc := by
      unfold Rel
      exact ⟨b, vs', f', rfl, upd_same, pb, ⟨fun j a z => let ⟨k, z⟩ := sb j a z; un.sub k a z, fun j a z => let ⟨k, z⟩ := sb j a z; un.ne k a z, dj'⟩,
        rel'.keep (bt.keep mb) fun j a z => bt a (let ⟨k, z⟩ := sb j a z; un.ne k a z)⟩
    have w2 := w1.rep.change (d' := d') (sub b pb) bt (by rw [upd_same]; simp) hv (put _ b _ d' bt pb mb nc e8)
    exact h2 u nobody own _ ((w1.trans w2).val (relr.keep (bt.keep mb) fun _ z => z.elim))

/-! ### the rules -/
variable {o a : Expr} {es : List Expr} {u : Ar} {name : Str} {apos cpos : Pos} {id : String} {x : Str} {p1 p2 p3 : Pos}
theorem oMut (slot : Slot "list" name id) (hty : typeOf (.builtin id) = pure (.type "method_descriptor")) (hm : MtR X id r) (m : Muts X.K r g) (ha : PAs X W (a :: es) ars) (hN : X.N[i]? = some x := by rfl)
    (hv : Vis X.env.scope x := by first | exact Or.inl rfl | exact Or.inr (Or.inl rfl) | exact Or.inr (Or.inr rfl)) (hd : (x == ("__debug__" : Str)) = false := by decide) (hcd : (x == ("__classdict__" : Str)) = false := by decide)
    (hbase : attributeBase (.Name x p1) name X.env (eval (.Name x p1) X.env) = eval (.Name x p1) X.env := by rfl)
    (hfew : ((backTo cpos (starEach (a :: es) X.env)).all (fun x => !x.1) && (backToKw cpos (keywordEach [] X.env)).all (fun x => x.1.isSome)
      && decide ((a :: es).length + ([] : List Keyword).length + (if ([] : List Keyword).isEmpty then 0 else 1) < 30)) = true := by rfl)
    (hline : (apos.endLine == cpos.line) = true := by rfl) (hs : starEach (a :: es) X.env = (false, eval a X.env) :: starEach es X.env := by rfl) (hplain : (backTo cpos (starEach es X.env)).any (·.1) = false := by rfl) :
    PE X (.Call (.Attribute (.Name x p1) name apos) (a :: es) [] cpos) (tM X W (mMut g i ars)) :=
  peImp (pe_bm PySem.F.plainAttrs_list slot hty hm (pe_var (i := i) hN hv hd hcd) ha hbase hfew hline hs hplain) fun _ _ _ h => by
    obtain ⟨v, h1, h2, h3⟩ := rd_mut m h
    exact ⟨v, h1, h2, h3⟩
theorem oMut0 (slot : Slot "list" name id) (hty : typeOf (.builtin id) = pure (.type "method_descriptor")) (hm : MtR X id r) (m : Muts X.K r g) (hN : X.N[i]? = some x := by rfl)
    (hv : Vis X.env.scope x := by first | exact Or.inl rfl | exact Or.inr (Or.inl rfl) | exact Or.inr (Or.inr rfl)) (hd : (x == ("__debug__" : Str)) = false := by decide) (hcd : (x == ("__classdict__" : Str)) = false := by decide)
    (hbase : attributeBase (.Name x p1) name X.env (eval (.Name x p1) X.env) = eval (.Name x p1) X.env := by rfl) (hline : (apos.endLine == cpos.line) = true := by rfl) :
    PE X (.Call (.Attribute (.Name x p1) name apos) [] [] cpos) (tM X W (mMut g i [])) :=
  peImp (pe_bm0 PySem.F.plainAttrs_list slot hty hm (pe_var (i := i) hN hv hd hcd) hbase hline) fun _ _ _ h => by
    obtain ⟨v, h1, h2, h3⟩ := rd_mut m h
    exact ⟨v, h1, h2, h3⟩
theorem oMutP (slot : Slot "list" name id) (hty : typeOf (.builtin id) = pure (.type "method_descriptor")) (hm : MtR X id r) (m : Muts X.K r g) (ho : PO1 X W o (.pt i k)) (ha : PAs X W (a :: es) ars)
    (hbase : attributeBase o name X.env (eval o X.env) = eval o X.env := by rfl)
    (hfew : ((backTo cpos (starEach (a :: es) X.env)).all (fun x => !x.1) && (backToKw cpos (keywordEach [] X.env)).all (fun x => x.1.isSome)
      && decide ((a :: es).length + ([] : List Keyword).length + (if ([] : List Keyword).isEmpty then 0 else 1) < 30)) = true := by rfl)
    (hline : (apos.endLine == cpos.line) = true := by rfl) (hs : starEach (a :: es) X.env = (false, eval a X.env) :: starEach es X.env := by rfl) (hplain : (backTo cpos (starEach es X.env)).any (·.1) = false := by rfl) :
    PE X (.Call (.Attribute o name apos) (a :: es) [] cpos) (tM X W (mMutP g i k ars)) :=
  peImp (pe_bm PySem.F.plainAttrs_list slot hty hm ho ha hbase hfew hline hs hplain) fun _ _ _ h => by
    obtain ⟨v, u, h1, h2, h3, h4⟩ := rd_mutP m h
    exact ⟨v, u, h1, h2, h3, h4⟩
theorem oMutP0 (slot : Slot "list" name id) (hty : typeOf (.builtin id) = pure (.type "method_descriptor")) (hm : MtR X id r) (m : Muts X.K r g) (ho : PO1 X W o (.pt i k))
    (hbase : attributeBase o name X.env (eval o X.env) = eval o X.env := by rfl) (hline : (apos.endLine == cpos.line) = true := by rfl) :
    PE X (.Call (.Attribute o name apos) [] [] cpos) (tM X W (mMutP g i k [])) :=
  peImp (pe_bm0 PySem.F.plainAttrs_list slot hty hm ho hbase hline) fun _ _ _ h => by
    obtain ⟨v, u, h1, h2, h3, h4⟩ := rd_mutP m h
    exact ⟨v, u, h1, h2, h3, h4⟩
end

/-! ### a list with what its items own -/
/-- a new list whose items stay owned -/
def mLstO (ms : List ME) : ME := fun e => (evO ms e).bind fun q => match q with
  | .ok ds e' => if ds.length ≤ 16777216 then some (.ok (.lst true ds) e') else none
  | .exc x e' => some (.exc x e')
section
variable {X : Cx} {W : WX} {ms : List ME} {es : List Expr} {pos : Pos}
theorem oLstO (h : PA X es (tOs X W ms)) : PE X (.List es pos) (tM X W (mLstO ms)) := by
  refine peImp (pe_lst h) fun σ H Q h => ?_
  obtain ⟨Fr, e, own, r, rp, h1, h2⟩ := h
  unfold mLstO at h1
  obtain ⟨q, hq, h1⟩ := Option.bind_eq_some_iff.mp h1
  refine evO_read rp hq ?_
  cases q with
  | exc x e' => cases h1; exact h2
  | ok ds e' =>
    dsimp only at h1
    split at h1
    · rename_i z
      cases h1
      intro vs f own' H' g
      refine ⟨by rw [← g.rel.len]; exact le_line z, fun p hp => ?_⟩
      have ext : ∀ a o, H' a = some o → (upd H' p (.lst vs)) a = some o := fun a o h => by rw [upd_ne (ne_of_none h hp)]; exact h
      have np : ¬ Mof (fun a => Fr a ∨ ∃ j, f j a) own' p := fun z => g.rep.tr p z hp
      refine h2 (.ref p) (fun a => a = p ∨ ∃ j, f j a) own' (upd H' p (.lst vs)) ?_
      have e1 : Mof (fun a => Fr a ∨ (a = p ∨ ∃ j, f j a)) own' = fun a => Mof (fun a => Fr a ∨ ∃ j, f j a) own' a ∨ a = p := by
        funext a
        apply propext
        constructor
        · rintro ((z | z | z) | z)
          · exact .inl (.inl (.inl z))
          · exact .inr z
          · exact .inl (.inl (.inr z))
          · exact .inl (.inr z)
        · rintro (((z | z) | z) | z)
          · exact .inl (.inl z)
          · exact .inl (.inr (.inr z))
          · exact .inr z
          · exact .inl (.inr (.inl z))
      have k : Keep (Mof (fun a => Fr a ∨ ∃ j, f j a) own') (fun a => Mof (fun a => Fr a ∨ ∃ j, f j a) own' a ∨ a = p) H' (upd H' p (.lst vs)) := fun a o n z => ⟨ext a o z, fun q => q.elim n fun q => by rw [q, hp] at z; cases z⟩
      have same : ∀ a, Mof (fun a => Fr a ∨ ∃ j, f j a) own' a → (upd H' p (.lst vs)) a = H' a := fun a z => upd_ne fun q => np (q ▸ z)
      refine ⟨⟨g.rep.len, fun i d hd => ?_, g.rep.dj, fun i a ha z => ?_, fun a ha => ?_⟩, ?_, fun a z z2 => ?_, ?_, fun a z => (same a (.inl (.inl z))).trans (g.fix a z)⟩
      · obtain ⟨v, h3, h4⟩ := g.rep.sl i d hd
        exact ⟨v, h3, by rw [e1]; exact h4.keep k fun a z => same a (.inr ⟨i, z⟩)⟩
      · rcases z with z | z | z
        · exact g.rep.fr i a ha (.inl z)
        · exact np (.inr ⟨i, z ▸ ha⟩)
        · exact g.rep.fr i a ha (.inr z)
      · rw [e1] at ha
        rcases ha with ha | ha
        · rw [same a ha]; exact g.rep.tr a ha
        · rw [ha, upd_same]; simp
      · rw [e1]
        unfold Rel
        exact ⟨p, vs, f, rfl, upd_same, .inl rfl, ⟨fun j b z => .inr ⟨j, z⟩, fun j b z q => np (.inl (.inr ⟨j, q ▸ z⟩)), g.dj⟩, g.rel.keep k fun j a z => same a (.inl (.inr ⟨j, z⟩))⟩
      · rcases z with z | ⟨j, z⟩
        · exact np (.inl (.inl (z ▸ z2)))
        · exact g.ap j a z z2
      · rw [e1]; exact g.keep.trans k
    · cases h1
end

/-! ### x[i] = v, x a list at a name -/
def sPut (i : Nat) (m : ME) (ix : MI) : MS := fun e => (m e).bind fun r => match r with
  | .ok d e' => ((slot e' i).bind lstT).bind fun l => (ix e').bind fun k => match k with
    | .int n => (ixN l.length n).bind fun j => some (.nx (e'.set i (some (.lst true (l.set j d)))))
    | _ => none
  | .exc x e' => some (.exc x e')
section
variable {X : Cx} {W : WX} {fx : Nat → Bool} {a b : Expr} {m : ME} {ix : MI} {i : Nat} {x : Str} {p1 p2 pos : Pos}
theorem pPut (he : PE X a (tM X W m)) (hi : PE X b (tI X ix)) (hN : X.N[i]? = some x := by rfl)
    (hv : Vis X.env.scope x := by first | exact Or.inl rfl | exact Or.inr (Or.inl rfl) | exact Or.inr (Or.inr rfl)) (hd : (x == ("__debug__" : Str)) = false := by decide) (hcd : (x == ("__classdict__" : Str)) = false := by decide)
    (ha : ∀ v, assign (.Subscript (.Name x p1) b p2) X.env v = (do
      let ov ← holding [v] (eval (.Name x p1) X.env)
      let iv ← holding [v, ov] (eval b X.env)
      standAt p2
      holding [v, ov, iv] (setItem ov iv v)
      release [v, ov, iv] []) := by intro _; rfl)
    (hs : swapsWithSole [.Subscript (.Name x p1) b p2] a pos.line X.env = pure false := by rfl) (hw : swappedStores [.Subscript (.Name x p1) b p2] a X.env = pure none := by rfl)
    (h1 : (assignEach [.Subscript (.Name x p1) b p2] X.env).map (·.2) = [assign (.Subscript (.Name x p1) b p2) X.env] := by rfl) :
    PS X (.Assign [.Subscript (.Name x p1) b p2] a pos) (tS X W fx (sPut i m ix)) := by
  refine sImp (ps_asg he (pg_sub (pe_var (i := i) hN hv hd hcd) hi set_list ha) hs hw h1) fun D σ H h => ?_
  obtain ⟨Fr, e, own, r, rp, h1, h2⟩ := h
  unfold sPut at h1
  obtain ⟨q, hq, h1⟩ := Option.bind_eq_some_iff.mp h1
  refine ⟨Fr, e, own, q, rp, hq, ?_⟩
  cases q with
  | exc x e' => cases h1; exact fun c dx own' H' w xr => h2 c dx own' σ H' w.step xr
  | ok d e' =>
    obtain ⟨l, e1, h1⟩ := Option.bind_eq_some_iff.mp h1
    obtain ⟨d0, e2, e3⟩ := Option.bind_eq_some_iff.mp e1
    have := lstT_some e3
    subst this
    obtain ⟨k, e4, h1⟩ := Option.bind_eq_some_iff.mp h1
    cases k with
    | int n =>
      obtain ⟨j, e5, h1⟩ := Option.bind_eq_some_iff.mp h1
      cases h1
      intro v P own' H' g
      obtain ⟨u, hu, rel⟩ := g.rep.at e2
      refine ⟨u, hu, fun a => Fr a ∨ P a, e', own', _, g.rep, e4, fun iv H2 hiv x => ?_⟩
      have hn : iv = .int n := by unfold Rel at hiv; exact hiv
      subst hn
      have g1 := g.rep.grown x
      obtain ⟨u', hu', rel1⟩ := g1.rep.at e2
      rw [hu] at hu'; cases hu'
      unfold Rel at rel1
      obtain ⟨b, vs, f, rfl, hb, pb, un, rel1⟩ := rel1
      obtain ⟨s1, s2, s3, s4⟩ := ixN_seq e5
      refine ⟨b, vs, n, j, rfl, rfl, hb, by rw [← rel1.len]; exact e5, ?_⟩
      have bt : But b H2 (upd H2 b (.lst (vs.set j v))) := fun a ha => upd_ne ha
      have mb : Mof (fun a => Fr a ∨ P a) own' b := .inr ⟨i, pb⟩
      have nP : ∀ a, P a → ¬ own' i a := fun a z z2 => g.rep.fr i a z2 (.inr z)
      -- the slot owns what the value owned
      have eM : Mof Fr (putO own' i fun a => own' i a ∨ P a) = Mof (fun a => Fr a ∨ P a) own' := by
        funext a
        apply propext
        constructor
        · rintro (z | ⟨t, z⟩)
          · exact .inl (.inl z)
          · by_cases c : t = i
            · subst c; rw [putO_self] at z; exact z.elim (fun z => .inr ⟨_, z⟩) fun z => .inl (.inr z)
            · rw [putO_ne c] at z; exact .inr ⟨t, z⟩
        · rintro ((z | z) | ⟨t, z⟩)
          · exact .inl z
          · exact .inr ⟨i, by rw [putO_self]; exact .inr z⟩
          · by_cases c : t = i
            · subst c; exact .inr ⟨t, by rw [putO_self]; exact .inl z⟩
            · exact .inr ⟨t, by rw [putO_ne c]; exact z⟩
      have kp := bt.keep mb
      have relv : Rel X.K (Mof (fun a => Fr a ∨ P a) own') (upd H2 b (.lst (vs.set j v))) d v P := by
        have r1 := g.rel.keep (H' := H2) (ext_keep x) fun a z => g1.fix a (.inr z)
        exact r1.keep kp fun a z => bt a fun q => nP a z (q ▸ pb)
      refine h2 (putO own' i fun a => own' i a ∨ P a) σ _ ⟨⟨⟨by rw [List.length_set]; exact g.rep.len, fun t d2 hd2 => ?_, fun t t2 a z z2 => ?_, fun t a z z2 => ?_, fun a z => ?_⟩, ?_, fun a z => ?_⟩, fun _ _ => rfl⟩
      · rcases set_get hd2 with ⟨rfl, e6⟩ | ⟨c, e6⟩
        · cases e6
          refine ⟨_, hu, ?_⟩
          rw [eM, putO_self]
          unfold Rel
          refine ⟨b, vs.set j v, fun n a => if n = j then P a else f n a, rfl, upd_same, .inl pb, ⟨fun n a z => ?_, fun n a z => ?_, fun n n2 a z z2 => ?_⟩, ?_⟩
          · split at z
            · exact .inr z
            · exact .inl (un.sub n a z)
          · split at z
            · exact fun q => nP a z (q ▸ pb)
            · exact un.ne n a z
          · split at z <;> split at z2
            · omega
            · exact (nP a z (un.sub _ a z2)).elim
            · exact (nP a z2 (un.sub _ a z)).elim
            · exact un.dj _ _ a z z2
          · refine Rels.of_get2 (by rw [List.length_set, List.length_set]; exact rel1.len) fun n d2 v2 q1 q2 => ?_
            by_cases c : n = j
            · subst c
              have l1 : n < l.length := by have := (List.getElem?_eq_some_iff.mp q1).1; rwa [List.length_set] at this
              rw [List.getElem?_set_self l1] at q1
              rw [List.getElem?_set_self (by rw [← rel1.len]; exact l1)] at q2
              cases q1
              cases q2
              refine relv.wk fun a z => ?_
              rw [if_pos rfl]; exact z
            · rw [List.getElem?_set_ne (Ne.symm c)] at q1 q2
              refine ((rel1.get2 n d2 v2 q1 q2).keep kp fun a z => bt a fun q => un.ne n a z q).wk fun a z => ?_
              rw [if_neg c]; exact z
        · obtain ⟨u2, h3, h4⟩ := g1.rep.sl t d2 e6
          exact ⟨u2, h3, by rw [eM, putO_ne c]; exact h4.keep kp fun a z => bt a fun q => c (g.rep.dj _ _ _ (q ▸ z) pb)⟩
      · by_cases c : t = i
        · by_cases c2 : t2 = i
          · rw [c, c2]
          · subst c; rw [putO_self] at z; rw [putO_ne c2] at z2
            exact z.elim (fun z => g.rep.dj _ _ a z z2) fun z => (g.rep.fr t2 a z2 (.inr z)).elim
        · by_cases c2 : t2 = i
          · subst c2; rw [putO_self] at z2; rw [putO_ne c] at z
            exact z2.elim (fun z2 => g.rep.dj _ _ a z z2) fun z2 => (g.rep.fr t a z (.inr z2)).elim
          · rw [putO_ne c] at z; rw [putO_ne c2] at z2; exact g.rep.dj _ _ a z z2
      · by_cases c : t = i
        · subst c; rw [putO_self] at z
          exact z.elim (fun z => g.rep.fr _ a z (.inl z2)) fun z => g.ap a z z2
        · rw [putO_ne c] at z; exact g.rep.fr t a z (.inl z2)
      · rw [eM] at z
        by_cases c : a = b
        · rw [c, upd_same]; simp
        · rw [bt a c]; exact g1.rep.tr a z
      · rw [eM]
        exact g.keep.trans (g1.keep.trans kp)
      · have nb : a ≠ b := fun q => g.rep.fr i b pb (.inl (q ▸ z))
        exact (bt a nb).trans ((g1.fix a (.inl z)).trans (g.fix a z))
    | _ => cases h1
end
end Ow

set_option Elab.async false
set_option autoImplicit false
set_option linter.all false
set_option maxRecDepth 100000
/-! Ow, part 11: walks, for, while. -/
namespace Ow
open PySem PySem.Spec PyProof.Rows L2

/-- J gives the items while the operands vs stand for ds -/
structure Runs (K : PySem.W.Frag) (vs : List V) (ds : List D) (items : List D) (J : It) : Prop where
  run : ∃ (G : Hp → Prop) (Y : Nat → Hp → V → Hp → Prop), Walk J items.length G Y ∧ ∀ (M : Own) (H : Hp), (∀ a, M a → H a ≠ none) → Paired (RelAny K M H) ds vs →
    G H ∧ ∀ i x H' d, items[i]? = some d → Y i H x H' → New K M H d x nobody H'
abbrev TIv := List V → Hp → (It → Hp → Prop) → Prop
def Goes (K : PySem.W.Frag) (r : TIv) (g : List D → Option (List D)) : Prop :=
  ∀ (M : Own) (H : Hp) (ds : List D) (vs : List V) (items : List D) (R : It → Hp → Prop), (∀ a, M a → H a ≠ none) → Paired (RelAny K M H) ds vs → g ds = some items →
    (∀ J, Runs K vs ds items J → R J H) → r vs H R

/-! ### what is walked -/
def seqD : D → Option (List D)
  | .lst _ l => if low l then some l else none
  | .far l => some l
  | .tup l => some l
  | .str s => some (s.cps.toList.map fun c => .str ⟨#[c]⟩)
  | _ => none
def gSeq : List D → Option (List D)
  | [d] => seqD d
  | _ => none
def rSeq (K : PySem.W.Frag) : TIv := fun vs H R => ∃ x, vs = [x] ∧
  ((∃ a xs, x = .ref a ∧ SqL K H a xs ∧ R (Itl K a) H) ∨ (∃ a xs, x = .ref a ∧ SqT K H a xs ∧ R (Itt K a) H) ∨ ∃ s, x = .str s ∧ R (Its s) H)
section
variable {K : PySem.W.Frag} {M : Own} {H : Hp} {d : D} {v : V} {l : List D} {ds : List D} {vs : List V}
theorem seq_rel {o : Bool} (h : RelAny K M H (.lst o l) v) (z : low l = true) : ∃ a vs, v = .ref a ∧ SqL K H a vs ∧ Rels K M H l vs nobodies := by
  obtain ⟨a, vs, e, h1, h2⟩ := low_flat_rels h z
  exact ⟨a, vs, e, SqL.of h1, h2⟩
theorem far_rel (h : RelAny K M H (.far l) v) : ∃ a vs, v = .ref a ∧ SqL K H a vs ∧ Rels K M H l vs nobodies := by
  obtain ⟨P, h⟩ := h
  unfold Rel at h
  obtain ⟨a, vs, e, h1, h2⟩ := h
  exact ⟨a, vs, e, h1.seq, h2⟩
theorem tup_rel (h : RelAny K M H (.tup l) v) : ∃ a vs, v = .ref a ∧ SqT K H a vs ∧ Rels K M H l vs nobodies := by
  obtain ⟨P, h⟩ := h
  unfold Rel at h
  obtain ⟨a, vs, e, h1, h2⟩ := h
  exact ⟨a, vs, e, h1.seq, h2⟩
/-- a list of data (bare items) that one may walk -/
def isL (d : D) (l : List D) : Prop := (∃ o, d = .lst o l ∧ low l = true) ∨ d = .far l
theorem isL_rel (h : RelAny K M H d v) (z : isL d l) : ∃ a vs, v = .ref a ∧ SqL K H a vs ∧ Rels K M H l vs nobodies := by
  rcases z with ⟨o, rfl, z⟩ | rfl
  · exact seq_rel h z
  · exact far_rel h
theorem item_new (tr : ∀ a, M a → H a ≠ none) (r : Rels K M H l vs nobodies) {i : Nat} {x : V} (hi : l[i]? = some d) (hx : vs[i]? = some x) : New K M H d x nobody H := by
  obtain ⟨v, h1, h2⟩ := r.get hi
  rw [hx] at h1; cases h1
  exact .same h2
theorem runs_list {a : Addr} (hd : isL d l) : Runs K [.ref a] [d] l (Itl K a) := by
  refine ⟨fun H => ∃ xs, SqL K H a xs ∧ xs.length = l.length, fun i H x H' => H' = H ∧ ∀ xs, SqL K H a xs → xs[i]? = some x, ⟨?_, ?_, ?_⟩, ?_⟩
  · rintro i H hi ⟨xs, q, e⟩
    exact ⟨xs, xs[i]'(by omega), q, by simp⟩
  · rintro H ⟨xs, q, e⟩
    exact ⟨xs, q, by omega⟩
  · intro i H x H' _ _ y
    exact y
  · intro M H tr p
    cases p with
    | cons h t =>
      obtain ⟨a', xs, e, q, r⟩ := isL_rel h hd
      cases e
      exact ⟨⟨xs, q, r.len.symm⟩, fun i x H' d hi y => by obtain ⟨rfl, y⟩ := y; exact item_new tr r hi (y xs q)⟩
theorem runs_tup {a : Addr} : Runs K [.ref a] [.tup l] l (Itt K a) := by
  refine ⟨fun H => ∃ xs, SqT K H a xs ∧ xs.length = l.length, fun i H x H' => H' = H ∧ ∀ xs, SqT K H a xs → xs[i]? = some x, ⟨?_, ?_, ?_⟩, ?_⟩
  · rintro i H hi ⟨xs, q, e⟩
    exact ⟨xs, xs[i]'(by omega), q, by simp⟩
  · rintro H ⟨xs, q, e⟩
    exact ⟨xs, q, by omega⟩
  · intro i H x H' _ _ y
    exact y
  · intro M H tr p
    cases p with
    | cons h t =>
      obtain ⟨a', xs, e, q, r⟩ := tup_rel h
      cases e
      exact ⟨⟨xs, q, r.len.symm⟩, fun i x H' d hi y => by obtain ⟨rfl, y⟩ := y; exact item_new tr r hi (y xs q)⟩
theorem runs_str {s : Str} {x : V} : Runs K [x] [.str s] (s.cps.toList.map fun c => .str ⟨#[c]⟩) (Its s) := by
  have e : (s.cps.toList.map fun c => D.str ⟨#[c]⟩).length = s.cps.size := by simp
  refine ⟨_, _, by rw [e]; exact walk_str, fun M H tr p => ⟨trivial, fun i x H' d hi y => ?_⟩⟩
  obtain ⟨rfl, c, hc, rfl⟩ := y
  rw [List.getElem?_map] at hi
  have hc' : s.cps.toList[i]? = some c := by rw [← hc]; simp
  rw [hc'] at hi
  cases hi
  exact .same (by unfold Rel; rfl)
theorem goes_seq : Goes K (rSeq K) gSeq := by
  intro M H ds vs items R tr p h q
  cases p with
  | nil => cases h
  | cons h1 t =>
    cases t with
    | cons _ _ => cases h
    | nil =>
      rename_i d v
      have h : seqD d = some items := h
      refine ⟨v, rfl, ?_⟩
      cases d with
      | lst o l =>
        have h : (if low l = true then some l else none) = some items := h
        split at h
        · rename_i z
          have e : items = l := (Option.some.inj h).symm
          subst e
          have il : isL (.lst o items) items := .inl ⟨o, rfl, z⟩
          obtain ⟨a, xs, rfl, h2, _⟩ := isL_rel h1 il
          exact .inl ⟨a, xs, rfl, h2, q _ (runs_list il)⟩
        · cases h
      | far l =>
        have e : items = l := (Option.some.inj h).symm
        subst e
        have il : isL (.far items) items := .inr rfl
        obtain ⟨a, xs, rfl, h2, _⟩ := isL_rel h1 il
        exact .inl ⟨a, xs, rfl, h2, q _ (runs_list il)⟩
      | tup l =>
        have e : items = l := (Option.some.inj h).symm
        subst e
        obtain ⟨a, xs, rfl, h2, _⟩ := tup_rel h1
        exact .inr (.inl ⟨a, xs, rfl, h2, q _ runs_tup⟩)
      | str s =>
        cases h
        obtain ⟨P, h1⟩ := h1
        unfold Rel at h1
        exact .inr (.inr ⟨s, h1, q _ runs_str⟩)
      | _ => cases h

/-! ### ranges -/
def upFrom (lo c : Int) (n : Nat) : List D := (List.range n).map fun i => .int (lo + (i : Nat) * c)
def sml (i : Int) : Bool := decide (-4611686018427387904 ≤ i) && decide (i < 4611686018427387904)
def gRng1 : List D → Option (List D)
  | [.int n] => if sml n then some ((List.range n.toNat).map fun i => .int (i : Nat)) else none
  | _ => none
def gRng2 : List D → Option (List D)
  | [.int i, .int j] => if sml i && sml j then some ((List.range (j - i).toNat).map fun k => .int (i + (k : Nat))) else none
  | _ => none
def gRng3 : List D → Option (List D)
  | [.int i, .int j, .int c] => if c ≠ 0 ∧ c.natAbs < 1073741824 ∧ Builtin.Range.small i j c = true ∧ 0 ≤ Builtin.Range.rangeSize i j c then some (upFrom i c (Builtin.Range.rangeSize i j c).toNat) else none
  | _ => none
def rRng1 : TIv := fun vs H R => ∃ j : Int, vs = [.int j] ∧ -(2 ^ 62) ≤ j ∧ j < 2 ^ 62 ∧ R (Itr 0 j.toNat) H
def rRng2 : TIv := fun vs H R => ∃ i j : Int, vs = [.int i, .int j] ∧ (-(2 ^ 62) ≤ i ∧ i < 2 ^ 62 ∧ -(2 ^ 62) ≤ j ∧ j < 2 ^ 62) ∧ R (Itr i (j - i).toNat) H
def rRng3 : TIv := fun vs H R => ∃ (i j c : Int) (n : Nat), vs = [.int i, .int j, .int c] ∧ RgC i j c n ∧ R (Itc i c n) H
theorem sml_iff {i : Int} (h : sml i = true) : -(2 ^ 62) ≤ i ∧ i < 2 ^ 62 := by
  unfold sml at h
  simp only [Bool.and_eq_true, decide_eq_true_eq] at h
  omega
theorem runs_fn {f : Nat → Int} {n : Nat} {J : It} (w : Walk J n (fun _ => True) (YFn fun i => .int (f i))) : Runs K vs ds ((List.range n).map fun i => .int (f i)) J := by
  refine ⟨_, _, by simpa using w, fun M H tr p => ⟨trivial, fun i x H' d hi y => ?_⟩⟩
  obtain ⟨rfl, rfl⟩ := y
  rw [List.getElem?_map] at hi
  obtain ⟨k, hk, e⟩ := Option.map_eq_some_iff.mp hi
  obtain ⟨_, hk⟩ := List.getElem?_eq_some_iff.mp hk
  simp at hk
  subst hk
  subst e
  exact .same (by unfold Rel; rfl)
theorem int_rel {i : Int} (h : RelAny K M H (.int i) v) : v = .int i := by
  obtain ⟨P, h⟩ := h
  unfold Rel at h
  exact h
theorem goes_rng1 : Goes K rRng1 gRng1 := by
  intro M H ds vs items R tr p h q
  unfold gRng1 at h
  split at h
  · split at h
    · rename_i n z
      cases h
      cases p with
      | cons h1 t =>
        cases t
        have := int_rel h1
        subst this
        obtain ⟨z1, z2⟩ := sml_iff z
        exact ⟨n, rfl, z1, z2, q _ (runs_fn (by simpa using walk_range (lo := 0) (n := n.toNat)))⟩
    · cases h
  · cases h
theorem goes_rng2 : Goes K rRng2 gRng2 := by
  intro M H ds vs items R tr p h q
  unfold gRng2 at h
  split at h
  · split at h
    · rename_i i j z
      cases h
      rw [Bool.and_eq_true] at z
      cases p with
      | cons h1 t =>
        cases t with
        | cons h2 t =>
          cases t
          have := int_rel h1
          subst this
          have := int_rel h2
          subst this
          obtain ⟨z1, z2⟩ := sml_iff z.1
          obtain ⟨z3, z4⟩ := sml_iff z.2
          exact ⟨i, j, rfl, ⟨z1, z2, z3, z4⟩, q _ (runs_fn walk_range)⟩
    · cases h
  · cases h
theorem goes_rng3 : Goes K rRng3 gRng3 := by
  intro M H ds vs items R tr p h q
  unfold gRng3 at h
  split at h
  · split at h
    · rename_i i j c z
      cases h
      obtain ⟨z1, z2, z3, z4⟩ := z
      cases p with
      | cons h1 t =>
        cases t with
        | cons h2 t =>
          cases t with
          | cons h3 t =>
            cases t
            have := int_rel h1
            subst this
            have := int_rel h2
            subst this
            have := int_rel h3
            subst this
            exact ⟨i, j, c, (Builtin.Range.rangeSize i j c).toNat, rfl, ⟨z1, z2, z3, by omega⟩, q _ (runs_fn walk_rangeC)⟩
    · cases h
  · cases h

/-! ### reversed, enumerate, zip -/
def gRev : List D → Option (List D)
  | [.lst o l] => if low l then some l.reverse else none
  | [.far l] => some l.reverse
  | [.tup l] => some l.reverse
  | _ => none
def rRev (K : PySem.W.Frag) : TIv := fun vs H R => ∃ (a : Addr) (xs : List V), vs = [.ref a] ∧ ((SqL K H a xs ∧ R (Itv K a xs.length) H) ∨ (SqT K H a xs ∧ R (RT.ItvT K a xs.length) H))
theorem runs_rev {a : Addr} (hd : isL d l) : Runs K [.ref a] [d] l.reverse (Itv K a l.length) := by
  refine ⟨fun H => ∃ xs, SqL K H a xs ∧ xs.length = l.length, fun i H x H' => H' = H ∧ ∀ xs, SqL K H a xs → xs[l.length - 1 - i]? = some x, ⟨?_, ?_, ?_⟩, ?_⟩
  · rintro i H hi ⟨xs, q, e⟩
    rw [List.length_reverse] at hi
    exact ⟨hi, xs, xs[l.length - 1 - i]'(by omega), q, by simp [show l.length - 1 - i < xs.length by omega]⟩
  · rintro H _
    exact Nat.le_of_eq (List.length_reverse).symm
  · intro i H x H' _ _ y
    exact y
  · intro M H tr p
    cases p with
    | cons h t =>
      obtain ⟨a', xs, e, q, r⟩ := isL_rel h hd
      cases e
      refine ⟨⟨xs, q, r.len.symm⟩, fun i x H' d hi y => ?_⟩
      obtain ⟨rfl, y⟩ := y
      have hl : i < l.length := by have := (List.getElem?_eq_some_iff.mp hi).1; simpa using this
      rw [List.getElem?_reverse hl] at hi
      exact item_new tr r hi (y xs q)
theorem runs_revT {a : Addr} : Runs K [.ref a] [.tup l] l.reverse (RT.ItvT K a l.length) := by
  refine ⟨fun H => ∃ xs, SqT K H a xs ∧ xs.length = l.length, fun i H x H' => H' = H ∧ ∀ xs, SqT K H a xs → xs[l.length - 1 - i]? = some x, ⟨?_, ?_, ?_⟩, ?_⟩
  · rintro i H hi ⟨xs, q, e⟩
    rw [List.length_reverse] at hi
    exact ⟨hi, xs, xs[l.length - 1 - i]'(by omega), q, by simp [show l.length - 1 - i < xs.length by omega]⟩
  · rintro H _
    exact Nat.le_of_eq (List.length_reverse).symm
  · intro i H x H' _ _ y
    exact y
  · intro M H tr p
    cases p with
    | cons h t =>
      obtain ⟨a', xs, e, q, r⟩ := tup_rel h
      cases e
      refine ⟨⟨xs, q, r.len.symm⟩, fun i x H' d hi y => ?_⟩
      obtain ⟨rfl, y⟩ := y
      have hl : i < l.length := by have := (List.getElem?_eq_some_iff.mp hi).1; simpa using this
      rw [List.getElem?_reverse hl] at hi
      exact item_new tr r hi (y xs q)
theorem goes_rev : Goes K (rRev K) gRev := by
  intro M H ds vs items R tr p h q
  unfold gRev at h
  split at h
  · split at h
    · rename_i o l z
      cases h
      cases p with
      | cons h1 t =>
        cases t
        have il : isL (.lst o l) l := .inl ⟨o, rfl, z⟩
        obtain ⟨a, xs, rfl, h2, r⟩ := isL_rel h1 il
        exact ⟨a, xs, rfl, .inl ⟨h2, by rw [← r.len]; exact q _ (runs_rev il)⟩⟩
    · cases h
  · rename_i l
    cases h
    cases p with
    | cons h1 t =>
      cases t
      have il : isL (.far l) l := .inr rfl
      obtain ⟨a, xs, rfl, h2, r⟩ := isL_rel h1 il
      exact ⟨a, xs, rfl, .inl ⟨h2, by rw [← r.len]; exact q _ (runs_rev il)⟩⟩
  · rename_i l
    cases h
    cases p with
    | cons h1 t =>
      cases t
      obtain ⟨a, xs, rfl, h2, r⟩ := tup_rel h1
      exact ⟨a, xs, rfl, .inr ⟨h2, by rw [← r.len]; exact q _ runs_revT⟩⟩
  · cases h
theorem pair_new (tr : ∀ a, M a → H a ≠ none) {T : Addr} {x y : V} {d1 d2 : D} (hT : H T = none) (h1 : Rel K M H d1 x nobody) (h2 : Rel K M H d2 y nobody) : New K M H (.tup [d1, d2]) (.ref T) nobody (upd H T (.tup [x, y])) := by
  refine new_tup tr hT ?_
  unfold Rels
  refine ⟨x, [y], rfl, h1, ?_⟩
  unfold Rels
  refine ⟨y, [], rfl, h2, ?_⟩
  unfold Rels
  rfl
def enumFrom (n : Nat) : List D → List D
  | [] => []
  | d :: l => .tup [.int (n : Nat), d] :: enumFrom (n + 1) l
theorem enumFrom_len : ∀ (l : List D) (n : Nat), (enumFrom n l).length = l.length
  | [], _ => rfl
  | _ :: l, n => by unfold enumFrom; simp [enumFrom_len l]
theorem enumFrom_get : ∀ (l : List D) (n i : Nat), (enumFrom n l)[i]? = (l[i]?).map fun d => .tup [.int ((n + i : Nat) : Nat), d]
  | [], _, _ => rfl
  | d :: l, n, 0 => by unfold enumFrom; simp
  | d :: l, n, i + 1 => by
    unfold enumFrom
    have := enumFrom_get l (n + 1) i
    simp only [List.getElem?_cons_succ] at this ⊢
    rw [this]
    have e : n + 1 + i = n + (i + 1) := by omega
    rw [e]
def gEnum : List D → Option (List D)
  | [.lst _ l] => if low l then some (enumFrom 0 l) else none
  | [.far l] => some (enumFrom 0 l)
  | _ => none
def rEnum (K : PySem.W.Frag) : TIv := fun vs H R => ∃ a xs, vs = [.ref a] ∧ SqL K H a xs ∧ R (Ite K a) H
theorem runs_enum {a : Addr} (hd : isL d l) : Runs K [.ref a] [d] (enumFrom 0 l) (Ite K a) := by
  refine ⟨fun H => ∃ xs, SqL K H a xs ∧ xs.length = l.length, fun i H v H' => ∃ T x, v = .ref T ∧ H T = none ∧ H' = upd H T (.tup [.int (i : Nat), x]) ∧ ∀ xs, SqL K H a xs → xs[i]? = some x, ⟨?_, ?_, ?_⟩, ?_⟩
  · rintro i H hi ⟨xs, q, e⟩
    rw [enumFrom_len] at hi
    exact ⟨xs, xs[i]'(by omega), q, by simp⟩
  · rintro H ⟨xs, q, e⟩
    exact ⟨xs, q, by rw [enumFrom_len]; omega⟩
  · intro i H x H' _ _ y
    exact y
  · intro M H tr p
    cases p with
    | cons h t =>
      obtain ⟨a', xs, e, q, r⟩ := isL_rel h hd
      cases e
      refine ⟨⟨xs, q, r.len.symm⟩, fun i x H' d hi y => ?_⟩
      obtain ⟨T, u, rfl, hT, rfl, y⟩ := y
      rw [enumFrom_get] at hi
      obtain ⟨d', hd', rfl⟩ := Option.map_eq_some_iff.mp hi
      obtain ⟨u', h1, h2⟩ := r.get hd'
      rw [y xs q] at h1; cases h1
      refine pair_new tr hT ?_ h2
      unfold Rel
      simp
theorem goes_enum : Goes K (rEnum K) gEnum := by
  intro M H ds vs items R tr p h q
  unfold gEnum at h
  split at h
  · split at h
    · rename_i o l z
      cases h
      cases p with
      | cons h1 t =>
        cases t
        have il : isL (.lst o l) l := .inl ⟨o, rfl, z⟩
        obtain ⟨a, xs, rfl, h2, r⟩ := isL_rel h1 il
        exact ⟨a, xs, rfl, h2, q _ (runs_enum il)⟩
    · cases h
  · rename_i l
    cases h
    cases p with
    | cons h1 t =>
      cases t
      have il : isL (.far l) l := .inr rfl
      obtain ⟨a, xs, rfl, h2, r⟩ := isL_rel h1 il
      exact ⟨a, xs, rfl, h2, q _ (runs_enum il)⟩
  · cases h
def zipD : List D → List D → List D
  | x :: l, y :: r => .tup [x, y] :: zipD l r
  | _, _ => []
theorem zipD_len : ∀ l r : List D, (zipD l r).length = min l.length r.length
  | [], r => by unfold zipD; simp
  | _ :: _, [] => by unfold zipD; simp
  | x :: l, y :: r => by unfold zipD; simp [zipD_len l r]
theorem zipD_get : ∀ (l r : List D) (i : Nat) (d : D), (zipD l r)[i]? = some d → ∃ x y, l[i]? = some x ∧ r[i]? = some y ∧ d = .tup [x, y]
  | [], r, i, d, h => by unfold zipD at h; simp at h
  | _ :: _, [], i, d, h => by unfold zipD at h; simp at h
  | x :: l, y :: r, 0, d, h => by unfold zipD at h; simp at h; exact ⟨x, y, rfl, rfl, h.symm⟩
  | x :: l, y :: r, i + 1, d, h => by
    unfold zipD at h
    obtain ⟨x', y', h1, h2, h3⟩ := zipD_get l r i d (by simpa using h)
    exact ⟨x', y', by simpa using h1, by simpa using h2, h3⟩
def lstD : D → Option (List D)
  | .lst _ l => if low l then some l else none
  | .far l => some l
  | _ => none
def gZip : List D → Option (List D)
  | [.tup l, .tup r] => some (zipD l r)
  | [x, y] => (lstD x).bind fun l => (lstD y).bind fun r => some (zipD l r)
  | _ => none
def rZip (K : PySem.W.Frag) : TIv := fun vs H R => ∃ a b xs ys, vs = [.ref a, .ref b] ∧ ((SqL K H a xs ∧ SqL K H b ys ∧ R (Itz K a b) H) ∨ (SqT K H a xs ∧ SqT K H b ys ∧ R (RZ.ItzT K a b) H))
theorem lstD_is (h : lstD d = some l) : isL d l := by
  unfold lstD at h
  split at h
  · split at h
    · cases h; exact .inl ⟨_, rfl, by assumption⟩
    · cases h
  · cases h; exact .inr rfl
  · cases h
theorem runs_zip {a b : Addr} {d2 : D} {r : List D} (hd : isL d l) (hd2 : isL d2 r) : Runs K [.ref a, .ref b] [d, d2] (zipD l r) (Itz K a b) := by
  refine ⟨fun H => ∃ xs ys, SqL K H a xs ∧ SqL K H b ys ∧ xs.length = l.length ∧ ys.length = r.length,
    fun i H v H' => ∃ T x y, v = .ref T ∧ H T = none ∧ H' = upd H T (.tup [x, y]) ∧ (∀ xs, SqL K H a xs → xs[i]? = some x) ∧ ∀ ys, SqL K H b ys → ys[i]? = some y, ⟨?_, ?_, ?_⟩, ?_⟩
  · rintro i H hi ⟨xs, ys, q, q2, e, e2⟩
    rw [zipD_len] at hi
    exact ⟨xs, ys, xs[i]'(by omega), ys[i]'(by omega), q, q2, by simp, by simp⟩
  · rintro H ⟨xs, ys, q, q2, e, e2⟩
    exact ⟨xs, ys, q, q2, by rw [zipD_len]; omega⟩
  · intro i H x H' _ _ y
    exact y
  · intro M H tr p
    cases p with
    | cons h t =>
      cases t with
      | cons h2 t =>
        obtain ⟨a', xs, e, q, rl⟩ := isL_rel h hd
        cases e
        obtain ⟨a', ys, e, q2, rr⟩ := isL_rel h2 hd2
        cases e
        refine ⟨⟨xs, ys, q, q2, rl.len.symm, rr.len.symm⟩, fun i x H' d hi y => ?_⟩
        obtain ⟨T, u, w, rfl, hT, rfl, y1, y2⟩ := y
        obtain ⟨x1, x2, g1, g2, rfl⟩ := zipD_get _ _ _ _ hi
        obtain ⟨u', h3, h4⟩ := rl.get g1
        rw [y1 xs q] at h3; cases h3
        obtain ⟨u', h5, h6⟩ := rr.get g2
        rw [y2 ys q2] at h5; cases h5
        exact pair_new tr hT h4 h6
theorem runs_zipT {a b : Addr} {r : List D} : Runs K [.ref a, .ref b] [.tup l, .tup r] (zipD l r) (RZ.ItzT K a b) := by
  refine ⟨fun H => ∃ xs ys, SqT K H a xs ∧ SqT K H b ys ∧ xs.length = l.length ∧ ys.length = r.length,
    fun i H v H' => ∃ T x y, v = .ref T ∧ H T = none ∧ H' = upd H T (.tup [x, y]) ∧ (∀ xs, SqT K H a xs → xs[i]? = some x) ∧ ∀ ys, SqT K H b ys → ys[i]? = some y, ⟨?_, ?_, ?_⟩, ?_⟩
  · rintro i H hi ⟨xs, ys, q, q2, e, e2⟩
    rw [zipD_len] at hi
    exact ⟨xs, ys, xs[i]'(by omega), ys[i]'(by omega), q, q2, by simp, by simp⟩
  · rintro H ⟨xs, ys, q, q2, e, e2⟩
    exact ⟨xs, ys, q, q2, by rw [zipD_len]; omega⟩
  · intro i H x H' _ _ y
    exact y
  · intro M H tr p
    cases p with
    | cons h t =>
      cases t with
      | cons h2 t =>
        obtain ⟨a', xs, e, q, rl⟩ := tup_rel h
        cases e
        obtain ⟨a', ys, e, q2, rr⟩ := tup_rel h2
        cases e
        refine ⟨⟨xs, ys, q, q2, rl.len.symm, rr.len.symm⟩, fun i x H' d hi y => ?_⟩
        obtain ⟨T, u, w, rfl, hT, rfl, y1, y2⟩ := y
        obtain ⟨x1, x2, g1, g2, rfl⟩ := zipD_get _ _ _ _ hi
        obtain ⟨u', h3, h4⟩ := rl.get g1
        rw [y1 xs q] at h3; cases h3
        obtain ⟨u', h5, h6⟩ := rr.get g2
        rw [y2 ys q2] at h5; cases h5
        exact pair_new tr hT h4 h6
theorem goes_zip : Goes K (rZip K) gZip := by
  intro M H ds vs items R tr p h q
  unfold gZip at h
  split at h
  · rename_i l r
    cases h
    cases p with
    | cons h1 t =>
      cases t with
      | cons h2 t =>
        cases t
        obtain ⟨a, xs, rfl, h3, _⟩ := tup_rel h1
        obtain ⟨b, ys, rfl, h4, _⟩ := tup_rel h2
        exact ⟨a, b, xs, ys, rfl, .inr ⟨h3, h4, q _ runs_zipT⟩⟩
  · rename_i x y _
    obtain ⟨l, e1, h⟩ := Option.bind_eq_some_iff.mp h
    obtain ⟨r, e2, h⟩ := Option.bind_eq_some_iff.mp h
    cases h
    cases p with
    | cons h1 t =>
      cases t with
      | cons h2 t =>
        cases t
        obtain ⟨a, xs, rfl, h3, _⟩ := isL_rel h1 (lstD_is e1)
        obtain ⟨b, ys, rfl, h4, _⟩ := isL_rel h2 (lstD_is e2)
        exact ⟨a, b, xs, ys, rfl, .inl ⟨h3, h4, q _ (runs_zip (lstD_is e1) (lstD_is e2))⟩⟩
  · cases h
end
end Ow

set_option Elab.async false
set_option autoImplicit false
set_option linter.all false
set_option maxRecDepth 100000
/-! Ow, part 12: for, while. -/
namespace Ow
open PySem PySem.Spec PyProof.Rows L2

/-! ### the readings of walks -/
def tW (X : Cx) (W : WX) (ars : List Ar) (g : List D → Option (List D)) : TI := fun σ H R => ∃ Fr e own q, Rep X.K Fr e own σ H ∧ evA ars e = some q ∧
  match q with
  | .exc x e' => XWish X W Fr own σ H x e'
  | .ok l e' => ∃ ds items, resolves e' l = some ds ∧ g ds = some items ∧
    ∀ vs own' H' J, Went X.K Fr own H e' own' σ H' → Paired (ArgRel X.K (Mof Fr own') σ H') l vs → Runs X.K vs ds items J → R J H'
section
variable {X : Cx} {W : WX} {K : PySem.W.Frag} {tg a b c : Expr} {us : List Ar} {u w z : Ar} {p pos tpos : Pos} {σ : L2.St} {H : Hp} {R : It → Hp → Prop} {r : TIv} {g : List D → Option (List D)}
theorem tW_read (hg : Goes X.K r g) (h : tW X W us g σ H R) : tAs X W us σ H fun vs H1 => r vs H1 R := by
  obtain ⟨Fr, e, own, q, rp, h1, h2⟩ := h
  refine evA_read rp h1 ?_
  cases q with
  | exc x e' => exact h2
  | ok l e' =>
    obtain ⟨ds, items, e1, e2, h3⟩ := h2
    exact fun vs own' H' w pr => hg _ H' ds vs items R w.rep.tr (resolves_rel w.rep pr e1) e2 fun J ru => h3 vs own' H' J w pr ru
theorem piImp {wi wi' : TI} (h : PI X tg a wi) (f : ∀ σ H R, wi' σ H R → wi σ H R) : PI X tg a wi' := ⟨fun pins s σ H R I q => h.run pins s σ H R I (f σ H R q)⟩
theorem pie_mono {pins : List (Addr × Obj)} {v : Value} {s : Shared} {R R' : It → Hp → Prop} (h : PIE X pins σ tg R v s) (f : ∀ J H, R J H → R' J H) : PIE X pins σ tg R' v s := by
  obtain ⟨it, fp, tn, J, H', a1, a2, a3, a4, a5, a6⟩ := h
  exact ⟨it, fp, tn, J, H', a1, a2, a3, a4, a5, f _ _ a6⟩
/-- over a list, a tuple, a text -/
def iAny (K : PySem.W.Frag) (te : TE) : TI := fun σ H R => te σ H fun x H1 =>
  (∃ a xs, x = .ref a ∧ SqL K H1 a xs ∧ R (Itl K a) H1) ∨ (∃ a xs, x = .ref a ∧ SqT K H1 a xs ∧ R (Itt K a) H1) ∨ ∃ s, x = .str s ∧ R (Its s) H1
theorem pi_any {te : TE} (he : PE X a te) : PI X tg a (iAny X.K te) := by
  refine ⟨fun pins s σ H R I h => ?_⟩
  refine thn (he.run pins s σ H _ I h) fun v s1 ⟨x, H1, I1, r1, q1⟩ => ?_
  rcases q1 with ⟨b, xs, e, hq, q⟩ | ⟨b, xs, e, hq, q⟩ | ⟨z, e, q⟩
  · subst e
    cases r1
    obtain ⟨its, rv, p, hz⟩ := I1.list hq
    refine wpAny_pyIter_list p.isList ?_
    exact pi_one (tk := s1.toks) I1 _ (turn_list b _) ⟨_, Heap.get?_push_size _ rfl, rfl, rfl⟩ q
  · subst e
    cases r1
    obtain ⟨its, rv, p, hz⟩ := I1.tuple hq
    refine wpAny_pyIter_tuple (show s1.heap.IsTuple b its.toArray from p) ?_
    exact pi_one (tk := s1.toks) I1 _ (turn_tuple b _) ⟨_, Heap.get?_push_size _ rfl, rfl, rfl⟩ q
  · subst e
    obtain ⟨t, rfl⟩ := r1
    cases ha : z.cps.all (· < 128)
    · exact wpAny_pyIter_wide ha (pi_one (tk := s1.toks) I1 _ (turn_str _ z t "str_iterator" (.inr rfl)) ⟨_, Heap.get?_push_size _ rfl, rfl, rfl⟩ q)
    · exact wpAny_pyIter_ascii ha (pi_one (tk := s1.toks) I1 _ (turn_str _ z t "str_ascii_iterator" (.inl rfl)) ⟨_, Heap.get?_push_size _ rfl, rfl, rfl⟩ q)

/-- the walked, with its operands -/
abbrev PIt (X : Cx) (W : WX) (tg it : Expr) (us : List Ar) (g : List D → Option (List D)) : Prop := PI X tg it (tW X W us g)
theorem iSeq (ha : PO1 X W a u) : PIt X W tg a [u] gSeq := piImp (pi_any ha) fun σ H R h => by
  have := tW_read goes_seq h
  refine tOpnd_mono (W := W) this fun v H1 q => ?_
  obtain ⟨x, e, q⟩ := q
  cases e
  exact q
theorem iRg1 (hg : Gl X "range") (hm : X.mg "range" = none) (ha : PAs X W [a] [u]) (hs : starEach [a] X.env = [(false, eval a X.env)] := by rfl) : PIt X W tg (.Call (.Name "range" p) [a] [] pos) [u] gRng1 :=
  piImp (pi_range1 hg hm ha hs) fun σ H R h => tW_read goes_rng1 h
theorem iRg2 (hg : Gl X "range") (hm : X.mg "range" = none) (ha : PAs X W [a, b] [u, w]) (hs : starEach [a, b] X.env = [(false, eval a X.env), (false, eval b X.env)] := by rfl) (hs2 : starEach [b] X.env = [(false, eval b X.env)] := by rfl) :
    PIt X W tg (.Call (.Name "range" p) [a, b] [] pos) [u, w] gRng2 := piImp (pi_range2 hg hm ha hs hs2) fun σ H R h => tW_read goes_rng2 h
theorem iRg3 (hg : Gl X "range") (hm : X.mg "range" = none) (ha : PAs X W [a, b, c] [u, w, z]) (hs : starEach [a, b, c] X.env = (false, eval a X.env) :: starEach [b, c] X.env := by rfl) (hpl : (backTo pos (starEach [b, c] X.env)).any (·.1) = false := by rfl) :
    PIt X W tg (.Call (.Name "range" p) [a, b, c] [] pos) [u, w, z] gRng3 := piImp (pi_range3 hg hm ha hs hpl) fun σ H R h => tW_read goes_rng3 h
theorem iRev (hg : Gl X "reversed") (hm : X.mg "reversed" = none) (ha : PO1 X W a u) (hs : starEach [a] X.env = (false, eval a X.env) :: starEach [] X.env := by rfl) : PIt X W tg (.Call (.Name "reversed" p) [a] [] pos) [u] gRev :=
  piImp (RT.pi_revA hg hm ha hs) fun σ H R h => by
    have := tW_read goes_rev h
    refine tOpnd_mono (W := W) this fun v H1 q => ?_
    obtain ⟨x, xs, e, q⟩ := q
    cases e
    exact ⟨x, xs, rfl, q⟩
theorem iEnu {elts : List Expr} {kk : Nat} (hg : Gl X "enumerate") (hm : X.mg "enumerate" = none) (ha : PAs X W [a] [u]) (hs : starEach [a] X.env = [(false, eval a X.env)] := by rfl) : PIt X W (.Tuple elts kk tpos) (.Call (.Name "enumerate" p) [a] [] pos) [u] gEnum :=
  piImp (pi_enum hg hm ha hs) fun σ H R h => tW_read goes_enum h
theorem iZp {elts : List Expr} {kk : Nat} (hg : Gl X "zip") (hm : X.mg "zip" = none) (ha : PAs X W [a, b] [u, w]) (hs : starEach [a, b] X.env = (false, eval a X.env) :: starEach [b] X.env := by rfl) (hpl : (backTo pos (starEach [b] X.env)).any (·.1) = false := by rfl) :
    PIt X W (.Tuple elts kk tpos) (.Call (.Name "zip" p) [a, b] [] pos) [u, w] gZip := piImp (RZ.pi_zipA hg hm ha hs hpl) fun σ H R h => tW_read goes_zip h
end

/-! ### what stays through a loop -/
abbrev FX (l : List Nat) : Nat → Bool := fun j => l.contains j
theorem fx_le {l l' : List Nat} (h : (l.all fun j => l'.contains j) = true) : ∀ j, FX l j = true → FX l' j = true := fun j hj => by
  rw [List.all_eq_true] at h
  exact h j (by simpa using hj)
theorem fx_tg {l : List Nat} {t : Tgt} (h : (l.all fun j => !inTg t j) = true) : ∀ j, FX l j = true → inTg t j = false := fun j hj => by
  rw [List.all_eq_true] at h
  simpa using h j (by simpa using hj)
def arFix (fx : Nat → Bool) : Ar → Bool
  | .nm i => fx i
  | .pt _ _ => false
  | _ => true
def avFix (fx : Nat → Bool) : AV → Bool
  | .nm i => fx i
  | .pt _ _ => false
  | .v _ => true
theorem evA_fix {fx : Nat → Bool} : ∀ {us : List Ar} {e e' : Sl} {l : List AV}, us.all (arFix fx) = true → evA us e = some (.ok l e') → l.all (avFix fx) = true
  | [], e, e', l, _, h => by unfold evA at h; cases h; rfl
  | .nm i :: us, e, e', l, z, h => by
    rw [List.all_cons, Bool.and_eq_true] at z
    unfold evA at h
    obtain ⟨d, h1, h⟩ := Option.bind_eq_some_iff.mp h
    obtain ⟨q, h2, h⟩ := Option.bind_eq_some_iff.mp h
    cases q with
    | exc x e1 => cases h
    | ok l1 e1 =>
      cases h
      rw [List.all_cons, Bool.and_eq_true]
      exact ⟨z.1, evA_fix z.2 h2⟩
  | .pt i k :: us, e, e', l, z, h => by
    rw [List.all_cons, Bool.and_eq_true] at z
    exact absurd z.1 (by simp [arFix])
  | .il m :: us, e, e', l, z, h => by
    rw [List.all_cons, Bool.and_eq_true] at z
    unfold evA at h
    obtain ⟨d, h1, h⟩ := Option.bind_eq_some_iff.mp h
    obtain ⟨q, h2, h⟩ := Option.bind_eq_some_iff.mp h
    cases q with
    | exc x e1 => cases h
    | ok l1 e1 =>
      cases h
      rw [List.all_cons, Bool.and_eq_true]
      exact ⟨rfl, evA_fix z.2 h2⟩
  | .vl m :: us, e, e', l, z, h => by
    rw [List.all_cons, Bool.and_eq_true] at z
    unfold evA at h
    obtain ⟨q0, h1, h⟩ := Option.bind_eq_some_iff.mp h
    cases q0 with
    | exc x e1 => cases h
    | ok d e1 =>
      obtain ⟨q, h2, h⟩ := Option.bind_eq_some_iff.mp h
      cases q with
      | exc x e1 => cases h
      | ok l1 e1 =>
        cases h
        rw [List.all_cons, Bool.and_eq_true]
        exact ⟨rfl, evA_fix z.2 h2⟩
section
variable {K : PySem.W.Frag} {Fr : Own} {e e' : Sl} {own own' : Nat → Own} {σ σ' : L2.St} {H H' : Hp} {fx fx' : Nat → Bool}
theorem Step.less (s : Step K fx' Fr own σ H e' own' σ' H') (h : ∀ j, fx j = true → fx' j = true) : Step K fx Fr own σ H e' own' σ' H' := ⟨s.went, fun i z => s.fixed i (h i z)⟩
theorem ArgRel.stay (s : Step K fx Fr own σ H e' own' σ' H') : ∀ {a : AV} {v : V}, avFix fx a = true → ArgRel K (Mof Fr own) σ H a v → ArgRel K (Mof Fr own') σ' H' a v
  | .nm i, v, z, h => (s.fixed i z).trans h
  | .pt _ _, _, z, _ => by cases z
  | .v d, v, _, h => Rel.carry s.went h
theorem args_stay (s : Step K fx Fr own σ H e' own' σ' H') : ∀ {l : List AV} {vs : List V}, l.all (avFix fx) = true → Paired (ArgRel K (Mof Fr own) σ H) l vs → Paired (ArgRel K (Mof Fr own') σ' H') l vs
  | _, _, _, .nil => .nil
  | _, _, z, .cons h t => by
    rw [List.all_cons, Bool.and_eq_true] at z
    exact .cons (h.stay s z.1) (args_stay s z.2 t)
theorem New.rel0 {M : Own} {d : D} {v : V} (n : New K M H d v nobody H') : Rel K M H' d v nobody := by
  have := n.rel
  have e : (fun a => M a ∨ nobody a) = M := by funext a; simp
  rw [e] at this
  exact this
end

/-! ### for -/
open Classical in
noncomputable def forL (t : Tgt) (b : MS) (ok : Sl → Prop) : List D → MS
  | [], e => if ok e then some (.nx e) else none
  | d :: l, e => if ok e then (setTg t d e).bind fun e1 => (b e1).bind fun r => match r with
      | .nx e2 => forL t b ok l e2
      | .ct e2 => forL t b ok l e2
      | .bk e2 => some (.nx e2)
      | .rt d e2 => some (.rt d e2)
      | .exc x e2 => some (.exc x e2) else none
noncomputable def sFor (t : Tgt) (us : List Ar) (g : List D → Option (List D)) (b : MS) : MS := fun e => (evA us e).bind fun q => match q with
  | .ok l e' => (resolves e' l).bind fun ds => (g ds).bind fun items => forL t b (fun e => resolves e l = some ds) items e'
  | .exc x e' => some (.exc x e')
theorem forL_ok {t : Tgt} {b : MS} {ok : Sl → Prop} {l : List D} {e : Sl} {r : SR} (h : forL t b ok l e = some r) : ok e := by
  cases l <;> (unfold forL at h; split at h <;> first | assumption | cases h)
section
variable {X : Cx} {W : WX} {fx fx' : Nat → Bool} {tg it : Expr} {body : List Stmt} {us : List Ar} {g : List D → Option (List D)} {t : Tgt} {b : MS} {c : Expr} {m : ME} {pos : Pos}
theorem pFor (hp : PassesOwn (model X.prog X.w) X.A X.env X.xe) (hc : X.calm = true) (hi : PIt X W tg it us g) (hg : PG X tg (gT X t)) (hb : PSs X body (tS X W fx' b))
    (hu : us.all (arFix fx') = true) (hle : ∀ j, fx j = true → fx' j = true) (ht : ∀ j, fx' j = true → inTg t j = false) (hs : ∀ x, foldedSetIterable it X.env x = pure x := by intro _; rfl) :
    PS X (.For tg it body [] pos) (tS X W fx (sFor t us g b)) := by
  refine sImp (ps_for hp hc hi hg hb hs) fun D σ H h => ?_
  obtain ⟨Fr, e, own, r, rp, h1, h2⟩ := h
  unfold sFor at h1
  obtain ⟨q, hq, h1⟩ := Option.bind_eq_some_iff.mp h1
  refine ⟨Fr, e, own, q, rp, hq, ?_⟩
  cases q with
  | exc x e' => cases h1; exact fun c dx own' H' w xr => h2 c dx own' σ H' w.step xr
  | ok l e' =>
    obtain ⟨ds, e1, h1⟩ := Option.bind_eq_some_iff.mp h1
    obtain ⟨items, e2, h1⟩ := Option.bind_eq_some_iff.mp h1
    refine ⟨ds, items, e1, e2, fun vs own' H' J w pr ru => ?_⟩
    have h2 := contS (σ1 := σ) w.step h2
    obtain ⟨G, Y, wk, hh⟩ := ru.run
    have al := evA_fix hu hq
    -- the operands stand as they stood
    have stand : ∀ {e2 : Sl} {own2 : Nat → Own} {σ2 : L2.St} {H2 : Hp}, Step X.K fx' Fr own' σ H' e2 own2 σ2 H2 → resolves e2 l = some ds → Paired (RelAny X.K (Mof Fr own2) H2) ds vs :=
      fun st ok => resolves_rel st.went.rep (args_stay st al pr) ok
    refine for_it wk (fun i σ2 H2 => ∃ e2 own2, Step X.K fx' Fr own' σ H' e2 own2 σ2 H2 ∧ forL t b (fun e => resolves e l = some ds) (items.drop i) e2 = some r)
      ⟨e', own', w.rep.step, h1⟩ ?_ ?_ ?_
    · rintro i σ2 H2 _ ⟨e2, own2, st, hf⟩
      exact (hh _ _ st.went.rep.tr (stand st (forL_ok hf))).1
    · rintro i x σ2 H2 H3 hi ⟨e2, own2, st, hf⟩ y
      have ok := forL_ok hf
      have hd : items[i]? = some items[i] := List.getElem?_eq_getElem hi
      rw [List.drop_eq_getElem_cons hi] at hf
      have nw := (hh _ _ st.went.rep.tr (stand st ok)).2 i x H3 _ hd y
      have gr := st.went.rep.grown nw.ext
      unfold forL at hf
      rw [if_pos ok] at hf
      obtain ⟨e3, hs, hf⟩ := Option.bind_eq_some_iff.mp hf
      obtain ⟨r1, hb1, hf⟩ := Option.bind_eq_some_iff.mp hf
      refine ⟨Fr, e2, own2, _, e3, gr.rep, nw.rel0, hs, fun own3 σ3 nm => ⟨Fr, e3, own3, r1, nm.went.rep, hb1, ?_⟩⟩
      have st3 : Step X.K fx' Fr own' σ H' e3 own3 σ3 H3 := (st.trans gr.step).trans ⟨nm.went, fun j hj => nm.fixed j (ht j hj)⟩
      cases r1 with
      | nx e4 => exact fun own4 σ4 H4 st4 => ⟨e4, own4, st3.trans st4, hf⟩
      | ct e4 => exact fun own4 σ4 H4 st4 => ⟨e4, own4, st3.trans st4, hf⟩
      | bk e4 => cases hf; exact fun own4 σ4 H4 st4 => h2 own4 σ4 H4 ((st3.trans st4).less hle)
      | rt d e4 => cases hf; exact fun v P own4 σ4 H4 g4 f4 => h2 v P own4 σ4 H4 (st3.went.got g4) fun j hj => (f4 j (hle j hj)).trans (st3.fixed j (hle j hj))
      | exc x4 e4 => cases hf; exact fun c dx own4 σ4 H4 st4 xr => h2 c dx own4 σ4 H4 ((st3.trans st4).less hle) xr
    · rintro σ2 H2 ⟨e2, own2, st, hf⟩
      rw [List.drop_length] at hf
      unfold forL at hf
      split at hf
      · cases hf
        exact h2 own2 σ2 H2 (st.less hle)
      · cases hf

/-! ### while -/
def whL (m : ME) (b : MS) : Nat → MS
  | 0, _ => none
  | n + 1, e => (m e).bind fun q => match q with
    | .ok (.bl true) e1 => (b e1).bind fun r => match r with
      | .nx e2 => whL m b n e2
      | .ct e2 => whL m b n e2
      | .bk e2 => some (.nx e2)
      | .rt d e2 => some (.rt d e2)
      | .exc x e2 => some (.exc x e2)
    | .ok (.bl false) e1 => some (.nx e1)
    | .ok _ _ => none
    | .exc x e1 => some (.exc x e1)
theorem whL_more : ∀ {n k : Nat} {e : Sl} {r : SR}, whL m b n e = some r → whL m b (n + k) e = some r
  | 0, _, _, _, h => by cases h
  | n + 1, k, e, r, h => by
    rw [show n + 1 + k = (n + k) + 1 by omega]
    unfold whL at h ⊢
    obtain ⟨q, h1, h⟩ := Option.bind_eq_some_iff.mp h
    rw [h1]
    simp only [Option.bind_some]
    split at h
    · obtain ⟨r1, h2, h⟩ := Option.bind_eq_some_iff.mp h
      simp only [h2, Option.bind_some]
      cases r1 with
      | nx e2 => exact whL_more h
      | ct e2 => exact whL_more h
      | bk e2 => exact h
      | rt d e2 => exact h
      | exc x e2 => exact h
    · exact h
    · cases h
    · exact h
open Classical in
noncomputable def sWhile (m : ME) (b : MS) : MS := fun e => if h : ∃ n r, whL m b n e = some r then whL m b h.choose e else none
theorem sWhile_of {n : Nat} {e : Sl} {r : SR} (h : whL m b n e = some r) : sWhile m b e = some r := by
  have hx : ∃ n r, whL m b n e = some r := ⟨n, r, h⟩
  unfold sWhile
  rw [dif_pos hx]
  obtain ⟨r', hr⟩ := hx.choose_spec
  rw [hr]
  have h1 := whL_more (k := hx.choose) h
  have h2 := whL_more (k := n) hr
  rw [Nat.add_comm] at h2
  rw [h1] at h2
  exact h2.symm
theorem sWhile_is {e : Sl} {r : SR} (h : sWhile m b e = some r) : ∃ n, whL m b n e = some r := by
  unfold sWhile at h
  split at h
  · exact ⟨_, h⟩
  · cases h
theorem pWhile (hp : PassesOwn (model X.prog X.w) X.A X.env X.xe) (hc : PT X c (tTm X W m)) (hb : PSs X body (tS X W fx b)) : PS X (.While c body [] pos) (tS X W fx (sWhile m b)) := by
  refine sImp (ps_while hp hc hb) fun D σ H h => ?_
  obtain ⟨Fr, e, own, r, rp, h1, h2⟩ := h
  obtain ⟨n, h1⟩ := sWhile_is h1
  refine ⟨fun n σ2 H2 => ∃ e2 own2, Step X.K fx Fr own σ H e2 own2 σ2 H2 ∧ whL m b n e2 = some r, ⟨n, e, own, rp.step, h1⟩, ?_⟩
  rintro n σ2 H2 ⟨e2, own2, st, hw⟩
  cases n with
  | zero => cases hw
  | succ n =>
    unfold whL at hw
    obtain ⟨q, hq, hw⟩ := Option.bind_eq_some_iff.mp hw
    refine ⟨Fr, e2, own2, q, st.went.rep, hq, ?_⟩
    have h3 := contS st h2
    cases q with
    | exc x e3 => cases hw; exact fun c dx own' H' w xr => h3 c dx own' σ2 H' w.step xr
    | ok d e3 =>
      cases d with
      | bl k =>
        refine ⟨k, rfl, fun own3 H3 w3 => ?_⟩
        cases k with
        | false =>
          cases hw
          rw [if_neg Bool.false_ne_true]
          exact h3 own3 σ2 H3 w3.step
        | true =>
          rw [if_pos rfl]
          obtain ⟨r1, hb1, hw⟩ := Option.bind_eq_some_iff.mp hw
          have st3 := st.trans (w3.step (fx := fx))
          refine ⟨fun σ4 H4 => ∃ e4 own4, Step X.K fx Fr own σ H e4 own4 σ4 H4 ∧ whL m b n e4 = some r, fun σ4 H4 z => ⟨n, Nat.lt_succ_self n, z⟩, Fr, e3, own3, r1, w3.rep, hb1, ?_⟩
          cases r1 with
          | nx e4 => exact fun own4 σ4 H4 st4 => ⟨e4, own4, st3.trans st4, hw⟩
          | ct e4 => exact fun own4 σ4 H4 st4 => ⟨e4, own4, st3.trans st4, hw⟩
          | bk e4 => cases hw; exact fun own4 σ4 H4 st4 => h2 own4 σ4 H4 (st3.trans st4)
          | rt d e4 => cases hw; exact fun v P own4 σ4 H4 g4 f4 => h2 v P own4 σ4 H4 (st3.went.got g4) fun j hj => (f4 j hj).trans (st3.fixed j hj)
          | exc x4 e4 => cases hw; exact fun c dx own4 σ4 H4 st4 xr => h2 c dx own4 σ4 H4 (st3.trans st4) xr
      | _ => cases hw
end
end Ow

set_option Elab.async false
set_option autoImplicit false
set_option linter.all false
set_option maxRecDepth 100000
/-! Ow, part 13: comprehensions. -/
namespace Ow
open PySem PySem.Spec PyProof.Rows L2

def wipeS (e : Sl) : List Nat → Sl
  | [] => e
  | v :: vs => (wipeS e vs).set v none
theorem wipeS_length (e : Sl) : ∀ vs : List Nat, (wipeS e vs).length = e.length
  | [] => rfl
  | v :: vs => by unfold wipeS; rw [List.length_set, wipeS_length e vs]
theorem wipeS_some {e : Sl} {i : Nat} {d : D} : ∀ {vs : List Nat}, (wipeS e vs)[i]? = some (some d) → e[i]? = some (some d) ∧ i ∉ vs
  | [], h => ⟨h, by simp⟩
  | v :: vs, h => by
    unfold wipeS at h
    rcases set_get h with ⟨_, z⟩ | ⟨n, z⟩
    · cases z
    · obtain ⟨h1, h2⟩ := wipeS_some z
      exact ⟨h1, by simp [n, h2]⟩
theorem wipe_in {σ : L2.St} {j : Nat} : ∀ {vs : List Nat}, j ∈ vs → (wipe σ vs)[j]? = if j < σ.length then some none else none
  | v :: vs, h => by
    unfold wipe
    by_cases c : v = j
    · subst c
      by_cases l : v < σ.length
      · rw [if_pos l, List.getElem?_set_self (by rw [wipe_length]; exact l)]
      · rw [if_neg l, List.getElem?_eq_none (by rw [List.length_set, wipe_length]; omega)]
    · rw [List.getElem?_set_ne c]
      exact wipe_in ((List.mem_cons.mp h).resolve_left (Ne.symm c))
mutual
theorem setTg_len : ∀ {t : Tgt} {d : D} {e e' : Sl}, setTg t d e = some e' → e'.length = e.length
  | .nm i, d, e, e', h => by unfold setTg at h; cases h; exact List.length_set ..
  | .tp ts, d, e, e', h => by
    cases d with
    | tup ds => unfold setTg at h; exact setTgs_len h
    | _ => unfold setTg at h; cases h
theorem setTgs_len : ∀ {ts : List Tgt} {ds : List D} {e e' : Sl}, setTgs ts ds e = some e' → e'.length = e.length
  | [], [], e, e', h => by unfold setTgs at h; cases h; rfl
  | [], _ :: _, e, e', h => by unfold setTgs at h; cases h
  | _ :: _, [], e, e', h => by unfold setTgs at h; cases h
  | t :: ts, d :: ds, e, e', h => by
    unfold setTgs at h
    obtain ⟨e1, h1, h2⟩ := Option.bind_eq_some_iff.mp h
    exact (setTgs_len h2).trans (setTg_len h1)
end
section
variable {K : PySem.W.Frag} {M M' Fr Fr' : Own} {e e' : Sl} {own own' : Nat → Own} {σ σ' : L2.St} {H H' : Hp} {d : D} {v : V} {P : Own}
/-- a slot forgotten -/
theorem Rep.drop (r : Rep K Fr e own σ H) (i : Nat) : Went K Fr own H (e.set i none) (putO own i nobody) σ H := by
  have le : ∀ a, Mof Fr (putO own i nobody) a → Mof Fr own a := fun a q => by
    rcases q with q | ⟨j, q⟩
    · exact .inl q
    · by_cases c : j = i
      · subst c; rw [putO_self] at q; exact q.elim
      · rw [putO_ne c] at q; exact .inr ⟨j, q⟩
  have k : Keep (Mof Fr own) (Mof Fr (putO own i nobody)) H H := fun a o n z => ⟨z, fun q => n (le a q)⟩
  refine ⟨⟨by rw [List.length_set]; exact r.len, fun j d' hd => ?_, fun x y a hx hy => ?_, fun x a hx => ?_, fun a ha => r.tr a (le a ha)⟩, k, fun _ _ => rfl⟩
  · rcases set_get hd with ⟨rfl, e1⟩ | ⟨c, e1⟩
    · cases e1
    · obtain ⟨u, h1, h2⟩ := r.sl j d' e1
      exact ⟨u, h1, by rw [putO_ne c]; exact h2.keep k fun _ _ => rfl⟩
  · by_cases cx : x = i
    · subst cx; rw [putO_self] at hx; exact hx.elim
    · by_cases cy : y = i
      · subst cy; rw [putO_self] at hy; exact hy.elim
      · rw [putO_ne cx] at hx; rw [putO_ne cy] at hy; exact r.dj x y a hx hy
  · by_cases cx : x = i
    · subst cx; rw [putO_self] at hx; exact hx.elim
    · rw [putO_ne cx] at hx; exact r.fr x a hx
theorem Rep.drops (r : Rep K Fr e own σ H) : ∀ vs : List Nat, ∃ own0, Went K Fr own H (wipeS e vs) own0 σ H
  | [] => ⟨own, r.refl⟩
  | v :: vs => by
    obtain ⟨own0, w⟩ := Rep.drops r vs
    exact ⟨_, w.trans (w.rep.drop v)⟩
theorem Rep.wiped {vs : List Nat} (r : Rep K Fr (wipeS e vs) own σ H) : Rep K Fr (wipeS e vs) own (wipe σ vs) H :=
  ⟨by rw [wipe_length]; exact r.len, fun i d hd => by
    obtain ⟨v, h1, h2⟩ := r.sl i d hd
    exact ⟨v, by rw [wipe_out (wipeS_some hd).2]; exact h1, h2⟩, r.dj, r.fr, r.tr⟩
theorem Rep.unwiped {vs : List Nat} (r : Rep K Fr e own (wipe σ vs) H) : Rep K Fr e own σ H :=
  ⟨by have := r.len; rw [wipe_length] at this; exact this, fun i d hd => by
    obtain ⟨v, h1, h2⟩ := r.sl i d hd
    exact ⟨v, (wipe_some h1).1, h2⟩, r.dj, r.fr, r.tr⟩
theorem args_move {fx : Nat → Bool} (hk : Keep M M' H H') (hσ : ∀ j, fx j = true → σ'[j]? = σ[j]?) : ∀ {l : List AV} {vs : List V}, l.all (avFix fx) = true → Paired (ArgRel K M σ H) l vs → Paired (ArgRel K M' σ' H') l vs
  | _, _, _, .nil => .nil
  | .nm i :: _, _, z, .cons h t => by
    rw [List.all_cons, Bool.and_eq_true] at z
    exact .cons ((hσ i z.1).trans h) (args_move hk hσ z.2 t)
  | .pt _ _ :: _, _, z, .cons h t => by
    rw [List.all_cons, Bool.and_eq_true] at z
    exact absurd z.1 (by simp [avFix])
  | .v d :: _, _, z, .cons h t => by
    rw [List.all_cons, Bool.and_eq_true] at z
    exact .cons (Rel.keep (d := d) hk (fun _ z => z.elim) h) (args_move hk hσ z.2 t)
/-- what others own may change -/
theorem Rep.others (r : Rep K Fr e own σ H) {a : Addr} (ha : Fr a) (b : ∀ c, c ≠ a → H' c = H c) (hn : H' a ≠ none) : Rep K Fr e own σ H' := by
  have k : Keep (Mof Fr own) (Mof Fr own) H H' := fun c o n z => ⟨(b c fun q => n (.inl (q ▸ ha))).trans z, n⟩
  refine ⟨r.len, fun i d h => ?_, r.dj, r.fr, fun c hc => ?_⟩
  · obtain ⟨v, h1, h2⟩ := r.sl i d h
    exact ⟨v, h1, h2.keep k fun c hc => b c fun q => r.fr i c hc (q ▸ ha)⟩
  · by_cases z : c = a
    · rw [z]; exact hn
    · rw [b c z]; exact r.tr c hc
theorem Rels.snoc {l : List D} {vs : List V} (r : Rels K M H l vs nobodies) (h : Rel K M H d v nobody) : Rels K M H (l ++ [d]) (vs ++ [v]) nobodies := by
  induction l generalizing vs with
  | nil =>
    unfold Rels at r
    subst r
    show Rels K M H [d] [v] nobodies
    unfold Rels
    refine ⟨v, [], rfl, h, ?_⟩
    unfold Rels
    rfl
  | cons x l ih =>
    unfold Rels at r
    obtain ⟨u, rs, rfl, h1, h2⟩ := r
    show Rels K M H (x :: (l ++ [d])) (u :: (rs ++ [v])) nobodies
    unfold Rels
    exact ⟨u, _, rfl, h1, ih h2⟩
end

/-! ### the meaning -/
open Classical in
noncomputable def lcL (t : Tgt) (c y : ME) (vs : List Nat) (ok : Sl → Prop) : List D → Sl → Option (List D × Sl)
  | [], e => if ok e then some ([], e) else none
  | d :: l, e => if ok e then (setTg t d e).bind fun e1 => (c e1).bind fun q => match q with
      | .ok (.bl true) e2 => (y e2).bind fun q => match q with
        | .ok d e3 => (lcL t c y vs ok l (wipeS e3 vs)).bind fun p => some (settle d :: p.1, p.2)
        | .exc _ _ => none
      | .ok (.bl false) e2 => lcL t c y vs ok l (wipeS e2 vs)
      | .ok _ _ => none
      | .exc _ _ => none else none
noncomputable def mLc (t : Tgt) (us : List Ar) (g : List D → Option (List D)) (vs : List Nat) (c y : ME) : ME := fun e => (evA us e).bind fun q => match q with
  | .ok l e' => (resolves e' l).bind fun ds => (g ds).bind fun items => if items.length ≤ 16777216 then
      (lcL t c y vs (fun e => resolves e l = some ds) items (wipeS e' vs)).bind fun p => some (.ok (.lst true p.1) p.2) else none
  | .exc x e' => some (.exc x e')
theorem lcL_ok {t : Tgt} {c y : ME} {vs : List Nat} {ok : Sl → Prop} {l : List D} {e : Sl} {r : List D × Sl} (h : lcL t c y vs ok l e = some r) : ok e := by
  cases l <;> (unfold lcL at h; split at h <;> first | assumption | cases h)
/-- in the block nothing may be raised -/
def W0 : WX := fun _ _ _ _ => False
section
variable {X : Cx} {W : WX} {us : List Ar} {g : List D → Option (List D)} {t : Tgt} {c y : ME} {vs : List Nat} {σ : L2.St} {H : Hp} {Q : VK}
theorem rd_lc (hu : us.all (arFix fun j => !vs.contains j) = true) (ht : ∀ j, inTg t j = true → j ∈ vs) (h : tM X W (mLc t us g vs c y) σ H Q) :
    tLc (tW X W us g) (gT X t) (tTm X W0 c) (tM X W0 y) vs σ H Q := by
  obtain ⟨Fr, e, own, r, rp, h1, h2⟩ := h
  unfold mLc at h1
  obtain ⟨q, hq, h1⟩ := Option.bind_eq_some_iff.mp h1
  refine ⟨Fr, e, own, q, rp, hq, ?_⟩
  cases q with
  | exc x e' => cases h1; exact h2
  | ok l e' =>
    obtain ⟨ds, e1, h1⟩ := Option.bind_eq_some_iff.mp h1
    obtain ⟨items, e2, h1⟩ := Option.bind_eq_some_iff.mp h1
    refine ⟨ds, items, e1, e2, fun uv own' H' J w pr ru L hL => ?_⟩
    split at h1
    · rename_i sz
      obtain ⟨⟨ys, eE⟩, hl, h1⟩ := Option.bind_eq_some_iff.mp h1
      cases h1
      obtain ⟨G, Y, wk, hh⟩ := ru.run
      have al := evA_fix hu hq
      obtain ⟨own0, w0⟩ := w.rep.drops vs
      have nF : ¬ Fr L := fun z => w.rep.tr L (.inl z) hL
      have nw : New X.K (Mof Fr own0) H' (.lst true []) (.ref L) (fun a => a = L) (upd H' L (.lst [])) := new_lst w0.rep.tr hL (by unfold Rels; rfl)
      have g0 := nw.got w0.rep
      refine lc_it wk (fun i H2 => ∃ e2 own2 acc done rest, Rep X.K (fun a => Fr a ∨ a = L) e2 own2 (wipe σ vs) H2 ∧ Keep (Mof Fr own') (Mof (fun a => Fr a ∨ a = L) own2) H' H2 ∧
        (∀ a, Fr a → H2 a = H' a) ∧ H2 L = some (.lst acc) ∧ Rels X.K (Mof (fun a => Fr a ∨ a = L) own2) H2 done acc nobodies ∧ done.length ≤ i ∧
        lcL t c y vs (fun e => resolves e l = some ds) (items.drop i) e2 = some (rest, eE) ∧ done ++ rest = ys) ?_ ?_ ?_ ?_
      · exact ⟨wipeS e' vs, own0, [], [], ys, g0.rep.wiped, w0.keep.trans g0.keep, fun a z => (g0.fix a z).trans (w0.fix a z), upd_same, by unfold Rels; rfl, Nat.le_refl _, hl, rfl⟩
      · rintro i H2 _ ⟨e2, own2, acc, done, rest, rp2, kp, _, _, _, _, hf, _⟩
        have pr2 := args_move (σ' := wipe σ vs) kp (fun j hj => wipe_out (by simpa using hj)) al pr
        exact (hh _ _ rp2.tr (resolves_rel rp2 pr2 (lcL_ok hf))).1
      · rintro i x H2 H3 hi ⟨e2, own2, acc, done, rest, rp2, kp, fxd, hacc, rels, hlen, hf, hys⟩ yy
        have pr2 := args_move (σ' := wipe σ vs) kp (fun j hj => wipe_out (by simpa using hj)) al pr
        have ok := lcL_ok hf
        have hd : items[i]? = some items[i] := List.getElem?_eq_getElem hi
        rw [List.drop_eq_getElem_cons hi] at hf
        have nw2 := (hh _ _ rp2.tr (resolves_rel rp2 pr2 ok)).2 i x H3 _ hd yy
        have gr := rp2.grown nw2.ext
        unfold lcL at hf
        rw [if_pos ok] at hf
        obtain ⟨e3, hs, hf⟩ := Option.bind_eq_some_iff.mp hf
        obtain ⟨q1, hc1, hf⟩ := Option.bind_eq_some_iff.mp hf
        refine ⟨_, e2, own2, _, e3, gr.rep, nw2.rel0, hs, fun own3 σ3 nm => ⟨?_, ?_⟩⟩
        · -- only the block's names have moved
          have hlen : σ3.length = (wipe σ vs).length := by rw [← nm.went.rep.len, setTg_len hs, rp2.len]
          refine List.ext_getElem? fun j => ?_
          by_cases z : j ∈ vs
          · rw [wipe_in z, wipe_in z, hlen, wipe_length]
          · rw [wipe_out z, nm.fixed j (by cases q : inTg t j with | false => rfl | true => exact absurd (ht j q) z)]
        · have wp : wipe σ3 vs = wipe σ vs := by
            have hlen : σ3.length = (wipe σ vs).length := by rw [← nm.went.rep.len, setTg_len hs, rp2.len]
            refine List.ext_getElem? fun j => ?_
            by_cases z : j ∈ vs
            · rw [wipe_in z, wipe_in z, hlen, wipe_length]
            · rw [wipe_out z, nm.fixed j (by cases q : inTg t j with | false => rfl | true => exact absurd (ht j q) z)]
          refine ⟨_, e3, own3, q1, nm.went.rep, hc1, ?_⟩
          have w3 := gr.trans nm.went
          cases q1 with
          | exc x4 e4 => cases hf
          | ok dd e4 =>
            cases dd with
            | bl k =>
              refine ⟨k, rfl, fun own4 H4 w4 => ?_⟩
              have w34 := w3.trans w4
              cases k with
              | false =>
                refine (if_neg Bool.false_ne_true).mpr ?_
                obtain ⟨own5, w5⟩ := w4.rep.drops vs
                have wa := w34.trans w5
                refine ⟨wipeS e4 vs, own5, acc, done, rest, ?_, kp.trans wa.keep, fun a z => (wa.fix a (.inl z)).trans (fxd a z), (wa.fix L (.inr rfl)).trans hacc, rels.keep wa.keep fun _ _ z => z.elim, by omega, hf, hys⟩
                rw [← wp]
                exact w5.rep.wiped
              | true =>
                refine (if_pos rfl).mpr ?_
                obtain ⟨q2, hy2, hf⟩ := Option.bind_eq_some_iff.mp hf
                refine ⟨_, e4, own4, q2, w4.rep, hy2, ?_⟩
                cases q2 with
                | exc x5 e5 => cases hf
                | ok dy e5 =>
                  obtain ⟨⟨ys', eE'⟩, hl', hf⟩ := Option.bind_eq_some_iff.mp hf
                  cases hf
                  intro yv P own5 H5 g5
                  obtain ⟨w5, rel5⟩ := g5.frozen
                  have w35 := w34.trans w5
                  have hacc5 : H5 L = some (.lst acc) := (w35.fix L (.inr rfl)).trans hacc
                  have al := rels.len
                  refine ⟨acc, hacc5, ?_, ?_⟩
                  · exact le_line (by omega)
                  · have rp6 : Rep X.K (fun a => Fr a ∨ a = L) e5 own5 σ3 (upd H5 L (.lst (acc ++ [yv]))) := w5.rep.others (.inr rfl) (fun c hc => upd_ne hc) (by rw [upd_same]; simp)
                    have k6 : Keep (Mof (fun a => Fr a ∨ a = L) own5) (Mof (fun a => Fr a ∨ a = L) own5) H5 (upd H5 L (.lst (acc ++ [yv]))) := fun a o n z => ⟨by rw [upd_ne (fun q => n (.inl (.inr q)))]; exact z, n⟩
                    obtain ⟨own7, w7⟩ := rp6.drops vs
                    have kk := (w35.keep.trans k6).trans w7.keep
                    refine ⟨wipeS e5 vs, own7, acc ++ [yv], done ++ [settle dy], ys', ?_, kp.trans kk, fun a z => ?_, upd_same, ?_, by simp; omega, hl', by simp [← hys]⟩
                    · rw [← wp]
                      exact w7.rep.wiped
                    · have na : a ≠ L := fun q => nF (by rw [← q]; exact z)
                      rw [upd_ne na]
                      exact (w35.fix a (.inl z)).trans (fxd a z)
                    · exact Rels.snoc (rels.keep kk fun _ _ z => z.elim) ((rel5 nobody).keep (k6.trans w7.keep) fun _ z => z.elim)
            | _ => cases hf
      · rintro H2 ⟨e2, own2, acc, done, rest, rp2, kp, fxd, hacc, rels, hlen, hf, hys⟩
        rw [List.drop_length] at hf
        unfold lcL at hf
        split at hf
        · cases hf
          rw [List.append_nil] at hys
          subst hys
          refine h2 (.ref L) (fun a => a = L) own2 H2 ⟨rp2.unwiped, ?_, fun a z => z ▸ nF, w.keep.trans kp, fun a z => (fxd a z).trans (w.fix a z)⟩
          unfold Rel
          exact ⟨L, acc, nobodies, rfl, hacc, rfl, ⟨fun _ _ z => z.elim, fun _ _ z => z.elim, fun _ _ _ z => z.elim⟩, rels⟩
        · cases hf
    · cases h1
end

/-! ### a target's names -/
mutual
def tgNames : Tgt → List Nat
  | .nm i => [i]
  | .tp ts => tgsNames ts
def tgsNames : List Tgt → List Nat
  | [] => []
  | t :: ts => tgNames t ++ tgsNames ts
end
mutual
theorem in_names : ∀ {t : Tgt} {j : Nat}, inTg t j = true → j ∈ tgNames t
  | .nm i, j, h => by unfold inTg at h; unfold tgNames; simpa using (by simpa using h : i = j).symm
  | .tp ts, j, h => by unfold inTg at h; unfold tgNames; exact ins_names h
theorem ins_names : ∀ {ts : List Tgt} {j : Nat}, inTgs ts j = true → j ∈ tgsNames ts
  | [], j, h => by unfold inTgs at h; cases h
  | t :: ts, j, h => by
    unfold inTgs at h
    unfold tgsNames
    rw [Bool.or_eq_true] at h
    exact List.mem_append.mpr (h.imp in_names ins_names)
end
theorem tgt_in {t : Tgt} {vs : List Nat} (h : ((tgNames t).all fun j => vs.contains j) = true) : ∀ j, inTg t j = true → j ∈ vs := fun j hj => by
  rw [List.all_eq_true] at h
  simpa using h j (in_names hj)

/-! ### the rules -/
section
variable {X : Cx} {W : WX} {fx : Nat → Bool} {us : List Ar} {g : List D → Option (List D)} {t : Tgt} {c y : ME} {elt tg it : Expr} {ifs : List Expr} {scope : Scope} {pos spos : Pos} {nm : List (Str × Nat)}
/-- the tests of a clause -/
abbrev PQ (X : Cx) (ifs : List Expr) (c : ME) : Prop := PTs X ifs (tTm X W0 c)
theorem q0 : PQ X [] (mC (.bl true)) := ⟨fun pins s σ H Q I h => pts_nil.run pins s σ H Q I (by
  obtain ⟨Fr, e, own, r, rp, h1, h2⟩ := h
  cases h1
  obtain ⟨b, hb, h2⟩ := h2
  cases hb
  exact h2 own H rp.refl)⟩
theorem q1 {a : Expr} {m : ME} (h : PT X a (tTm X W0 m)) : PQ X [a] m := pts_one h
/-- [elt for tg in it if ..] -/
theorem oLc (hc : X.calm = true) (hN : X.N.Nodup) (hi : PIt X W tg it us g) (ok : BlkOk X.N X.env.scope scope nm)
    (hg : ∀ (s : Shared) (H : Hp) (C : Addr) (cl : List (Str × Addr)) (fp : List Addr), PG (X.blk s H scope (compEnvC scope cl C X.env) fp) tg (gT (X.blk s H scope (compEnvC scope cl C X.env) fp) t))
    (hq : ∀ (s : Shared) (H : Hp) (C : Addr) (cl : List (Str × Addr)) (fp : List Addr), PQ (X.blk s H scope (compEnvC scope cl C X.env) fp) ifs c)
    (he : ∀ (s : Shared) (H : Hp) (C : Addr) (cl : List (Str × Addr)) (fp : List Addr), PE (X.blk s H scope (compEnvC scope cl C X.env) fp) elt (tM (X.blk s H scope (compEnvC scope cl C X.env) fp) W0 y))
    (hu : us.all (arFix fun j => !(nm.map (·.2)).contains j) = true) (ht : ∀ j, inTg t j = true → j ∈ nm.map (·.2)) (hs : ∀ x, foldedSetIterable it X.env x = pure x := by intro _; rfl) :
    PE X (.ListComp elt [⟨tg, it, ifs, 0⟩] scope pos) (tM X W (mLc t us g (nm.map (·.2)) c y)) :=
  peImp (pe_lc (g := gT X t) (tt := tTm X W0 c) (te := tM X W0 y) hc hN hi ok hg hq he hs) fun σ H Q h => rd_lc hu ht h
/-- name = [..] -/
theorem pSetLc {i : Nat} {x : Str} {py : Pos} (hc : X.calm = true) (hN : X.N.Nodup) (hi : PIt X W tg it us g) (ok : BlkOk X.N X.env.scope scope nm)
    (hg : ∀ (s : Shared) (H : Hp) (C : Addr) (cl : List (Str × Addr)) (fp : List Addr), PG (X.blk s H scope (compEnvC scope cl C X.env) fp) tg (gT (X.blk s H scope (compEnvC scope cl C X.env) fp) t))
    (hq : ∀ (s : Shared) (H : Hp) (C : Addr) (cl : List (Str × Addr)) (fp : List Addr), PQ (X.blk s H scope (compEnvC scope cl C X.env) fp) ifs c)
    (he : ∀ (s : Shared) (H : Hp) (C : Addr) (cl : List (Str × Addr)) (fp : List Addr), PE (X.blk s H scope (compEnvC scope cl C X.env) fp) elt (tM (X.blk s H scope (compEnvC scope cl C X.env) fp) W0 y))
    (hu : us.all (arFix fun j => !(nm.map (·.2)).contains j) = true) (ht : ∀ j, inTg t j = true → j ∈ nm.map (·.2))
    (hsw : swapsWith (.ListComp elt [⟨tg, it, ifs, 0⟩] scope pos) (some (.Name x py)) spos.line X.env = pure true)
    (hx : X.N[i]? = some x := by rfl) (hl : X.env.scope.names.lookup x = some .local := by rfl) (hfx : fx i = false := by rfl) (hs : ∀ x, foldedSetIterable it X.env x = pure x := by intro _; rfl) :
    PS X (.Assign [.Name x py] (.ListComp elt [⟨tg, it, ifs, 0⟩] scope pos) spos) (tS X W fx (sSet i (mLc t us g (nm.map (·.2)) c y))) := by
  refine sImp (ps_setLc (g := gT X t) (tt := tTm X W0 c) (te := tM X W0 y) hc hN hx hl hsw hi ok hg hq he hs) fun D σ H h => ?_
  obtain ⟨Fr, e, own, r, rp, h1, h2⟩ := h
  unfold sSet at h1
  obtain ⟨q, hq, h1⟩ := Option.bind_eq_some_iff.mp h1
  refine rd_lc hu ht ⟨Fr, e, own, q, rp, hq, ?_⟩
  cases q with
  | exc x e' => cases h1; exact fun c dx own' H' w xr => h2 c dx own' σ H' w.step xr
  | ok d e' =>
    cases h1
    intro v P own' H' g
    refine h2 _ _ H' ⟨g.put i, fun j hj => ?_⟩
    have : i ≠ j := fun z => by subst z; rw [hfx] at hj; cases hj
    exact List.getElem?_set_ne this
end
end Ow

set_option Elab.async false
set_option autoImplicit false
set_option linter.all false
set_option maxRecDepth 100000
/-! Ow, part 14: defs and their calls. A caller's name that owns its value is lent to the parameter: behind the call it has what the parameter has. -/
namespace Ow
open PySem PySem.Spec PyProof.Rows L2

/-- what a call gives: a value or an exception; what the parameters that were never stored anew hold behind it -/
inductive FR where
  | ok (d : D) (es : Sl)
  | exc (x : XD) (es : Sl)
/-- a def's meaning -/
abbrev MF := List D → Option FR
def maskS (fx : Nat → Bool) (n : Nat) (e : Sl) : Sl := (List.range n).map fun j => if fx j then (e[j]?).join else none
/-- n parameters, l slots in all -/
def mF (n l : Nat) (fx : Nat → Bool) (s : MS) : MF := fun ds => if ds.length = n then (s (ds.map some ++ List.replicate (l - n) none)).bind fun r => match r with
  | .nx e => some (.ok .non (maskS fx n e))
  | .rt d e => some (.ok d (maskS fx n e))
  | .exc x e => some (.exc x (maskS fx n e))
  | _ => none else none
/-- a def's promise -/
def spF (K : PySem.W.Frag) (mg : Str → Option Value) (n : Nat) (f : MF) : Sp := fun vs H Q E => vs.length = n ∧ ∃ Fr ds own r, Rep K Fr (ds.map some) own (vs.map some) H ∧ f ds = some r ∧
  match r with
  | .ok d es => ∀ v P own' H', Got K Fr own H es own' (vs.map some) H' d v P → Q v H'
  | .exc x es => ∀ c dx own' H', Went K Fr own H es own' (vs.map some) H' → XRel K mg (Mof Fr own') H' x c dx → E c dx H'

/-! ### the promise of a def of the text -/
/-- as FnOk, where no guard stands around the call -/
structure FnG (P : Program) (w : World) (K : PySem.W.Frag) (mg : Str → Option Value) (base : Heap) (k : Nat) (f : Addr) (fd : FuncData) (ps : List Str) (sp : Sp) : Prop where
  len : ∀ vs H Q E, sp vs H Q E → vs.length = ps.length
  run : ∀ (A : Around) (outer : List Env) (s : Shared) (H : Hp) (args : Args) (us : List Value) (vs : List V) (Q : VK) (E : XK), Room k A → A.guards = some [] → Env0 P w K mg base A outer s H → BindsTo s fd args (ps.zip us) → Vals vs us → sp vs H Q E →
    codeAny (model P w) A (.call (.ref f) args) (CR (L2.CX P w) outer P w H s Q E) s
section
variable {P : Program} {w : World} {K : PySem.W.Frag} {mg : Str → Option Value} {base : Heap}
theorem FnG.more {j k : Nat} {f : Addr} {fd : FuncData} {ps : List Str} {sp : Sp} (F : FnG P w K mg base j f fd ps sp) (h : j ≤ k) : FnG P w K mg base k f fd ps sp :=
  ⟨F.len, fun A outer s H args us vs Q E hr => F.run A outer s H args us vs Q E (hr.mono h)⟩
theorem FnG.by {x qual : Str} {st : Stmt} {f : Addr} {fd : FuncData} {N ps : List Str} {k : Nat} {sp : Sp} (F : Fun K x qual st f fd) (S : FnScope N ps (defScope st)) (len : ∀ vs H Q E, sp vs H Q E → vs.length = ps.length)
    (hbody : ∀ (cdv : Value) (A : Around) (outer : List Env) (s : Shared) (H : Hp) (vs : List V) (Q : VK) (E : XK), Room k (A.deeper (envOfC qual (defScope st) s.heap.objs.size f cdv)) → A.guards = some [] → sp vs H Q E →
      ∃ t, PSs (cxOf (L2.CX P w) P w K mg base N qual (defScope st) f cdv A outer s H E) (defBody st) t ∧ t { nx := fun _ H' => Q .non H', rt := Q } (start N vs) H) : FnG P w K mg base (k + 1) f fd ps sp := by
  obtain ⟨oc, od, kV, doc, pm, an, cdv, ct, osl, rfl, lk, hcd⟩ := F.ex
  refine ⟨len, fun A outer s H args us vs Q E hr hgd e0 hb r hsp => ?_⟩
  have hl := len _ _ _ _ hsp
  have lim : s.heap.NoLimit := e0.mod.nolimit.keeps fun b o e => (e0.bs b o e).1
  have KX : K.In s.heap := e0.mod.kin.keeps fun b o e => (e0.bs b o e).1
  refine codeAny_call_function hr.depth (KX _ _ lk) rfl S.co S.gen rfl (PySem.W.codeRec_of KX hcd) (hb _ _ _ _ ?_)
  refine wpAny_newFunctionEnv_cells S.kind (fun ⟨n, v⟩ hy => ?_) fun env he s1 x => ?_
  · rcases S.par n (List.of_mem_zip hy).1 with q | q
    · exact .inl q
    · exact .inr ⟨q, PySem.W.cellsFrom_some _ _ _ (.inl q)⟩
  · subst he
    refine ⟨lim.keeps x.toInCall.keep, codeAny_func ?_⟩
    obtain ⟨t, ht, hq⟩ := hbody cdv A outer s H vs Q E (hr.deeper _) hgd hsp
    refine wpAny_mono (ht.run [] s1 (start N vs) H _ (inv_start S hr.hd e0 hl r x) hq) (fun fl s' hs => ?_) fun e s' hs => hs
    cases fl with
    | brk => obtain ⟨_, _, _, q⟩ := hs; exact q.elim
    | cont => obtain ⟨_, _, _, q⟩ := hs; exact q.elim
    | next => obtain ⟨σ', H', J, q⟩ := hs; exact ⟨V.non, H', J.os, J.bare, J.base, J.hok, rfl, q⟩
    | ret u => obtain ⟨v, σ', H', J, rv, q⟩ := hs; exact ⟨v, H', J.os, J.bare, J.base, J.hok, rv, q⟩
end

/-! ### fewer slots -/
section
variable {K : PySem.W.Frag} {Fr : Own} {e : Sl} {own : Nat → Own} {σ : L2.St} {H H' : Hp} {fx : Nat → Bool} {n : Nat} {vs : List V} {d : D} {v : V} {P : Own}
def maskO (fx : Nat → Bool) (n : Nat) (own : Nat → Own) : Nat → Own := fun j => if j < n ∧ fx j = true then own j else nobody
theorem maskS_get {j : Nat} {d : D} (h : (maskS fx n e)[j]? = some (some d)) : j < n ∧ fx j = true ∧ e[j]? = some (some d) := by
  unfold maskS at h
  rw [List.getElem?_map] at h
  obtain ⟨k, h1, h2⟩ := Option.map_eq_some_iff.mp h
  obtain ⟨hk, h1⟩ := List.getElem?_eq_some_iff.mp h1
  simp at h1 hk
  subst h1
  split at h2
  · rename_i z
    refine ⟨hk, z, ?_⟩
    cases q : e[j]? with
    | none => rw [q] at h2; cases h2
    | some y => rw [q] at h2; simp at h2; rw [h2]
  · cases h2
theorem maskO_sub {j : Nat} {a : Addr} (h : maskO fx n own j a) : own j a := by
  unfold maskO at h
  split at h
  · exact h
  · exact h.elim
theorem maskO_eq {j : Nat} (h : j < n) (z : fx j = true) : maskO fx n own j = own j := by unfold maskO; rw [if_pos ⟨h, z⟩]
theorem Rep.mask (r : Rep K Fr e own σ H) (hl : vs.length = n) (hs : ∀ j, j < n → fx j = true → σ[j]? = (vs.map some)[j]?) : Went K Fr own H (maskS fx n e) (maskO fx n own) (vs.map some) H := by
  have le : ∀ a, Mof Fr (maskO fx n own) a → Mof Fr own a := fun a q => q.elim .inl fun ⟨j, q⟩ => .inr ⟨j, maskO_sub q⟩
  have k : Keep (Mof Fr own) (Mof Fr (maskO fx n own)) H H := fun a o n z => ⟨z, fun q => n (le a q)⟩
  refine ⟨⟨by unfold maskS; simp [hl], fun j d hd => ?_, fun i j a hi hj => r.dj i j a (maskO_sub hi) (maskO_sub hj), fun i a hi => r.fr i a (maskO_sub hi), fun a ha => r.tr a (le a ha)⟩, k, fun _ _ => rfl⟩
  obtain ⟨h1, h2, h3⟩ := maskS_get hd
  obtain ⟨v, h4, h5⟩ := r.sl j d h3
  exact ⟨v, by rw [← hs j h1 h2]; exact h4, by rw [maskO_eq h1 h2]; exact h5.keep k fun _ _ => rfl⟩
theorem Got.more {own1 : Nat → Own} {H1 : Hp} {e1 e' : Sl} {own' : Nat → Own} {σ' : L2.St} (g : Got K Fr own H e1 own1 σ H1 d v P) (w : Went K (fun a => Fr a ∨ P a) own1 H1 e' own' σ' H1) : Got K Fr own H e' own' σ' H1 d v P :=
  ⟨w.rep, g.rel.keep w.keep fun a z => w.fix a (.inr z), g.ap, g.keep.trans w.keep, g.fix⟩
/-- the entry -/
theorem Rep.start {ds : List D} {N : List Str} (r : Rep K Fr (ds.map some) own (vs.map some) H) : Rep K Fr (ds.map some ++ List.replicate (N.length - vs.length) none) own (start N vs) H := by
  have hl : ds.length = vs.length := by have := r.len; simpa using this
  refine ⟨by unfold L2.start; simp [hl], fun i d hd => ?_, r.dj, r.fr, r.tr⟩
  by_cases c : i < ds.length
  · rw [List.getElem?_append_left (by simpa using c)] at hd
    obtain ⟨v, h1, h2⟩ := r.sl i d hd
    exact ⟨v, by unfold L2.start; rw [List.getElem?_append_left (by simp; omega)]; exact h1, h2⟩
  · rw [List.getElem?_append_right (by simp; omega), List.getElem?_replicate] at hd
    split at hd <;> cases hd
theorem start_get {N : List Str} {j : Nat} (h : j < vs.length) : (start N vs)[j]? = (vs.map some)[j]? := by
  unfold L2.start
  rw [List.getElem?_append_left (by simpa using h)]
end

section
variable {P : Program} {w : World} {K : PySem.W.Frag} {mg : Str → Option Value} {base : Heap}
/-- a def by its meaning: the body under W, what it wants of exceptions -/
theorem FnG.of {x qual : Str} {st : Stmt} {f : Addr} {fd : FuncData} {N ps : List Str} {k : Nat} {fx : Nat → Bool} {s : MS} {n l : Nat} (F : Fun K x qual st f fd) (S : FnScope N ps (defScope st)) (hn : ps.length = n) (hl : N.length = l)
    (hbody : ∀ (cdv : Value) (A : Around) (outer : List Env) (s0 : Shared) (H0 : Hp) (E : XK), Room k (cxOf (L2.CX P w) P w K mg base N qual (defScope st) f cdv A outer s0 H0 E).A → (cxOf (L2.CX P w) P w K mg base N qual (defScope st) f cdv A outer s0 H0 E).A.guards = some [] →
      Takes (cxOf (L2.CX P w) P w K mg base N qual (defScope st) f cdv A outer s0 H0 E) (fun cls d _ H => E cls d H) →
      PassesOwn (model P w) (cxOf (L2.CX P w) P w K mg base N qual (defScope st) f cdv A outer s0 H0 E).A (cxOf (L2.CX P w) P w K mg base N qual (defScope st) f cdv A outer s0 H0 E).env (cxOf (L2.CX P w) P w K mg base N qual (defScope st) f cdv A outer s0 H0 E).xe →
      PSs (cxOf (L2.CX P w) P w K mg base N qual (defScope st) f cdv A outer s0 H0 E) (defBody st) (tS (cxOf (L2.CX P w) P w K mg base N qual (defScope st) f cdv A outer s0 H0 E) (fun cls d _ H => E cls d H) fx s)) :
    FnG P w K mg base (k + 1) f fd ps (spF K mg n (mF n l fx s)) := by
  refine .by F S (fun vs H Q E h => by rw [hn]; exact h.1) fun cdv A outer s0 H vs Q E hr hgd hsp => ?_
  obtain ⟨hv, Fr, ds, own, r, rp, hf, hq⟩ := hsp
  have hds : ds.length = n := by have := rp.len; simp at this; omega
  refine ⟨_, hbody cdv A outer s0 H E hr hgd (takes_of rfl rfl rfl rfl) (passes_of rfl), ?_⟩
  unfold mF at hf
  rw [if_pos hds] at hf
  obtain ⟨q, h1, hf⟩ := Option.bind_eq_some_iff.mp hf
  have rs := rp.start (N := N)
  rw [hv, hl] at rs
  refine ⟨Fr, _, own, q, rs, h1, ?_⟩
  cases q with
  | bk e => cases hf
  | ct e => cases hf
  | nx e =>
    cases hf
    intro own' σ' H' st
    have m := st.went.rep.mask (fx := fx) (n := n) hv fun j hj z => (st.fixed j z).trans (start_get (by omega))
    exact hq .non nobody _ H' ((st.went.trans m).val (by unfold Rel; rfl))
  | rt d e =>
    cases hf
    intro v P' own' σ' H' g fxd
    exact hq v P' _ H' (g.more (g.rep.mask (fx := fx) (n := n) hv fun j hj z => (fxd j z).trans (start_get (by omega))))
  | exc y e =>
    cases hf
    intro c dx own' σ' H' st xr
    have m := st.went.rep.mask (fx := fx) (n := n) hv fun j hj z => (st.fixed j z).trans (start_get (by omega))
    refine hq c dx _ H' (st.went.trans m) ?_
    obtain ⟨C, c1, c2, c3⟩ := xr
    refine ⟨C, c1, c2, ?_⟩
    rcases c3 with c3 | ⟨p, fs, d1, d2, d3, d4, d5⟩
    · exact .inl c3
    · exact .inr ⟨p, fs, d1, (m.keep p _ d2 d3).2, d3, d4, d5.keep m.keep fun _ _ z => z.elim⟩
end

/-! ### the call -/
def isNm (i : Nat) : AV → Bool
  | .nm j => j == i
  | _ => false
/-- the names whose values are lent -/
def lents (e : Sl) : List AV → List Nat
  | [] => []
  | .nm i :: l => if (slot e i).any top then i :: lents e l else lents e l
  | _ :: l => lents e l
/-- where slot i's value is lent -/
def lentAt (e : Sl) (l : List AV) (i : Nat) : Option Nat := if (slot e i).any top then l.findIdx? (isNm i) else none
def back (e : Sl) (l : List AV) (es : Sl) : Sl := e.mapIdx fun i x => match lentAt e l i with
  | some j => (es[j]?).join
  | none => x
def mCall (f : MF) (ars : List Ar) : ME := fun e => (evA ars e).bind fun q => match q with
  | .ok l e' => (resolves e' l).bind fun ds => if (lents e' l).Nodup ∧ l.all AV.noPt = true then (f ds).bind fun r => match r with
      | .ok d es => some (.ok d (back e' l es))
      | .exc x es => some (.exc x (back e' l es)) else none
  | .exc x e' => some (.exc x e')
section
variable {e : Sl} {l : List AV} {i j : Nat}
theorem findIdx_get {i : Nat} (l : List AV) : ∀ {j : Nat}, l.findIdx? (isNm i) = some j → l[j]? = some (.nm i) := by
  induction l with
  | nil => intro j h; cases h
  | cons a l ih =>
    intro j h
    rw [List.findIdx?_cons] at h
    split at h
    · rename_i z
      cases h
      cases a with
      | nm k => simp only [isNm, beq_iff_eq] at z; subst z; rfl
      | pt _ _ => cases z
      | v _ => cases z
    · obtain ⟨j', h1, rfl⟩ := Option.map_eq_some_iff.mp h
      simpa using ih h1
theorem findIdx_some : ∀ {l : List AV} {j : Nat}, l[j]? = some (.nm i) → ∃ k, l.findIdx? (isNm i) = some k
  | [], j, h => by simp at h
  | a :: l, 0, h => by
    simp at h
    subst h
    exact ⟨0, by rw [List.findIdx?_cons]; simp [isNm]⟩
  | a :: l, j + 1, h => by
    rw [List.findIdx?_cons]
    split
    · exact ⟨0, rfl⟩
    · obtain ⟨k, hk⟩ := findIdx_some (l := l) (j := j) (by simpa using h)
      exact ⟨k + 1, by rw [hk]; rfl⟩
theorem mem_lents {e : Sl} {i : Nat} : ∀ {l : List AV} {j : Nat}, l[j]? = some (.nm i) → (slot e i).any top = true → i ∈ lents e l
  | [], _, h, _ => by simp at h
  | .nm k :: l, 0, h, z => by
    simp at h
    subst h
    unfold lents
    rw [if_pos z]
    exact List.mem_cons_self
  | .pt _ _ :: l, 0, h, z => by simp at h
  | .v _ :: l, 0, h, z => by simp at h
  | .nm k :: l, j + 1, h, z => by
    have := mem_lents (e := e) (l := l) (j := j) (by simpa using h) z
    unfold lents
    split
    · exact List.mem_cons_of_mem _ this
    · exact this
  | .pt _ _ :: l, j + 1, h, z => by unfold lents; exact mem_lents (l := l) (j := j) (by simpa using h) z
  | .v _ :: l, j + 1, h, z => by unfold lents; exact mem_lents (l := l) (j := j) (by simpa using h) z
theorem lents_one {e : Sl} {i : Nat} : ∀ {l : List AV} {j j' : Nat}, (lents e l).Nodup → l[j]? = some (.nm i) → l[j']? = some (.nm i) → (slot e i).any top = true → j = j'
  | [], _, _, _, h, _, _ => by simp at h
  | a :: l, 0, 0, _, _, _, _ => rfl
  | a :: l, 0, j' + 1, nd, h, h', z => by
    simp at h
    subst h
    unfold lents at nd
    rw [if_pos z] at nd
    exact absurd (mem_lents (e := e) (l := l) (j := j') (by simpa using h') z) (List.nodup_cons.mp nd).1
  | a :: l, j + 1, 0, nd, h, h', z => by
    simp at h'
    subst h'
    unfold lents at nd
    rw [if_pos z] at nd
    exact absurd (mem_lents (e := e) (l := l) (j := j) (by simpa using h) z) (List.nodup_cons.mp nd).1
  | a :: l, j + 1, j' + 1, nd, h, h', z => by
    have nd' : (lents e l).Nodup := by
      cases a with
      | nm k =>
        unfold lents at nd
        split at nd
        · exact (List.nodup_cons.mp nd).2
        · exact nd
      | pt _ _ => unfold lents at nd; exact nd
      | v _ => unfold lents at nd; exact nd
    have := lents_one (l := l) (j := j) (j' := j') nd' (by simpa using h) (by simpa using h') z
    rw [this]
theorem lentAt_some (h : lentAt e l i = some j) : l[j]? = some (.nm i) ∧ (slot e i).any top = true := by
  unfold lentAt at h
  split at h
  · rename_i z; exact ⟨findIdx_get l h, z⟩
  · cases h
theorem lentAt_of (nd : (lents e l).Nodup) (h : l[j]? = some (.nm i)) (z : (slot e i).any top = true) : lentAt e l i = some j := by
  unfold lentAt
  rw [if_pos z]
  obtain ⟨k, hk⟩ := findIdx_some h
  rw [hk, lents_one nd (findIdx_get l hk) h z]
theorem back_get {es : Sl} {d : D} (h : (back e l es)[i]? = some (some d)) : (∃ j, lentAt e l i = some j ∧ es[j]? = some (some d)) ∨ (lentAt e l i = none ∧ e[i]? = some (some d)) := by
  unfold back at h
  rw [List.getElem?_mapIdx] at h
  obtain ⟨x, h1, h2⟩ := Option.map_eq_some_iff.mp h
  cases q : lentAt e l i with
  | none => rw [q] at h2; subst h2; exact .inr ⟨rfl, h1⟩
  | some j =>
    rw [q] at h2
    have h2 : (es[j]?).join = some d := h2
    refine .inl ⟨j, rfl, ?_⟩
    cases z : es[j]? with
    | none => rw [z] at h2; cases h2
    | some y => rw [z] at h2; simp at h2; rw [h2]
end
section
variable {K : PySem.W.Frag} {Fr : Own} {e : Sl} {own : Nat → Own} {σ : L2.St} {H H' : Hp} {l : List AV} {vs : List V} {ds : List D} {es : Sl} {own' : Nat → Own} {d : D} {v : V} {P : Own}
/-- what the parameters own -/
def parO (e : Sl) (own : Nat → Own) (l : List AV) : Nat → Own := fun j a => ∃ i, lentAt e l i = some j ∧ own i a
/-- what others than the callee own -/
def restO (Fr : Own) (e : Sl) (own : Nat → Own) (l : List AV) : Own := fun a => Fr a ∨ ∃ i, lentAt e l i = none ∧ own i a
theorem parO_all : Mof (restO Fr e own l) (parO e own l) = Mof Fr own := by
  funext a
  apply propext
  constructor
  · rintro ((h | ⟨i, _, h⟩) | ⟨j, i, _, h⟩)
    · exact .inl h
    · exact .inr ⟨i, h⟩
    · exact .inr ⟨i, h⟩
  · rintro (h | ⟨i, h⟩)
    · exact .inl (.inl h)
    · cases q : lentAt e l i with
      | none => exact .inl (.inr ⟨i, q, h⟩)
      | some j => exact .inr ⟨j, i, q, h⟩
theorem lent_inj {i i' j : Nat} (h : lentAt e l i = some j) (h' : lentAt e l i' = some j) : i = i' := by
  have := (lentAt_some h).1.symm.trans (lentAt_some h').1
  cases this
  rfl
theorem pair_get {α β : Type} {G : α → β → Prop} : ∀ {xs : List α} {ys : List β} {n : Nat} {x : α}, Paired G xs ys → xs[n]? = some x → ∃ y, ys[n]? = some y ∧ G x y
  | _, _, _, _, .nil, h => by simp at h
  | _, _, 0, _, .cons r t, h => by simp at h; subst h; exact ⟨_, rfl, r⟩
  | _, _, n + 1, _, .cons r t, h => by
    obtain ⟨y, h1, h2⟩ := pair_get (n := n) t (by simpa using h)
    exact ⟨y, by simpa using h1, h2⟩
theorem resolves_get : ∀ {l : List AV} {ds : List D} {n : Nat} {d : D}, resolves e l = some ds → ds[n]? = some d → ∃ a, l[n]? = some a ∧ resolve e a = some d
  | [], ds, n, d, h, hd => by unfold resolves at h; cases h; simp at hd
  | a :: l, ds, n, d, h, hd => by
    unfold resolves at h
    obtain ⟨x, h1, h⟩ := Option.bind_eq_some_iff.mp h
    obtain ⟨xs, h2, h⟩ := Option.bind_eq_some_iff.mp h
    cases h
    cases n with
    | zero => simp at hd; subst hd; exact ⟨a, rfl, h1⟩
    | succ n => exact resolves_get (l := l) h2 (by simpa using hd)
theorem resolves_len : ∀ {l : List AV} {ds : List D}, resolves e l = some ds → ds.length = l.length
  | [], ds, h => by unfold resolves at h; cases h; rfl
  | a :: l, ds, h => by
    unfold resolves at h
    obtain ⟨x, h1, h⟩ := Option.bind_eq_some_iff.mp h
    obtain ⟨xs, h2, h⟩ := Option.bind_eq_some_iff.mp h
    cases h
    simp [resolves_len h2]
/-- the callee's entry -/
theorem Rep.lend (r : Rep K Fr e own σ H) (p : Paired (ArgRel K (Mof Fr own) σ H) l vs) (hr : resolves e l = some ds) (nd : (lents e l).Nodup) (np : l.all AV.noPt = true) :
    Rep K (restO Fr e own l) (ds.map some) (parO e own l) (vs.map some) H := by
  refine ⟨?_, fun j d hd => ?_, ?_, ?_, ?_⟩
  · have := Paired.length p
    simp [resolves_len hr, this]
  · rw [parO_all]
    rw [List.getElem?_map] at hd
    obtain ⟨d', hd', e1⟩ := Option.map_eq_some_iff.mp hd
    cases e1
    obtain ⟨a, ha, ra⟩ := resolves_get hr hd'
    obtain ⟨v, hv, g⟩ := pair_get p ha
    refine ⟨v, by rw [List.getElem?_map, hv]; rfl, ?_⟩
    cases a with
    | pt i k =>
      rw [List.all_eq_true] at np
      exact absurd (np _ (List.mem_of_getElem? ha)) (by simp [AV.noPt])
    | v d2 =>
      cases ra
      exact Rel.wk (P := nobody) (fun _ z => z.elim) g
    | nm i =>
      have ra : slot e i = some d := ra
      have g : σ[i]? = some (some v) := g
      obtain ⟨v', h1, h2⟩ := r.at ra
      rw [g] at h1; cases h1
      cases tp : top d with
      | false => exact Rel.untop tp h2
      | true =>
        have := lentAt_of nd ha (by rw [ra]; exact tp)
        exact h2.wk fun a z => ⟨i, this, z⟩
  · rintro j j' a ⟨i, h1, h2⟩ ⟨i', h3, h4⟩
    have := r.dj i i' a h2 h4
    subst this
    rw [h1] at h3; cases h3
    rfl
  · rintro j a ⟨i, h1, h2⟩ (z | ⟨i', h3, h4⟩)
    · exact r.fr i a h2 z
    · have := r.dj i i' a h2 h4
      subst this
      rw [h1] at h3; cases h3
  · rw [parO_all]; exact r.tr
def backO (e : Sl) (own : Nat → Own) (l : List AV) (own' : Nat → Own) : Nat → Own := fun i => match lentAt e l i with
  | some j => own' j
  | none => own i
theorem backO_none {i : Nat} (h : lentAt e l i = none) : backO e own l own' i = own i := by unfold backO; rw [h]
theorem backO_some {i j : Nat} (h : lentAt e l i = some j) : backO e own l own' i = own' j := by unfold backO; rw [h]
/-- behind the call -/
theorem Rep.given (r : Rep K Fr e own σ H) (p : Paired (ArgRel K (Mof Fr own) σ H) l vs) (g : Got K (restO Fr e own l) (parO e own l) H es own' (vs.map some) H' d v P) :
    Got K Fr own H (back e l es) (backO e own l own') σ H' d v P := by
  have le : ∀ a, Mof (fun a => Fr a ∨ P a) (backO e own l own') a → Mof (fun a => restO Fr e own l a ∨ P a) own' a := by
    rintro a ((z | z) | ⟨i, z⟩)
    · exact .inl (.inl (.inl z))
    · exact .inl (.inr z)
    · cases q : lentAt e l i with
      | none => rw [backO_none q] at z; exact .inl (.inl (.inr ⟨i, q, z⟩))
      | some j => rw [backO_some q] at z; exact .inr ⟨j, z⟩
  have k : Keep (Mof (fun a => restO Fr e own l a ∨ P a) own') (Mof (fun a => Fr a ∨ P a) (backO e own l own')) H' H' := fun a o n z => ⟨z, fun q => n (le a q)⟩
  have kk : Keep (Mof Fr own) (Mof (fun a => Fr a ∨ P a) (backO e own l own')) H H' := by
    have := g.keep.trans k
    rw [parO_all] at this
    exact this
  refine ⟨⟨by unfold back; rw [List.length_mapIdx]; exact r.len, fun i d' hd => ?_, fun i i' a hi hi' => ?_, fun i a hi z => ?_, fun a ha => g.rep.tr a (le a ha)⟩, g.rel.keep k fun _ _ => rfl, fun a z z2 => g.ap a z (.inl z2), kk, fun a z => g.fix a (.inl z)⟩
  · rcases back_get hd with ⟨j, h1, h2⟩ | ⟨h1, h2⟩
    · obtain ⟨u, h3, h4⟩ := g.rep.sl j d' h2
      obtain ⟨u', h5, h6⟩ := pair_get p (lentAt_some h1).1
      have e5 : u' = u := by
        rw [List.getElem?_map, h5] at h3
        exact Option.some.inj (Option.some.inj h3)
      subst e5
      exact ⟨u', h6, by rw [backO_some h1]; exact h4.keep k fun _ _ => rfl⟩
    · obtain ⟨u, h3, h4⟩ := r.sl i d' h2
      exact ⟨u, h3, by rw [backO_none h1]; exact h4.keep kk fun a z => g.fix a (.inr ⟨i, h1, z⟩)⟩
  · cases q : lentAt e l i with
    | none =>
      rw [backO_none q] at hi
      cases q' : lentAt e l i' with
      | none => rw [backO_none q'] at hi'; exact r.dj i i' a hi hi'
      | some j' => rw [backO_some q'] at hi'; exact (g.rep.fr j' a hi' (.inl (.inr ⟨i, q, hi⟩))).elim
    | some j =>
      rw [backO_some q] at hi
      cases q' : lentAt e l i' with
      | none => rw [backO_none q'] at hi'; exact (g.rep.fr j a hi (.inl (.inr ⟨i', q', hi'⟩))).elim
      | some j' =>
        rw [backO_some q'] at hi'
        have := g.rep.dj j j' a hi hi'
        subst this
        exact lent_inj q q'
  · cases q : lentAt e l i with
    | none =>
      rw [backO_none q] at hi
      rcases z with z | z
      · exact r.fr i a hi z
      · exact g.ap a z (.inr ⟨i, q, hi⟩)
    | some j =>
      rw [backO_some q] at hi
      rcases z with z | z
      · exact g.rep.fr j a hi (.inl (.inl z))
      · exact g.rep.fr j a hi (.inr z)
theorem Got.went0 (g : Got K Fr own H e own' σ H' .non v nobody) : Went K Fr own H e own' σ H' := by
  have e1 : (fun a => Fr a ∨ nobody a) = Fr := by funext a; simp
  have h1 := g.rep
  have h2 := g.keep
  rw [e1] at h1 h2
  exact ⟨h1, h2, g.fix⟩
end

/-! ### the rules -/
section
variable {X : Cx} {W : WX} {us : List Ar} {f : MF} {n : Nat} {σ : L2.St} {H : Hp} {Q : VK}
/-- the arguments, then the promise -/
theorem rd_call (h : tM X W (mCall f us) σ H Q) : tAs X W us σ H fun vs H1 => vs.length = n → spF X.K X.mg n f vs H1 Q (WE W σ) := by
  obtain ⟨Fr, e, own, r, rp, h1, h2⟩ := h
  unfold mCall at h1
  obtain ⟨q, hq, h1⟩ := Option.bind_eq_some_iff.mp h1
  refine evA_read rp hq ?_
  cases q with
  | exc x e' => cases h1; exact h2
  | ok l e' =>
    obtain ⟨ds, e1, h1⟩ := Option.bind_eq_some_iff.mp h1
    split at h1
    · rename_i z
      obtain ⟨fr, e2, h1⟩ := Option.bind_eq_some_iff.mp h1
      intro vs own' H' w pr hn
      refine ⟨hn, _, ds, _, fr, w.rep.lend pr e1 z.1 z.2, e2, ?_⟩
      cases fr with
      | ok d es =>
        cases h1
        exact fun v P own2 H2 g => h2 v P _ H2 (w.got (w.rep.given pr g))
      | exc x es =>
        cases h1
        intro c dx own2 H2 w2 xr
        have g : Got X.K _ _ _ _ _ _ _ D.non V.non nobody := w2.val (by unfold Rel; rfl)
        have g2 := (w.rep.given pr g).went0
        refine h2 c dx _ H2 (w.trans g2) ?_
        have k : Keep (Mof (restO Fr e' own' l) own2) (Mof Fr (backO e' own' l own2)) H2 H2 := fun a o n z => ⟨z, fun q => n (by
          rcases q with q | ⟨i, q⟩
          · exact .inl (.inl q)
          · cases c : lentAt e' l i with
            | none => rw [backO_none c] at q; exact .inl (.inr ⟨i, c, q⟩)
            | some j => rw [backO_some c] at q; exact .inr ⟨j, q⟩)⟩
        obtain ⟨C, c1, c2, c3⟩ := xr
        refine ⟨C, c1, c2, ?_⟩
        rcases c3 with c3 | ⟨p, fs, d1, d2, d3, d4, d5⟩
        · exact .inl c3
        · exact .inr ⟨p, fs, d1, (k p _ d2 d3).2, d3, d4, d5.keep k fun _ _ z => z.elim⟩
    · cases h1
theorem run_g {k : Nat} {fa : Addr} {fd : FuncData} {ps : List Str} {sp : Sp} {E : XK} {pins : List (Addr × Obj)} {s : Shared} {args : Args} {us : List Value} {vs : List V} (F : FnG X.prog X.w X.K X.mg X.base k fa fd ps sp) (hr : Room k X.A) (hgd : X.A.guards = some []) (hb : BindsTo s fd args (ps.zip us)) (hx : PassesAt (L2.CX X.prog X.w) X σ E)
    (I : Inv X pins σ H s) (r : Vals vs us) (h : sp vs H Q E) : codeAny (model X.prog X.w) X.A (.call (.ref fa) args) (fun r s' => match r with
      | .ok (.ret u) => EP X pins σ Q u s'
      | .ok _ => False
      | .error e => X.xe e s') s := by
  refine codeAny_mono (F.run X.A X.stack s H args us vs Q E hr hgd I.env0 hb r h) fun r s' hq => ?_
  cases r with
  | error e => exact hx pins H s e s' I hq
  | ok fl =>
    cases fl with
    | ret u => exact I.after hq
    | next => exact hq.elim
    | brk => exact hq.elim
    | cont => exact hq.elim
end
end Ow

set_option Elab.async false
set_option autoImplicit false
set_option linter.all false
set_option maxRecDepth 100000
/-! Ow, part 15: the rules of calls. -/
namespace Ow
open PySem PySem.Spec PyProof.Rows L2

/-- a def that may be called by its name -/
structure Callee (P : Program) (w : World) (K : PySem.W.Frag) (mg : Str → Option Value) (base : Heap) (k : Nat) (x : Str) (n : Nat) (f : MF) : Prop where
  ex : ∃ (fa : Addr) (fd : FuncData) (ps : List Str), ps.length = n ∧ FnG P w K mg base k fa fd ps (spF K mg n f) ∧ mg x = some (.ref fa) ∧ PySem.W.keepIn K (.ref fa) = true ∧ Binds K fd ps []
/-- the values in the parameters' order -/
def permL {α : Type} (p : List Nat) (l : List α) : List α := p.filterMap fun j => l[j]?
/-- .. with every argument by keyword, in the order ks -/
structure CalleeK (P : Program) (w : World) (K : PySem.W.Frag) (mg : Str → Option Value) (base : Heap) (k : Nat) (x : Str) (n : Nat) (f : MF) (ks : List Str) (p : List Nat) : Prop where
  ex : ∃ (fa : Addr) (fd : FuncData) (ps : List Str), ps.length = n ∧ FnG P w K mg base k fa fd ps (spF K mg n f) ∧ mg x = some (.ref fa) ∧ PySem.W.keepIn K (.ref fa) = true ∧
    ∀ (s : Shared) (ws : List Value), ws.length = ks.length → BindsTo s fd ⟨[], ks.zip ws⟩ (ps.zip (permL p ws))
theorem Fun.kbinds {K : PySem.W.Frag} {x qual : Str} {st : Stmt} {f : Addr} {fd : FuncData} {ps ks : List Str} {p : List Nat} (F : Fun K x qual st f fd)
    (h : ∀ (kV doc pm : Value) (an : Option Addr) (cdv ct : Value) (ws : List Value), ws.length = ks.length → bindArgs (PySem.W.fnOf x qual (defArgs st) (defBody st) (defScope st) .none kV doc pm an cdv ct) ⟨[], ks.zip ws⟩ = pure (ps.zip (permL p ws))) :
    ∀ (s : Shared) (ws : List Value), ws.length = ks.length → BindsTo s fd ⟨[], ks.zip ws⟩ (ps.zip (permL p ws)) := by
  obtain ⟨oc, od, kV, doc, pm, an, cdv, ct, osl, rfl, lk, hcd⟩ := F.ex
  exact fun s ws hl => .of_eq (h kV doc pm an cdv ct ws hl)
theorem Callee.more {P : Program} {w : World} {K : PySem.W.Frag} {mg : Str → Option Value} {base : Heap} {j k : Nat} {x : Str} {n : Nat} {f : MF} (c : Callee P w K mg base j x n f) (h : j ≤ k) : Callee P w K mg base k x n f := by
  obtain ⟨fa, fd, ps, a, b, d⟩ := c.ex
  exact ⟨fa, fd, ps, a, b.more h, d⟩
theorem CalleeK.more {P : Program} {w : World} {K : PySem.W.Frag} {mg : Str → Option Value} {base : Heap} {j k : Nat} {x : Str} {n : Nat} {f : MF} {ks : List Str} {p : List Nat} (c : CalleeK P w K mg base j x n f ks p) (h : j ≤ k) : CalleeK P w K mg base k x n f ks p := by
  obtain ⟨fa, fd, ps, a, b, d⟩ := c.ex
  exact ⟨fa, fd, ps, a, b.more h, d⟩
def mCallK (f : MF) (p : List Nat) (ars : List Ar) : ME := fun e => (evA ars e).bind fun q => match q with
  | .ok l e' => (resolves e' (permL p l)).bind fun ds => if (lents e' (permL p l)).Nodup ∧ (permL p l).all AV.noPt = true then (f ds).bind fun r => match r with
      | .ok d es => some (.ok d (back e' (permL p l) es))
      | .exc x es => some (.exc x (back e' (permL p l) es)) else none
  | .exc x e' => some (.exc x e')
section
variable {X : Cx} {W : WX} {us : List Ar} {f : MF} {n k : Nat} {σ : L2.St} {H : Hp} {Q : VK} {x : Str} {a : Expr} {es : List Expr} {p pos : Pos}
theorem permL_paired {α β : Type} {G : α → β → Prop} {xs : List α} {ys : List β} (h : Paired G xs ys) : ∀ p : List Nat, Paired G (permL p xs) (permL p ys)
  | [] => .nil
  | j :: p => by
    have ih := permL_paired h p
    unfold permL at ih ⊢
    rw [List.filterMap_cons, List.filterMap_cons]
    cases q : xs[j]? with
    | none =>
      have : ys[j]? = none := by
        have hl := Paired.length h
        rw [List.getElem?_eq_none_iff] at q ⊢
        omega
      simp only [this]
      exact ih
    | some x =>
      obtain ⟨y, h1, h2⟩ := pair_get h q
      simp only [h1]
      exact .cons h2 ih
theorem rd_callK {pm : List Nat} (h : tM X W (mCallK f pm us) σ H Q) : tAs X W us σ H fun vs H1 => (permL pm vs).length = n → spF X.K X.mg n f (permL pm vs) H1 Q (WE W σ) := by
  obtain ⟨Fr, e, own, r, rp, h1, h2⟩ := h
  unfold mCallK at h1
  obtain ⟨q, hq, h1⟩ := Option.bind_eq_some_iff.mp h1
  refine evA_read rp hq ?_
  cases q with
  | exc x e' => cases h1; exact h2
  | ok l e' =>
    obtain ⟨ds, e1, h1⟩ := Option.bind_eq_some_iff.mp h1
    split at h1
    · rename_i z
      obtain ⟨fr, e2, h1⟩ := Option.bind_eq_some_iff.mp h1
      intro vs own' H' w pr hn
      have pr := permL_paired pr pm
      refine ⟨hn, _, ds, _, fr, w.rep.lend pr e1 z.1 z.2, e2, ?_⟩
      cases fr with
      | ok d es =>
        cases h1
        exact fun v P own2 H2 g => h2 v P _ H2 (w.got (w.rep.given pr g))
      | exc x es =>
        cases h1
        intro c dx own2 H2 w2 xr
        have g : Got X.K _ _ _ _ _ _ _ D.non V.non nobody := w2.val (by unfold Rel; rfl)
        have g2 := (w.rep.given pr g).went0
        refine h2 c dx _ H2 (w.trans g2) ?_
        have k : Keep (Mof (restO Fr e' own' (permL pm l)) own2) (Mof Fr (backO e' own' (permL pm l) own2)) H2 H2 := fun a o n z => ⟨z, fun q => n (by
          rcases q with q | ⟨i, q⟩
          · exact .inl (.inl q)
          · cases c : lentAt e' (permL pm l) i with
            | none => rw [backO_none c] at q; exact .inl (.inr ⟨i, c, q⟩)
            | some j => rw [backO_some c] at q; exact .inr ⟨j, q⟩)⟩
        obtain ⟨C, c1, c2, c3⟩ := xr
        refine ⟨C, c1, c2, ?_⟩
        rcases c3 with c3 | ⟨p, fs, d1, d2, d3, d4, d5⟩
        · exact .inl c3
        · exact .inr ⟨p, fs, d1, (k p _ d2 d3).2, d3, d4, d5.keep k fun _ _ z => z.elim⟩
    · cases h1
theorem tAs_len : ∀ {us : List Ar} {H : Hp} {Q : List V → Hp → Prop}, tAs X W us σ H Q → tAs X W us σ H fun vs H1 => vs.length = us.length ∧ Q vs H1
  | [], H, Q, h => ⟨rfl, h⟩
  | u :: us, H, Q, h => by
    refine tOpnd_mono (W := W) (Q := fun x H1 => tAs X W us σ H1 fun xs H2 => Q (x :: xs) H2) h fun x H1 q => ?_
    have := tAs_len (us := us) q
    exact tAs_mono this fun xs H2 z => ⟨by simp [z.1], z.2⟩
where
  tAs_mono : ∀ {us : List Ar} {H : Hp} {Q Q' : List V → Hp → Prop}, tAs X W us σ H Q → (∀ vs H1, Q vs H1 → Q' vs H1) → tAs X W us σ H Q'
  | [], H, Q, Q', h, f => f _ _ h
  | u :: us, H, Q, Q', h, f => by
    refine tOpnd_mono (W := W) (Q := fun x H1 => tAs X W us σ H1 fun xs H2 => Q (x :: xs) H2) h fun x H1 q => ?_
    exact tAs_mono q fun xs H2 z => f _ _ z
/-- f(e, ..) -/
theorem oCall (c : Callee X.prog X.w X.K X.mg X.base k x n f) (hr : Room k X.A) (hgd : X.A.guards = some []) (tk : Takes X W) (ha : PAs X W (a :: es) us) (hg : Gl X x := by rfl) (hdb : (x == ("__debug__" : Str)) = false := by decide)
    (he : starEach (a :: es) X.env = (false, eval a X.env) :: starEach es X.env := by rfl) (hpl : (backTo pos (starEach es X.env)).any (·.1) = false := by rfl) (hlen : us.length = n := by rfl) :
    PE X (.Call (.Name x p) (a :: es) [] pos) (tM X W (mCall f us)) := by
  obtain ⟨fa, fd, ps, hps, F, hm, hk, hb⟩ := c.ex
  refine ⟨fun pins s σ H Q I h => ?_⟩
  refine wpAny_Call_Name_kw (ld_glob I hg hm ?_ hdb)
  refine PySem.W.callWith_K (h₀ := X.base) I.ok.mod.kin hk (thn (ha.run pos pins s σ H _ I (tAs_len (rd_call (n := n) h))) fun vu s1 ⟨vs, H1, I1, r, hl, q⟩ => ⟨I1.kIn, ?_⟩) he hpl
  have b := hb s1 vu I1.kIn (by rw [List.append_nil, ← r.length, hl, hps, hlen])
  rw [List.append_nil] at b
  refine wpAny_call (codeAny_mono (run_g (us := vu) F hr hgd b (passAt tk σ) I1 r (q (hl.trans hlen))) fun r s' hq => ?_)
  cases r with
  | error e => exact hq
  | ok fl => cases fl <;> first | exact hq | exact hq.elim
/-- f() -/
theorem oCall0 (c : Callee X.prog X.w X.K X.mg X.base k x 0 f) (hr : Room k X.A) (hgd : X.A.guards = some []) (tk : Takes X W) (hg : Gl X x := by rfl) (hdb : (x == ("__debug__" : Str)) = false := by decide) :
    PE X (.Call (.Name x p) [] [] pos) (tM X W (mCall f [])) := by
  obtain ⟨fa, fd, ps, hps, F, hm, hk, hb⟩ := c.ex
  refine ⟨fun pins s σ H Q I h => ?_⟩
  refine wpAny_Call_Name_kw (ld_glob I hg hm ?_ hdb)
  have q := rd_call (n := 0) h
  have b := hb s [] I.kIn (by rw [List.append_nil, hps]; rfl)
  rw [List.append_nil] at b
  refine PySem.W.callWith_K0 I.kIn hk (wpAny_call (codeAny_mono (run_g (us := []) (vs := []) F hr hgd b (passAt tk σ) I .nil (q rfl)) fun r s' hq => ?_))
  cases r with
  | error e => exact hq
  | ok fl => cases fl <;> first | exact hq | exact hq.elim
theorem perm_len {α : Type} {l : List α} : ∀ p : List Nat, (∀ j ∈ p, j < l.length) → (permL p l).length = p.length
| [], _ => rfl
| j :: p, h => by
  have ih := perm_len (l := l) p fun i hi => h i (List.mem_cons_of_mem _ hi)
  unfold permL at ih ⊢
  have hj := h j List.mem_cons_self
  rw [List.filterMap_cons, List.getElem?_eq_getElem hj]
  simp only [List.length_cons, ih]
theorem vals_perm {vs : List V} {us : List Value} (r : Vals vs us) : ∀ p : List Nat, Vals (permL p vs) (permL p us)
| [] => .nil
| j :: p => by
  have ih := vals_perm r p
  have hl := r.length
  unfold permL at ih ⊢
  rw [List.filterMap_cons, List.filterMap_cons]
  cases q : vs[j]? with
  | none =>
    have : us[j]? = none := by rw [List.getElem?_eq_none_iff] at q ⊢; omega
    simp only [this]
    exact ih
  | some x =>
    obtain ⟨y, h1, h2⟩ := r.get q
    simp only [h1]
    exact .cons h2 ih
/-- f(k = v, ..) -/
theorem oCallK {ks : List Str} {pm : List Nat} {kws : List Keyword} (c : CalleeK X.prog X.w X.K X.mg X.base k x n f ks pm) (hr : Room k X.A) (hgd : X.A.guards = some []) (tk : Takes X W) (ha : PK X kws (tAs X W us)) (hpm : pm.length = n := by rfl)
    (hin : (pm.all fun j => decide (j < us.length)) = true := by rfl) (hlen : us.length = ks.length := by rfl)
    (hall : (backToKw pos (keywordEach kws X.env)).all (·.1.isSome) = true := by rfl) (hks : (backToKw pos (keywordEach kws X.env)).filterMap (·.1) = ks := by rfl)
    (hg : Gl X x := by rfl) (hdb : (x == ("__debug__" : Str)) = false := by decide)
    (hpl : ((backTo pos (starEach [] X.env)).any (·.1) || (backToKw pos (keywordEach kws X.env)).any (·.1.isNone)) = false := by rfl) :
    PE X (.Call (.Name x p) [] kws pos) (tM X W (mCallK f pm us)) := by
  obtain ⟨fa, fd, ps, hps, F, hm, hk, hb⟩ := c.ex
  refine ⟨fun pins s σ H Q I h => ?_⟩
  refine wpAny_Call_Name_kw (ld_glob I hg hm ?_ hdb)
  refine PySem.W.callWith_KW0 (h₀ := X.base) I.ok.mod.kin hk hall (thn (ha.run pos pins s σ H _ I (tAs_len (rd_callK (n := n) h))) fun wu s1 ⟨vs, H1, I1, r, hl, q⟩ => ⟨I1.kIn, ?_⟩) hpl
  rw [hks]
  have hw : wu.length = ks.length := by rw [← r.length, hl, hlen]
  have b := hb s1 wu hw
  have rp : Vals (permL pm vs) (permL pm wu) := vals_perm r pm
  have hpl : (permL pm vs).length = n := by
    rw [← hpm]
    rw [List.all_eq_true] at hin
    exact perm_len pm fun j hj => by have := of_decide_eq_true (hin j hj); omega
  refine wpAny_call (codeAny_mono (run_g F hr hgd b (passAt tk σ) I1 rp (q hpl)) fun r s' hq => ?_)
  cases r with
  | error e => exact hq
  | ok fl => cases fl <;> first | exact hq | exact hq.elim
end

/-! ### isinstance -/
def tyD : D → String
  | .non => "NoneType"
  | .bl _ => "bool"
  | .int _ => "int"
  | .str _ => "str"
  | .tup _ => "tuple"
  | .far _ => "list"
  | .lst _ _ => "list"
  | .dct _ _ => "dict"
def dIsi (T : String) : List D → Option D
  | [d] => (kitB (tyD d) T).map .bl
  | _ => none
section
variable {X : Cx} {W : WX} {K : PySem.W.Frag} {M : Own} {H : Hp} {d : D} {v : V} {a : Expr} {u : Ar} {p p2 pos : Pos} {T : String} {x : Str}
theorem ty_seqT {a : Addr} {vs : List V} (h : SqT K H a vs) : TyX K H (.ref a) (.type "tuple") := by
  rcases h with (h | ⟨o, h⟩) | h
  · exact .base (.tup h)
  · exact .fTuple h
  · obtain ⟨o, vs', n, h1, h2, _⟩ := h
    exact .kTuple h1 h2
theorem ty_seqL {a : Addr} {vs : List V} (h : SqL K H a vs) : TyX K H (.ref a) (.type "list") := by
  rcases h with (h | ⟨o, h⟩) | h
  · exact .base (.lst h)
  · exact .base (.frz h)
  · obtain ⟨o, vs', n, h1, h2, _⟩ := h
    exact .kList h1 h2
theorem ty_rel (h : RelAny K M H d v) : TyX K H v (.type (tyD d)) := by
  obtain ⟨P, h⟩ := h
  cases d with
  | non => unfold Rel at h; subst h; exact .base .non
  | bl b => unfold Rel at h; subst h; exact .base (.bl b)
  | int b => unfold Rel at h; subst h; exact .base (.int b)
  | str b => unfold Rel at h; subst h; exact .base (.str b)
  | tup l =>
    unfold Rel at h
    obtain ⟨a, vs, rfl, h1, _⟩ := h
    exact ty_seqT h1.seq
  | far l =>
    unfold Rel at h
    obtain ⟨a, vs, rfl, h1, _⟩ := h
    exact ty_seqL h1.seq
  | lst o l =>
    obtain ⟨a, vs, f, rfl, h1, _⟩ := any_lst ⟨P, h⟩
    exact .base (.lst h1)
  | dct o l =>
    have : ∃ a ks vs, v = .ref a ∧ HasKV H a ks vs := by
      cases o with
      | false => unfold Rel at h; obtain ⟨a, ks, vs, e, _, h2, _⟩ := h; exact ⟨a, ks, vs, e, h2⟩
      | true => unfold Rel at h; obtain ⟨a, ks, vs, f, e, h2, _⟩ := h; exact ⟨a, ks, vs, e, h2⟩
    obtain ⟨a, ks, vs, rfl, h2⟩ := this
    rcases h2 with ⟨kvs, h2, _⟩ | ⟨kvs, h2, _⟩
    · exact .base (.dK h2)
    · exact .base (.dT h2)
/-- isinstance(e, T), T a built-in type -/
theorem oIsi (T : String) (ha : PO1 X W a u) (hm : X.mg "isinstance" = none) (hmT : X.mg x = none) (hv : bootBuiltins x = some (.type T) := by decide +kernel) (hg : Gl X "isinstance" := by rfl) (hgT : Gl X x := by rfl)
    (hn : x ≠ "__name__" := by decide) (hdb : (x == ("__debug__" : Str)) = false := by decide)
    (he : starEach [a, .Name x p2] X.env = (false, eval a X.env) :: starEach [.Name x p2] X.env := by rfl) (he2 : starEach [.Name x p2] X.env = (false, eval (.Name x p2) X.env) :: starEach [] X.env := by rfl) (hpl : (backTo pos (starEach [.Name x p2] X.env)).any (·.1) = false := by rfl) :
    PE X (.Call (.Name "isinstance" p) [a, .Name x p2] [] pos) (tM X W (mB (dIsi T) [u])) := by
  refine peImp (pe_callB call_isi hg hm (by decide +kernel) (pa_cons ha (pa_cons (pe_bltn (v := .ty T) hgT hmT hv rfl hn hdb) pa_nil he2) he) (by decide) (by decide) he hpl) fun σ H Q h => ?_
  have hM : Meets X.K (fun xs H Q => ∃ x t, xs = [x] ∧ TyX X.K H x (.type t) ∧ ∃ b, kitB t T = some b ∧ Q (.bl b) H) (dIsi T) := by
    intro M H ds vs d Q tr p h q
    unfold dIsi at h
    split at h
    · rename_i d0
      obtain ⟨b, hb, e⟩ := Option.map_eq_some_iff.mp h
      subst e
      obtain ⟨x, rfl, hx⟩ := pair1 p
      exact ⟨x, _, rfl, ty_rel hx, b, hb, q _ nobody _ (.same (by unfold Rel; rfl))⟩
    · cases h
  have := mB_read hM h
  refine tOpnd_mono (W := W) this fun x H1 q => ?_
  obtain ⟨x', t, e, ty, b, hb, q⟩ := q
  cases e
  exact ⟨x, .ty T, .type t, .type T, b, rfl, .ty T, ty, kit_ty hb, q⟩
end
end Ow

set_option Elab.async false
set_option autoImplicit false
set_option linter.all false
set_option maxRecDepth 100000
/-! Ow, part 16: repr; reversed, range as lists; a tuple some times. -/
namespace Ow
open PySem PySem.Spec PyProof.Rows L2

/-! ### repr -/
mutual
theorem noDct_py : ∀ d : D, noDct d = true → (py d).hasDict = false
  | .non, _ => by unfold py; rfl
  | .bl _, _ => by unfold py; rfl
  | .int _, _ => by unfold py; rfl
  | .str _, _ => by unfold py; rfl
  | .tup l, h => by unfold noDct at h; unfold py; unfold PyData.hasDict; exact noDct_pys l h
  | .far l, h => by unfold noDct at h; unfold py; unfold PyData.hasDict; exact noDct_pys l h
  | .lst _ l, h => by unfold noDct at h; unfold py; unfold PyData.hasDict; exact noDct_pys l h
  | .dct _ _, h => by unfold noDct at h; cases h
theorem noDct_pys : ∀ l : List D, noDcts l = true → PyData.hasDictAll (pys l) = false
  | [], _ => by unfold pys; rfl
  | d :: l, h => by
    unfold noDcts at h
    rw [Bool.and_eq_true] at h
    unfold pys PyData.hasDictAll
    rw [noDct_py d h.1, noDct_pys l h.2]
    rfl
end
def isRefD : D → Bool
  | .tup _ => true
  | .far _ => true
  | .lst _ _ => true
  | _ => false
/-- repr of a list, a tuple -/
def dRepr : List D → Option D
  | [d] => if isRefD d && noDct d && (py d).showable && decide ((py d).depth ≤ 120) && decide ((py d).shown.length ≤ 16777216) then some (.str (py d).shown) else none
  | _ => none
section
variable {X : Cx} {W : WX} {K : PySem.W.Frag} {M : Own} {H : Hp} {d : D} {v : V} {a : Expr} {es : List Expr} {u : Ar} {us : List Ar} {p p2 pos pos2 : Pos}
def rRepr (K : PySem.W.Frag) : List V → Hp → VK → Prop := fun xs H Q => ∃ b d, xs = [.ref b] ∧ Dp K H (.ref b) d ∧ d.showable = true ∧ d.hasDict = false ∧ d.depth ≤ 120 ∧ d.shown.length ≤ sizeLine ∧ Q (.str d.shown) H
theorem call_reprD {k : Nat} (hr : Room k X.A) (hgd : X.A.guards = some []) : CallR X (.builtin "repr") (rRepr X.K) := by
  intro pins s σ H xs us Q I r h
  obtain ⟨b, d, rfl, hd, h1, h2, h3, h4, q⟩ := h
  obtain ⟨u, rfl, ru⟩ := vals1 r
  cases (show u = Value.ref b from ru)
  obtain ⟨as, rd⟩ := Dp.reads I d _ _ hd (show RelV (.ref b) (.ref b) from rfl)
  refine repr_of_reads' rd h1 (PyData.noDict_hsm h2) hgd (by have := hr.un; omega) (fun _ _ e => e) (fun h' u tk hk => ?_) h4
  exact ⟨.str d.shown, H, I.kept (t' := tk) hk, ⟨u, rfl⟩, q⟩
theorem meets_repr : Meets K (rRepr K) dRepr := by
  intro M H ds vs d Q tr p h q
  unfold dRepr at h
  split at h
  · rename_i d0
    split at h
    · rename_i z
      cases h
      simp only [Bool.and_eq_true, decide_eq_true_eq] at z
      obtain ⟨⟨⟨⟨z1, z2⟩, z3⟩, z4⟩, z5⟩ := z
      obtain ⟨x, rfl, P, hx⟩ := pair1 p
      have hd := Rel.dp z2 hx
      have : ∃ b, x = .ref b := by
        cases d0 with
        | tup l => unfold Rel at hx; obtain ⟨b, _, e, _⟩ := hx; exact ⟨b, e⟩
        | far l => unfold Rel at hx; obtain ⟨b, _, e, _⟩ := hx; exact ⟨b, e⟩
        | lst o l => obtain ⟨b, _, _, e, _⟩ := any_lst ⟨P, hx⟩; exact ⟨b, e⟩
        | _ => cases z1
      obtain ⟨b, rfl⟩ := this
      exact ⟨b, _, rfl, hd, z3, noDct_py _ z2, z4, le_line z5, q _ nobody _ (.same (by unfold Rel; rfl))⟩
    · cases h
  · cases h
theorem oRepr {k : Nat} (hr : Room k X.A) (hgd : X.A.guards = some []) (hm : X.mg "repr" = none) (ha : PAs X W [a] [u]) (hg : Gl X "repr" := by rfl)
    (he : starEach [a] X.env = (false, eval a X.env) :: starEach [] X.env := by rfl) (hpl : (backTo pos (starEach [] X.env)).any (·.1) = false := by rfl) :
    PE X (.Call (.Name "repr" p) [a] [] pos) (tM X W (mB dRepr [u])) :=
  peImp (pe_callB (call_reprD hr hgd) hg hm (by decide +kernel) ha (by decide) (by decide) he hpl) fun _ _ _ h => mB_read meets_repr h

/-! ### tuple(reversed(list)), list(reversed(list)) -/
def dTupRev : List D → Option D
  | [d] => (lstD d).bind fun l => some (.tup l.reverse)
  | _ => none
def dLstRev : List D → Option D
  | [d] => (lstD d).bind fun l => some (.lst true l.reverse)
  | _ => none
theorem Rels.rev {l : List D} {vs : List V} (r : Rels K M H l vs nobodies) : Rels K M H l.reverse vs.reverse nobodies := by
  induction l generalizing vs with
  | nil => unfold Rels at r; subst r; unfold Rels; rfl
  | cons x l ih =>
    unfold Rels at r
    obtain ⟨u, rs, rfl, h1, h2⟩ := r
    rw [List.reverse_cons, List.reverse_cons]
    exact (ih h2).snoc h1
def rTupRev (K : PySem.W.Frag) : List V → Hp → VK → Prop := fun vs H Q => ∃ a xs, vs = [.ref a] ∧ SqL K H a xs ∧ ∀ q, H q = none → Q (.ref q) (upd H q (.tup xs.reverse))
def rLstRev (K : PySem.W.Frag) : List V → Hp → VK → Prop := fun vs H Q => ∃ a xs, vs = [.ref a] ∧ SqL K H a xs ∧ ∀ q, H q = none → Q (.ref q) (upd H q (.lst xs.reverse))
theorem meets_tupRev : Meets K (rTupRev K) dTupRev := by
  intro M H ds vs d Q tr p h q
  unfold dTupRev at h
  split at h
  · obtain ⟨l, e1, h⟩ := Option.bind_eq_some_iff.mp h
    cases h
    obtain ⟨x, rfl, hx⟩ := pair1 p
    obtain ⟨a, xs, rfl, h2, r⟩ := isL_rel hx (lstD_is e1)
    exact ⟨a, xs, rfl, h2, fun c hc => q _ _ _ (new_tup tr hc r.rev)⟩
  · cases h
theorem meets_lstRev : Meets K (rLstRev K) dLstRev := by
  intro M H ds vs d Q tr p h q
  unfold dLstRev at h
  split at h
  · obtain ⟨l, e1, h⟩ := Option.bind_eq_some_iff.mp h
    cases h
    obtain ⟨x, rfl, hx⟩ := pair1 p
    obtain ⟨a, xs, rfl, h2, r⟩ := isL_rel hx (lstD_is e1)
    exact ⟨a, xs, rfl, h2, fun c hc => q _ _ _ (new_lst tr hc r.rev)⟩
  · cases h
theorem oTupRev (hc : X.calm = true) (hm : X.mg "tuple" = none) (hm2 : X.mg "reversed" = none) (ha : PO1 X W a u) (hg : Gl X "tuple" := by rfl) (hg2 : Gl X "reversed" := by rfl) (hs : starEach [a] X.env = (false, eval a X.env) :: starEach [] X.env := by rfl)
    (hs2 : starEach [.Call (.Name "reversed" p2) [a] [] pos2] X.env = (false, eval (.Call (.Name "reversed" p2) [a] [] pos2) X.env) :: starEach [] X.env := by rfl) :
    PE X (.Call (.Name "tuple" p) [.Call (.Name "reversed" p2) [a] [] pos2] [] pos) (tM X W (mB dTupRev [u])) :=
  peImp (RT.pe_tupRev hc hg hm hg2 hm2 ha hs hs2) fun σ H Q h => by
    refine tOpnd_mono (W := W) (mB_read meets_tupRev h) fun x H1 q => ?_
    obtain ⟨b, xs, e, h1, h2⟩ := q
    cases e
    exact ⟨b, xs, rfl, h1, h2⟩
end

/-! ### list(reversed(list)), by the machine -/
section
variable {prog : Program} {w : World} {A : Around} {E : Value → Shared → Prop} {s : Shared}
theorem extend_rev {R : Result → Shared → Prop} {it l : Addr} {items : Array Value} (hh : A.handled = none) (S : Addr) (res : Value) (c₀ : Nat) (hS : s.heap.get? S = some { cls := .type "list", data := .seq #[] c₀ })
    (hit : s.heap.IsRevIter it l ((items.size : Int) - 1)) (hl : s.heap.IsList l items) (hne : l ≠ it) (hSi : S ≠ it) (hSl : S ≠ l) (hn : items.size ≤ sizeLine)
    (hR : ∀ h' tk acc' c', (∀ b o, b ≠ S → b ≠ it → s.heap.get? b = some o → h'.get? b = some o) → h'.get? S = some { cls := .type "list", dict := none, data := .seq acc' c', slots := #[] } →
      ItemsOf (fun i v => items[items.size - 1 - i]? = some v) acc' items.size → R (.ok (.ret res)) { s with heap := h', toks := tk }) :
    wpAny (model prog w) A.in1 (Builtin.List.listExtendWith (.ref S) (.ref it) res)
      (fun fin s' => match fin with | .done f => R (.ok f) s' | .again c' => c'.quiet = true ∧ codeAny (model prog w) A c' R s') (fun e s' => R (.error e) s') s := by
  have W := (Walks.listRev (prog := prog) (w := w) (A := A.in1) hh it l hne items).toS
  have hSf : S ∉ [it, l] := by simp only [List.mem_cons, List.not_mem_nil, or_false, not_or]; exact ⟨hSi, hSl⟩
  have hT : s.TypeIs (.ref it) "list_reverseiterator" := hit.typeIs
  have h1 : Builtin.List.listSameRef (.ref S) (.ref it) = false := by simp [Builtin.List.listSameRef, hSi]
  unfold Builtin.List.listExtendWith
  refine wpAny_bind (wpAny_typeOf hT ?_)
  rw [if_neg (by rw [h1]; decide)]
  refine wpAny_bind (wpAny_pyIter_revIter hit ?_)
  refine wpAny_bind (wpAny_holding ?_)
  unfold Builtin.List.listLengthHint
  refine wpAny_bind (wpAny_specialOf hT RT.nolen_lri ?_)
  show wpAny _ A.in1 (specialOf (Value.ref it) (Str.ofString "__length_hint__") >>= _) _ _ _
  refine wpAny_bind (wpAny_specialOf hT RT.hint_lri ?_)
  generalize hid : ("list_reverseiterator.__length_hint__" : String) = id0
  wp_delta
  rw [show splitId id0 = some ("list_reverseiterator", "__length_hint__") from by subst hid; decide +kernel]
  subst hid
  refine wpAny_bind (wpAny_isInstance (b := true) hT (by rw [isSubtype_type]; kernel_rfl) ?_)
  refine wpAny_pure ?_
  rw [if_neg (by decide)]
  have e0 : ((items.size : Nat) : Int) - 1 - ((0 : Nat) : Int) = (items.size : Int) - 1 := by omega
  refine wpAny_pure ⟨plainId_quiet F.plain_extend_loop _, codeAny_extend_loopS W hn _ hSf _ items.size 0 _ _ _ rfl (Nat.zero_le _) ⟨Nat.zero_le _, by rw [e0]; exact hit, hl⟩ hS (ItemsOf.nil _) fun s' acc' c' hm hS' hacc => ?_⟩
  rw [Moved.eq_with hm]
  refine hR s'.heap s'.toks acc' c' (fun b o hb hb2 e => hm.heap b o (fun hmem => ?_) e) hS' hacc
  rcases List.mem_cons.mp hmem with e' | hmem
  · exact hb e'
  · exact hb2 (List.mem_singleton.mp hmem)
theorem list_init_rev {R : Result → Shared → Prop} {it l : Addr} {items : Array Value} (hh : A.handled = none) (S : Addr) (hS : s.heap.get? S = some { cls := .type "list", data := .seq #[] })
    (hit : s.heap.IsRevIter it l ((items.size : Int) - 1)) (hl : s.heap.IsList l items) (hne : l ≠ it) (hSi : S ≠ it) (hSl : S ≠ l) (hn : items.size ≤ sizeLine)
    (hR : ∀ h' tk acc' c', (∀ b o, b ≠ S → b ≠ it → s.heap.get? b = some o → h'.get? b = some o) → h'.get? S = some { cls := .type "list", dict := none, data := .seq acc' c', slots := #[] } →
      ItemsOf (fun i v => items[items.size - 1 - i]? = some v) acc' items.size → R (.ok (.ret .none)) { s with heap := h', toks := tk }) :
    wpAny (model prog w) A.in1 (Builtin.«list.__init__» ⟨[.ref S, .ref it], []⟩)
      (fun fin s' => match fin with | .done f => R (.ok f) s' | .again c' => c'.quiet = true ∧ codeAny (model prog w) A c' R s') (fun e s' => R (.error e) s') s := by
  show wpAny _ _ (do let old ← Builtin.List.listItems (.ref S); Builtin.List.listUpdate (.ref S) (fun _ => #[]); letGo old.toList.reverse; Builtin.List.listExtendWith (.ref S) (.ref it) .none) _ _ s
  refine wpAny_bind ?_
  unfold Builtin.List.listItems
  refine wpAny_bind (wpAny_seqItems hS rfl (wpAny_pure ?_))
  show wpAny _ _ (updateSeq S (fun _ => #[]) >>= fun _ => letGo (#[] : Array Value).toList.reverse >>= fun _ => Builtin.List.listExtendWith (.ref S) (.ref it) .none) _ _ s
  refine wpAny_bind (wpAny_updateSeq hS rfl ?_)
  have hS₂ := Heap.get?_update_self (Obj.mapSeq (fun _ => (#[] : Array Value))) hS rfl
  have oth : ∀ b o, b ≠ S → s.heap.get? b = some o → (s.heap.update S (Obj.mapSeq (fun _ => (#[] : Array Value)))).get? b = some o :=
    fun b o hb e => (Heap.get?_update_other _ _ (Ne.symm hb)).trans e
  refine wpAny_bind (wpAny_letGo ?_)
  refine extend_rev hh S .none _ hS₂ (hit.at fun o e => oth it o (Ne.symm hSi) e) ?_ hne hSi hSl hn fun h' tk acc' c' hk hS' hacc => ?_
  · obtain ⟨o, h1, h2⟩ := hl
    exact ⟨o, oth l o (Ne.symm hSl) h1, h2⟩
  · exact hR h' tk acc' c' (fun b o hb hb2 e => hk b o hb hb2 (oth b o hb e)) hS' hacc
theorem call_list_rev {it l : Addr} {items : Array Value} {Q : Value → Shared → Prop} (hh : A.handled = none) (hit : s.heap.IsRevIter it l ((items.size : Int) - 1)) (hl : s.heap.IsList l items) (hne : l ≠ it) (hn : items.size ≤ sizeLine)
    (hQ : ∀ h' tk acc' c', (∀ b o, b ≠ it → s.heap.get? b = some o → h'.get? b = some o) →
      h'.get? s.heap.objs.size = some { cls := .type "list", dict := none, data := .seq acc' c', slots := #[] } → ItemsOf (fun i v => items[items.size - 1 - i]? = some v) acc' items.size → Q (.ref s.heap.objs.size) { s with heap := h', toks := tk }) :
    wpAny (model prog w) A (call (.type "list") [.ref it]) Q E s := by
  refine callType_codes (Q₁ := fun obj s₁ => obj = .ref s.heap.objs.size ∧ s₁ = { s with heap := s.heap.push { cls := .type "list", data := .seq #[] } }) F.called_list (F.typeCall_list_1 _) F.entry_list_init
    (code_list_new _ ⟨rfl, rfl⟩) fun obj s₁ h₁ => ?_
  obtain ⟨rfl, rfl⟩ := h₁
  have hS : (s.heap.push { cls := .type "list", data := .seq #[] }).get? s.heap.objs.size = some { cls := .type "list", data := .seq #[] } := Heap.get?_push_size _ rfl
  obtain ⟨oi, hoi, _⟩ := id hit
  obtain ⟨ol, hol, _⟩ := id hl
  refine ⟨⟨_, hS, rfl⟩, F.args_list_init_2 _ _, list_init_rev (A := A.in1) hh _ hS (hit.at fun o e => Heap.get?_push_of_some _ e) (hl.push _) hne (Nat.ne_of_gt (Heap.lt_size hoi)) (Nat.ne_of_gt (Heap.lt_size hol)) hn fun h' tk acc' c' hk hS' hacc => ?_⟩
  exact ⟨rfl, hQ h' tk acc' c' (fun b o hb e => hk b o (Nat.ne_of_lt (Heap.lt_size e)) hb (Heap.get?_push_of_some _ e)) hS' hacc⟩
end
section
variable {X : Cx} {W : WX} {a : Expr} {u : Ar} {p p2 pos pos2 : Pos}
theorem pe_listRev {e : Expr} {te : TE} (hc : X.calm = true) (hg : Gl X "list") (hm : X.mg "list" = none) (hg2 : Gl X "reversed") (hm2 : X.mg "reversed" = none) (he : PE X e te)
    (hs : starEach [e] X.env = (false, eval e X.env) :: starEach [] X.env := by rfl)
    (hs2 : starEach [.Call (.Name "reversed" p2) [e] [] pos2] X.env = (false, eval (.Call (.Name "reversed" p2) [e] [] pos2) X.env) :: starEach [] X.env := by rfl) :
    PE X (.Call (.Name "list" p) [.Call (.Name "reversed" p2) [e] [] pos2] [] pos) (fun σ H Q => te σ H fun v H1 => ∃ (a : Addr) (xs : List V), v = .ref a ∧ SqL X.K H1 a xs ∧ ∀ q, H1 q = none → Q (.ref q) (upd H1 q (.lst xs.reverse))) := by
  refine ⟨fun pins s σ H Q I h => ?_⟩
  refine Call_ (ld_blt I hg hm boot_list (PyProof.Rows.callWith_type1 (args_cons (Call_ (ld_blt I hg2 hm2 PyProof.Rows.boot_reversed (PyProof.Rows.callWith_type1 (args_cons (thn (he.run pins s σ H _ I h) fun u s1 ⟨v, H1, I1, r1, q1⟩ => args_nil ?_) hs) hs rfl))) hs2) hs2 rfl))
  obtain ⟨a, xs, ev, hq, q⟩ := q1
  subst ev
  obtain rfl : u = Value.ref a := r1
  obtain ⟨its, rv, p', hz⟩ := I1.list hq
  refine call_reversed_list p'.isList (args_nil ?_)
  have k0 : ∀ b o, s1.heap.get? b = some o → (s1.heap.push (revObj a ((its.toArray.size : Int) - 1))).get? b = some o := fun b o e => Heap.get?_push_of_some _ e
  have I2 : Inv X pins σ H1 { s1 with heap := s1.heap.push (revObj a ((its.toArray.size : Int) - 1)) } := I1.kept (t' := s1.toks) k0
  have ff := I1.fpOk (H' := H1) (b := s1.heap.objs.size) (Nat.le_refl _) (I1.hok.fresh (Nat.le_refl _))
  have hl := p'.isList
  obtain ⟨ol, hol, _⟩ := id hl
  have hne : a ≠ s1.heap.objs.size := Nat.ne_of_lt (Heap.lt_size hol)
  have hn : its.toArray.size ≤ sizeLine := by rw [List.size_toArray, ← rv.length]; exact hz
  refine call_list_rev (s := { s1 with heap := s1.heap.push (revObj a ((its.toArray.size : Int) - 1)) }) (I1.ok.hd hc) ⟨_, Heap.get?_push_size _ rfl, rfl, rfl⟩ (hl.push _) hne hn fun h' tk acc c' hk e' hi => ?_
  refine ⟨.ref _, upd H1 (s1.heap.push (revObj a ((its.toArray.size : Int) - 1))).objs.size (.lst xs.reverse), I2.turnedNew (t' := tk) (ch := [s1.heap.objs.size]) (fun b o hb e => hk b o (by simpa using hb) e) (fun b hb => ?_) (Nat.le_refl _) ?_, rfl, q _ (I2.hok.fresh (Nat.le_refl _))⟩
  · have : b = s1.heap.objs.size := by simpa using hb
    subst this
    exact ff
  · exact ⟨by rw [List.length_reverse]; exact hz, acc.toList, c', RT.vals_rev rv hi, by rw [Array.toArray_toList]; exact e'⟩
theorem oLstRev (hc : X.calm = true) (hm : X.mg "list" = none) (hm2 : X.mg "reversed" = none) (ha : PO1 X W a u) (hg : Gl X "list" := by rfl) (hg2 : Gl X "reversed" := by rfl) (hs : starEach [a] X.env = (false, eval a X.env) :: starEach [] X.env := by rfl)
    (hs2 : starEach [.Call (.Name "reversed" p2) [a] [] pos2] X.env = (false, eval (.Call (.Name "reversed" p2) [a] [] pos2) X.env) :: starEach [] X.env := by rfl) :
    PE X (.Call (.Name "list" p) [.Call (.Name "reversed" p2) [a] [] pos2] [] pos) (tM X W (mB dLstRev [u])) :=
  peImp (pe_listRev hc hg hm hg2 hm2 ha hs hs2) fun σ H Q h => by
    refine tOpnd_mono (W := W) (mB_read meets_lstRev h) fun x H1 q => ?_
    obtain ⟨b, xs, e, h1, h2⟩ := q
    cases e
    exact ⟨b, xs, rfl, h1, h2⟩
end

/-! ### list(range(..)) -/
def rgD (a b : Int) : List D := (List.range (b - a).toNat).map fun i => .int (a + (i : Nat))
def rgOk (a b : Int) : Bool := sml a && sml b && decide ((b - a).toNat ≤ 16777216)
def dLstRg1 : List D → Option D
  | [.int n] => if rgOk 0 n then some (.lst true (rgD 0 n)) else none
  | _ => none
def dLstRg2 : List D → Option D
  | [.int a, .int b] => if rgOk a b then some (.lst true (rgD a b)) else none
  | _ => none
def dTupRg1 : List D → Option D
  | [.int n] => if rgOk 0 n then some (.tup (rgD 0 n)) else none
  | _ => none
section
variable {X : Cx} {W : WX} {K : PySem.W.Frag} {M : Own} {H : Hp} {a b : Expr} {u w : Ar} {p p2 pos pos2 : Pos}
theorem rgOk_of {a b : Int} (h : rgOk a b = true) : RgOk a b := by
  unfold rgOk at h
  simp only [Bool.and_eq_true, decide_eq_true_eq] at h
  obtain ⟨⟨h1, h2⟩, h3⟩ := h
  obtain ⟨z1, z2⟩ := sml_iff h1
  obtain ⟨z3, z4⟩ := sml_iff h2
  exact ⟨z1, z2, z3, z4, by omega⟩
theorem rg_rels (a b : Int) : Rels K M H (rgD a b) (rgV a b) nobodies := by
  unfold rgD rgV
  have := rels_of_ints (K := K) (M := M) (H := H) ((List.range (b - a).toNat).map fun i => a + (i : Nat))
  simpa [List.map_map, Function.comp_def] using this
theorem oLstRg1 (hc : X.calm = true) (hm : X.mg "list" = none) (hm2 : X.mg "range" = none) (ha : PO1 X W a u) (hg : Gl X "list" := by rfl) (hg2 : Gl X "range" := by rfl) (na : starEach [a] X.env = (false, eval a X.env) :: starEach [] X.env := by rfl)
    (nb : starEach [.Call (.Name "range" p2) [a] [] pos2] X.env = (false, eval (.Call (.Name "range" p2) [a] [] pos2) X.env) :: starEach [] X.env := by rfl) :
    PE X (.Call (.Name "list" p) [.Call (.Name "range" p2) [a] [] pos2] [] pos) (tM X W (mB dLstRg1 [u])) :=
  peImp (pe_listRg hc hg hm (prg_1 hg2 hm2 ha na) nb) fun σ H Q h => by
    have hM : Meets X.K (fun xs H Q => ∃ n, xs = [.int n] ∧ RgOk 0 n ∧ ∀ q, H q = none → Q (.ref q) (upd H q (.lst (rgV 0 n)))) dLstRg1 := by
      intro M H ds vs d Q tr p h q
      unfold dLstRg1 at h
      split at h
      · split at h
        · rename_i z
          cases h
          obtain ⟨x, rfl, hx⟩ := pair1 p
          have := int_rel hx
          subst this
          exact ⟨_, rfl, rgOk_of z, fun c hc => q _ _ _ (new_lst tr hc (rg_rels _ _))⟩
        · cases h
      · cases h
    refine tOpnd_mono (W := W) (mB_read hM h) fun x H1 q => ?_
    obtain ⟨n, e, h1, h2⟩ := q
    cases e
    exact ⟨n, rfl, h1, h2⟩
theorem oTupRg1 (hc : X.calm = true) (hm : X.mg "tuple" = none) (hm2 : X.mg "range" = none) (ha : PO1 X W a u) (hg : Gl X "tuple" := by rfl) (hg2 : Gl X "range" := by rfl) (na : starEach [a] X.env = (false, eval a X.env) :: starEach [] X.env := by rfl)
    (nb : starEach [.Call (.Name "range" p2) [a] [] pos2] X.env = (false, eval (.Call (.Name "range" p2) [a] [] pos2) X.env) :: starEach [] X.env := by rfl) :
    PE X (.Call (.Name "tuple" p) [.Call (.Name "range" p2) [a] [] pos2] [] pos) (tM X W (mB dTupRg1 [u])) :=
  peImp (pe_tupRg hc hg hm (prg_1 hg2 hm2 ha na) nb) fun σ H Q h => by
    have hM : Meets X.K (fun xs H Q => ∃ n, xs = [.int n] ∧ RgOk 0 n ∧ ∀ q, H q = none → Q (.ref q) (upd H q (.tup (rgV 0 n)))) dTupRg1 := by
      intro M H ds vs d Q tr p h q
      unfold dTupRg1 at h
      split at h
      · split at h
        · rename_i z
          cases h
          obtain ⟨x, rfl, hx⟩ := pair1 p
          have := int_rel hx
          subst this
          exact ⟨_, rfl, rgOk_of z, fun c hc => q _ _ _ (new_tup tr hc (rg_rels _ _))⟩
        · cases h
      · cases h
    refine tOpnd_mono (W := W) (mB_read hM h) fun x H1 q => ?_
    obtain ⟨n, e, h1, h2⟩ := q
    cases e
    exact ⟨n, rfl, h1, h2⟩
theorem oLstRg2 (hc : X.calm = true) (hm : X.mg "list" = none) (hm2 : X.mg "range" = none) (ha : PO1 X W a u) (hb : PO1 X W b w) (hg : Gl X "list" := by rfl) (hg2 : Gl X "range" := by rfl) (na : starEach [a, b] X.env = (false, eval a X.env) :: starEach [b] X.env := by rfl)
    (nc : starEach [b] X.env = (false, eval b X.env) :: starEach [] X.env := by rfl) (hp : (backTo pos2 (starEach [b] X.env)).any (·.1) = false := by rfl)
    (nb : starEach [.Call (.Name "range" p2) [a, b] [] pos2] X.env = (false, eval (.Call (.Name "range" p2) [a, b] [] pos2) X.env) :: starEach [] X.env := by rfl) :
    PE X (.Call (.Name "list" p) [.Call (.Name "range" p2) [a, b] [] pos2] [] pos) (tM X W (mB dLstRg2 [u, w])) :=
  peImp (pe_listRg hc hg hm (prg_2 hg2 hm2 ha hb na nc hp) nb) fun σ H Q h => by
    have hM : Meets X.K (fun xs H Q => ∃ i j, xs = [.int i, .int j] ∧ RgOk i j ∧ ∀ q, H q = none → Q (.ref q) (upd H q (.lst (rgV i j)))) dLstRg2 := by
      intro M H ds vs d Q tr p h q
      unfold dLstRg2 at h
      split at h
      · split at h
        · rename_i z
          cases h
          obtain ⟨x, y, rfl, hx, hy⟩ := pair2 p
          have := int_rel hx
          subst this
          have := int_rel hy
          subst this
          exact ⟨_, _, rfl, rgOk_of z, fun c hc => q _ _ _ (new_lst tr hc (rg_rels _ _))⟩
        · cases h
      · cases h
    refine tOpnd_mono (W := W) (mB_read hM h) fun x H1 q => ?_
    refine tOpnd_mono (W := W) q fun y H2 q => ?_
    obtain ⟨i, j, e, h1, h2⟩ := q
    cases e
    exact ⟨i, j, rfl, rfl, h1, h2⟩
end

end Ow

set_option Elab.async false
set_option autoImplicit false
set_option linter.all false
set_option maxRecDepth 100000
/-! Ow, part 17: a tuple any number of times. -/
namespace Ow
open PySem PySem.Spec PyProof.Rows L2

theorem tuple_mul1 (l : Addr) (items : Array Value) (n : Nat) (dd : Option Addr) (sl : Array (Option Value)) (u : Tok) :
    PySem.Meets (Builtin.«tuple.__mul__» ⟨[.ref l, .int 1 u], []⟩) (fun _ R s => s.heap.get? l = some { cls := .type "tuple", dict := dd, data := .seq items n, slots := sl } ∧ R (.ok (.ret (Value.ref l))) s) :=
  .of_wp fun prog w A R s h => by
    obtain ⟨hp, g, d, tk, os⟩ := s
    obtain ⟨hl, h⟩ := h
    have f1 := AutoSeq1.idx_int
    wp_walk using wpAny_loadPart' hl
    exact ⟨_, rfl, h⟩
theorem tuple_mul0 (l : Addr) (items : Array Value) (n : Nat) (dd : Option Addr) (sl : Array (Option Value)) (x : Int) (u : Tok) (c0 : (decide (x < -(2 ^ 63)) || decide (x ≥ 2 ^ 63)) = false) (c1 : (items.isEmpty || x == 1) = false) (c2 : (decide (x ≤ 0) || items.isEmpty) = true) :
    PySem.Meets (Builtin.«tuple.__mul__» ⟨[.ref l, .int x u], []⟩) (fun _ R s => s.heap.get? l = some { cls := .type "tuple", dict := dd, data := .seq items n, slots := sl } ∧
      R (.ok (.ret (Value.ref s.heap.objs.size))) { s with heap := s.heap.push { cls := Value.type "tuple", data := Data.seq #[] }, toks := s.toks }) :=
  .of_wp fun prog w A R s h => by
    obtain ⟨hp, g, d, tk, os⟩ := s
    obtain ⟨hl, h⟩ := h
    have f1 := AutoSeq1.idx_int
    wp_walk using wpAny_loadPart' hl
    repeat (first
      | (refine wpAny_ite_false (decide_eq_false (by rw [c0]; exact Bool.false_ne_true)) ?_; wp_walk using wpAny_loadPart' hl)
      | (refine wpAny_ite_false (decide_eq_false (by rw [c1]; exact Bool.false_ne_true)) ?_; wp_walk using wpAny_loadPart' hl)
      | (refine wpAny_ite_true (decide_eq_true c2) ?_; wp_walk using wpAny_loadPart' hl))
    exact ⟨_, rfl, h⟩
def rMulT (K : PySem.W.Frag) : R2 := fun x y H Q => ∃ l k xs, x = .ref l ∧ y = .int k ∧ SqT K H l xs ∧ xs ≠ [] ∧ -1000 ≤ k ∧ k ≤ 1000 ∧ xs.length ≤ 1000 ∧ ((k = 1 ∧ Q (.ref l) H) ∨ (k ≠ 1 ∧ ∀ p, H p = none → Q (.ref p) (upd H p (.tup (List.replicate k.toNat xs).flatten))))
section
variable {X : Cx}
theorem op_mulT : OpR X (binaryOp .Mult) (rMulT X.K) := by
  intro pins s σ H x y v u Q I rx ry h
  obtain ⟨l, k, xs, e1, e2, hT, hne, h0, h2, hz, hq⟩ := h
  by_cases big : 2 ≤ k
  · rcases hq with ⟨e, _⟩ | ⟨_, q⟩
    · omega
    · exact op_repT pins s σ H x y v u Q I rx ry ⟨l, k, xs, e1, e2, hT, hne, big, h2, hz, q⟩
  · subst e1 e2
    cases rx
    obtain ⟨t, rfl⟩ := ry
    obtain ⟨its, r, ⟨⟨cls, dd, data, sl⟩, ho, hc, n, hd⟩, hs⟩ := I.tuple hT
    simp only at hc hd
    subst hc hd
    have hle : its.length = xs.length := r.length.symm
    have hi : its.toArray.isEmpty = false := by
      cases its with
      | nil => exact absurd (List.eq_nil_of_length_eq_zero hle.symm) hne
      | cons a b => rfl
    rcases hq with ⟨e, q⟩ | ⟨ne1, q⟩
    · subst e
      exact wpAny_binaryOp_repeat_ref (T := "tuple") (U := "int") (by decide) ⟨_, ho, rfl⟩ (fun s' => typeIs_int s' 1 t) noFill_tuple_mul F.fills_int_mul F.slot_int_rmul repeat_tuple F.slot_int_index.lookup
        (call_meets F.slot_int_rmul (typeIs_int s 1 t) F.entry_int_rmul (F.args_int_rmul_2 _ _) (int_rmul_tuple 1 t l its.toArray n dd sl)
          ⟨ho, rfl, ⟨_, ho, rfl⟩, call_meets F.slot_tuple_mul ⟨_, ho, rfl⟩ F.entry_tuple_mul (F.args_tuple_mul_2 _ _) (tuple_mul1 l its.toArray n dd sl t) ⟨ho, .ref l, H, I, rfl, q⟩⟩)
    · have k0 : k ≤ 0 := by omega
      have c0 : (decide (k < -(2 ^ 63)) || decide (k ≥ 2 ^ 63)) = false := by
        rw [decide_eq_false (by omega), decide_eq_false (by omega)] <;> rfl
      have c1 : (its.toArray.isEmpty || k == 1) = false := by
        rw [hi, Bool.false_or]
        exact beq_eq_false_iff_ne.mpr ne1
      have c2 : (decide (k ≤ 0) || its.toArray.isEmpty) = true := by rw [decide_eq_true k0]; rfl
      refine wpAny_binaryOp_repeat_ref (T := "tuple") (U := "int") (by decide) ⟨_, ho, rfl⟩ (fun s' => typeIs_int s' k t) noFill_tuple_mul F.fills_int_mul F.slot_int_rmul repeat_tuple F.slot_int_index.lookup
        (call_meets F.slot_int_rmul (typeIs_int s k t) F.entry_int_rmul (F.args_int_rmul_2 _ _) (int_rmul_tuple k t l its.toArray n dd sl)
          ⟨ho, rfl, ⟨_, ho, rfl⟩, call_meets F.slot_tuple_mul ⟨_, ho, rfl⟩ F.entry_tuple_mul (F.args_tuple_mul_2 _ _) (tuple_mul0 l its.toArray n dd sl k t c0 c1 c2) ⟨ho, ?_⟩⟩)
      have e0 : (List.replicate k.toNat xs).flatten = [] := by
        have : k.toNat = 0 := by omega
        rw [this]; rfl
      rw [e0] at q
      refine ⟨.ref s.heap.objs.size, _, I.laid (t' := s.toks) (o := .tup []) (fun b ob q => Heap.get?_push_of_some _ q) (Nat.le_refl _) ?_, rfl, q _ (I.hok.fresh (Nat.le_refl _))⟩
      exact ⟨Nat.zero_le _, [], .nil, IsTup.new _ _⟩
end
def dMulT : List D → Option D
  | [.tup l, .int k] => if l.isEmpty || decide (k < -1000) || decide (k > 1000) || decide (l.length > 1000) then none else some (.tup (List.replicate k.toNat l).flatten)
  | _ => none
section
variable {K : PySem.W.Frag} {M : Own} {H : Hp}
theorem meets_mulT : Meets K (r2 (rMulT K)) dMulT := by
  intro M H ds vs d Q tr p h q
  unfold dMulT at h
  split at h
  · rename_i l k
    split at h
    · cases h
    · rename_i z
      cases h
      simp only [Bool.or_eq_true, decide_eq_true_eq, not_or] at z
      obtain ⟨⟨⟨z1, z2⟩, z3⟩, z4⟩ := z
      obtain ⟨x, y, rfl, hx, hy⟩ := pair2 p
      have := int_rel hy
      subst this
      have hx' := hx
      obtain ⟨a, xs, rfl, h2, r⟩ := tup_rel hx
      have hl := r.len
      refine ⟨_, _, rfl, a, k, xs, rfl, rfl, h2, fun e => z1 (by subst e; cases l <;> simp at hl ⊢), by omega, by omega, by omega, ?_⟩
      by_cases e1 : k = 1
      · subst e1
        refine .inl ⟨rfl, q _ nobody _ (.same ?_)⟩
        have : (List.replicate (Int.toNat 1) l).flatten = l := by simp [List.replicate_succ]
        rw [this]
        obtain ⟨P, hx'⟩ := hx'
        unfold Rel at hx' ⊢
        exact hx'
      · exact .inr ⟨e1, fun c hc => q _ _ _ (new_tup tr hc (r.rep _))⟩
  · cases h
end

/-! ### every product -/
def dMulA : List D → Option D
  | [.tup l, .int k] => dMulT [.tup l, .int k]
  | ds => dMul ds
theorem op_mulZ {X : Cx} : OpR X (binaryOp .Mult) (fun x y H Q => rMul X.K x y H Q ∨ rMulT X.K x y H Q) := op_mulA.or op_mulT
theorem meets_mulA {K : PySem.W.Frag} : Meets K (r2 fun x y H Q => rMul K x y H Q ∨ rMulT K x y H Q) dMulA := by
  intro M H ds vs d Q tr p h q
  unfold dMulA at h
  split at h
  · obtain ⟨x, y, e, z⟩ := meets_mulT M H _ vs d Q tr p h q
    exact ⟨x, y, e, .inr z⟩
  · obtain ⟨x, y, e, z⟩ := meets_mul M H _ vs d Q tr p h q
    exact ⟨x, y, e, .inl z⟩

/-! ### every test of equality: ints, bools, texts of any signs; data -/
def dEqA : List D → Option D
  | [.int i, .int j] => some (.bl (decide (i = j)))
  | [.bl i, .bl j] => some (.bl (decide (i = j)))
  | [.str i, .str j] => some (.bl (decide (i = j)))
  | ds => dEq ds
def dNeA : List D → Option D
  | [.int i, .int j] => some (.bl (!decide (i = j)))
  | [.bl i, .bl j] => some (.bl (!decide (i = j)))
  | [.str i, .str j] => some (.bl (!decide (i = j)))
  | ds => dNe ds
section
variable {X : Cx} {K : PySem.W.Frag}
theorem op_eqZ (hu : X.A.units + 64 < cLine) : OpR X (compareOp .Eq) (fun x y H Q => rEqD X.K x y H Q ∨ rEq x y H Q) := (op_eqD hu).or op_eq
theorem op_neZ (hu : X.A.units + 64 < cLine) : OpR X (compareOp .NotEq) (fun x y H Q => rNeD X.K x y H Q ∨ rNe x y H Q) := (op_neD hu).or op_ne
theorem dec_eq {α β : Type} [DecidableEq α] [DecidableEq β] {f : α → β} (hf : ∀ a b, f a = f b → a = b) (a b : α) : decide (f a = f b) = decide (a = b) := by
  by_cases h : a = b
  · subst h; simp
  · rw [decide_eq_false h, decide_eq_false fun z => h (hf _ _ z)]
theorem meets_eqA : Meets K (r2 fun x y H Q => rEqD K x y H Q ∨ rEq x y H Q) dEqA := by
  intro M H ds vs d Q tr p h q
  unfold dEqA at h
  split at h
  · rename_i i j
    cases h
    obtain ⟨x, y, rfl, hx, hy⟩ := pair2 p
    rw [any_int] at hx hy
    subst hx hy
    refine ⟨_, _, rfl, .inr ⟨rfl, ?_⟩⟩
    rw [dec_eq (f := V.int) fun _ _ h => V.int.inj h]
    exact q _ nobody _ (.same (by unfold Rel; rfl))
  · rename_i i j
    cases h
    obtain ⟨x, y, rfl, hx, hy⟩ := pair2 p
    rw [any_bl] at hx hy
    subst hx hy
    refine ⟨_, _, rfl, .inr ⟨rfl, ?_⟩⟩
    rw [dec_eq (f := V.bl) fun _ _ h => V.bl.inj h]
    exact q _ nobody _ (.same (by unfold Rel; rfl))
  · rename_i i j
    cases h
    obtain ⟨x, y, rfl, hx, hy⟩ := pair2 p
    rw [any_str] at hx hy
    subst hx hy
    refine ⟨_, _, rfl, .inr ⟨rfl, ?_⟩⟩
    rw [dec_eq (f := V.str) fun _ _ h => V.str.inj h]
    exact q _ nobody _ (.same (by unfold Rel; rfl))
  · obtain ⟨x, y, e, z⟩ := meets_eq M H _ vs d Q tr p h q
    exact ⟨x, y, e, .inl z⟩
theorem meets_neA : Meets K (r2 fun x y H Q => rNeD K x y H Q ∨ rNe x y H Q) dNeA := by
  intro M H ds vs d Q tr p h q
  unfold dNeA at h
  split at h
  · rename_i i j
    cases h
    obtain ⟨x, y, rfl, hx, hy⟩ := pair2 p
    rw [any_int] at hx hy
    subst hx hy
    refine ⟨_, _, rfl, .inr ⟨rfl, ?_⟩⟩
    rw [dec_eq (f := V.int) fun _ _ h => V.int.inj h]
    exact q _ nobody _ (.same (by unfold Rel; rfl))
  · rename_i i j
    cases h
    obtain ⟨x, y, rfl, hx, hy⟩ := pair2 p
    rw [any_bl] at hx hy
    subst hx hy
    refine ⟨_, _, rfl, .inr ⟨rfl, ?_⟩⟩
    rw [dec_eq (f := V.bl) fun _ _ h => V.bl.inj h]
    exact q _ nobody _ (.same (by unfold Rel; rfl))
  · rename_i i j
    cases h
    obtain ⟨x, y, rfl, hx, hy⟩ := pair2 p
    rw [any_str] at hx hy
    subst hx hy
    refine ⟨_, _, rfl, .inr ⟨rfl, ?_⟩⟩
    rw [dec_eq (f := V.str) fun _ _ h => V.str.inj h]
    exact q _ nobody _ (.same (by unfold Rel; rfl))
  · obtain ⟨x, y, e, z⟩ := meets_ne M H _ vs d Q tr p h q
    exact ⟨x, y, e, .inl z⟩
end
end Ow

set_option Elab.async false
set_option autoImplicit false
set_option linter.all false
set_option maxRecDepth 100000
/-! Ow, part 18: the end of a law, by the meaning of its def. -/
namespace Ow
open PySem PySem.Spec PyProof.Rows L2

/-- the law's call behind the top: the script stands for a far list of ints; the def's meaning answers True -/
theorem law_endG {P : Program} {w : World} {K : PySem.W.Frag} {mg mb : Str → Option Value} {k : Nat} {fa a : Addr} {fd : FuncData} {x : Str} {f : MF} {s₁ : Shared} {vs : List Value} {ns : List Int}
    (KX : K.In s₁.heap) (hns : s₁.heap.Ns mainGlobals mg) (hb : s₁.heap.Ns builtinsNs mb) (hbb : ∀ x : Str, x ≠ "__name__" → mb x = bootBuiltins x) (hlim : s₁.heap.NoLimit) (hg : s₁.gens = #[])
    (ha : s₁.heap.get? a = some { cls := .type "list", data := .seq vs.toArray }) (hi : IntsAre vs ns) (hl : ns.length ≤ sizeLine) (hr : Room k callerA)
    (F : ∀ base : Heap, K.In base → base.Ns mainGlobals mg → FnG P w K mg base k fa fd [x] (spF K mg 1 f)) (hbind : ∀ (s : Shared) (u : Value), BindsTo s fd ⟨[u], []⟩ [(x, u)])
    (hf : ∃ es, f [.far (ns.map D.int)] = some (.ok (.bl true) es)) :
    codeAny (model P w) callerA (.call (.ref fa) ⟨[.ref a], []⟩) (fun r s' => r = .ok (.ret (.bool true)) ∧ OldK s₁.heap s'.heap ∧ s'.os = s₁.os ∧ AllBare s'.gens) s₁ := by
  have rv := vals_ints hi
  have lenV := hi.length
  obtain ⟨es, hf⟩ := hf
  have core : ∀ H : Hp, Only H → FarAt K nobody H a (ns.map V.int) → HOk P w H s₁.heap → (∀ b, H b ≠ none → b = a) → (H a ≠ none → K.lookup a = none) →
      codeAny (model P w) callerA (.call (.ref fa) ⟨[.ref a], []⟩) (fun r s' => r = .ok (.ret (.bool true)) ∧ OldK s₁.heap s'.heap ∧ s'.os = s₁.os ∧ AllBare s'.gens) s₁ := by
    intro H hO hS hok hA hK
    have base_of : ∀ {b : Addr} {o : Obj}, s₁.heap.get? b = some o → H b = none → (hidT s₁.heap H).get? b = some o := fun e n => hidT_get e n
    have onlyA : ∀ {b : Addr} {o : Obj}, s₁.heap.get? b = some o → (b = a → False) → H b = none := fun {b o} e d => by
      cases q : H b with
      | none => rfl
      | some u => exact (d (hA b (by rw [q]; simp))).elim
    have noA : ∀ {b : Addr} {o : Obj} {es : Array DictEntry} {ep : Nat}, s₁.heap.get? b = some o → o.data = .dict es ep → H b = none := fun {b o es ep} e d => onlyA e fun z => by
      subst z
      rw [ha] at e; cases e
      have d' : Data.seq vs.toArray _ = Data.dict es ep := d
      cases d'
    have nsK : ∀ {b : Addr} {m : Str → Option Value}, s₁.heap.Ns b m → (hidT s₁.heap H).Ns b m := fun {b m} ⟨o, es, ep, e, d, r⟩ => ⟨o, es, ep, base_of e (noA e d), d, r⟩
    have hKb : K.In (hidT s₁.heap H) := fun b o e => base_of (KX b o e) (by
      cases q : H b with
      | none => rfl
      | some u =>
        have e' : b = a := hA b (by rw [q]; simp)
        subst e'
        rw [hK (by rw [q]; simp)] at e; cases e)
    have hM : Mod K mg (hidT s₁.heap H) := ⟨hKb, nsK hns, ⟨mb, nsK hb, hbb⟩, let ⟨mc, h1, h2⟩ := hlim; ⟨mc, nsK h1, h2⟩⟩
    have e0 : Env0 P w K mg (hidT s₁.heap H) callerA [] s₁ H := ⟨rfl, hM, fun b o e => of_hidT e, Nat.le_of_eq (hidT_size _ _), trivial, fun b hb => absurd (show b ∈ ([] : List Addr) from hb) (by simp), hok, .of_eq hg⟩
    have sp : spF K mg 1 f [.ref a] H (fun v _ => v = .bl true) (fun _ _ _ => False) := by
      refine ⟨rfl, nobody, [.far (ns.map D.int)], nobodies, _, ⟨rfl, fun i d hd => ?_, fun _ _ _ z => z.elim, fun _ _ z => z.elim, fun a z => ?_⟩, hf, fun v P own' H' g => ?_⟩
      · cases i with
        | succ i => simp at hd
        | zero =>
          simp at hd
          subst hd
          refine ⟨.ref a, rfl, ?_⟩
          have e1 : Mof nobody nobodies = nobody := by
            funext a
            apply propext
            exact ⟨fun z => z.elim id fun ⟨_, z⟩ => z, fun z => z.elim⟩
          rw [e1]
          unfold Rel
          exact ⟨a, _, rfl, hS, rels_of_ints ns⟩
      · rcases z with z | ⟨_, z⟩
        · exact z.elim
        · exact z.elim
      · have := g.rel
        unfold Rel at this
        exact this
    refine codeAny_mono ((F _ hKb (nsK hns)).run callerA [] s₁ H ⟨[.ref a], []⟩ [.ref a] [.ref a] _ _ hr rfl e0 (hbind s₁ (.ref a)) (.cons rfl .nil) sp) fun r s' h => ?_
    cases r with
    | error e =>
      obtain ⟨_, _, _, _, _, _, _, _, _, _, _, _, z⟩ := h
      exact z.elim
    | ok fl =>
      cases fl with
      | next => exact False.elim h
      | brk => exact False.elim h
      | cont => exact False.elim h
      | ret u =>
        obtain ⟨v, H', os, bare, un, hok', r', q⟩ := h
        have q' : v = .bl true := q
        subst q'
        obtain rfl : u = Value.bool true := r'
        refine ⟨rfl, OldK.of_keep fun b o e => ?_, os, bare⟩
        cases q : H b with
        | none => exact un.keep b o e q (by intro z; exact absurd (show b ∈ ([] : List Addr) from z) (by simp)) (by simp)
        | some u =>
          rcases hO b with z | ⟨ob, xs, z⟩
          · rw [q] at z; cases z
          · have z2 := un.frzs b ob _ z
            obtain ⟨e1, _⟩ := hok b _ z
            obtain ⟨e2, _⟩ := hok' b _ z2
            rw [e] at e1; cases e1
            exact e2
  cases hk : K.lookup a with
  | some o =>
    have e := KX a o hk
    rw [ha] at e
    cases e
    refine core (fun _ => none) (fun _ => .inl rfl) (.inr (.inr ⟨_, vs.toArray, _, hk, rfl, rfl, rfl, by rw [List.size_toArray, lenV]; exact hl, by simpa using rv⟩)) (fun b u z => by have z' : (none : Option HO) = some u := z; cases z') (fun b z => absurd rfl z) fun z => absurd rfl z
  | none =>
    refine core (fun b => if b = a then some (.frz { cls := .type "list", data := .seq vs.toArray } (.lst (ns.map V.int))) else none) (fun b => ?_) (.inl ⟨fun z => z, { cls := .type "list", data := .seq vs.toArray }, if_pos rfl⟩) (fun b u z => ?_) (fun b z => ?_) fun _ => hk
    · by_cases hb : b = a
      · exact .inr ⟨_, _, if_pos hb⟩
      · exact .inl (if_neg hb)
    · by_cases hb : b = a
      · have z' := (if_pos hb).symm.trans z
        cases z'
        subst hb
        exact ⟨ha, by rw [List.length_map]; exact hl, vs, _, rv, ha⟩
      · have z' := (if_neg hb).symm.trans z
        cases z'
    · by_cases hb : b = a
      · exact hb
      · exact absurd (if_neg hb) z
/-- the goal that k_head leaves (case hc) -/
theorem walk_ofG {l : PySem.W.OpenLaw} {n k : Nat} {q : Program} {loose : List Str} {XP : (Str → Option Value) → Heap → Prop} {YP : World → Heap → Prop} {d : DefRec} {K : Params → PySem.W.Frag} {f : MF} {x : Str}
    (hn : l.most = some n) (hn2 : n ≤ sizeLine) (hdf : d.params.defaults = []) (hr : Room k callerA)
    (hY : ∀ (w : World) (h : Heap), YP w h → (K w.params).In h)
    (F : ∀ (w : World) (mg : Str → Option Value) (fa : Addr) (h : Heap), (K w.params).In h → h.Ns mainGlobals mg → mg d.name = some (.ref fa) →
      ∃ fd : FuncData, (∀ (s : Shared) (u : Value), BindsTo s fd ⟨[u], []⟩ [(x, u)]) ∧
        ∀ base : Heap, (K w.params).In base → base.Ns mainGlobals mg → FnG l.prog w (K w.params) mg base k fa fd [x] (spF (K w.params) mg 1 f))
    (hf : ∀ ns : List Int, ns.length ≤ n → ∃ es, f [.far (ns.map D.int)] = some (.ok (.bl true) es)) :
    PySem.W.WalkO q loose XP YP l.row.toRowW d [] (fun f vs => PySem.call f vs) := by
  refine Att.attach_call hn hdf fun w s₀ s₁ mg mb fa o pm cd doc a vs ns G Y ho hd hcd hmg hobj hints hlen hg => ?_
  have KX := hY w _ Y
  obtain ⟨fd, hb, hF⟩ := F w mg fa _ KX G.T.g hmg
  exact law_endG KX G.T.g G.T.b G.T.builtins G.T.nolimit hg hobj hints (Nat.le_trans hlen hn2) hr hF hb (hf ns hlen)
end Ow

set_option Elab.async false
set_option autoImplicit false
set_option linter.all false
set_option maxRecDepth 100000
/-! Ow, part 19: reckoning with meanings. -/
namespace Ow
open PySem PySem.Spec PyProof.Rows L2

/-! ### steps -/
section
variable {m m1 m2 c : ME} {s1 s2 : MS} {e e' e1 e2 : Sl} {d : D} {i : Nat} {r : SR}
theorem sSeq_nx (h : s1 e = some (.nx e')) : sSeq s1 s2 e = s2 e' := by unfold sSeq; rw [h]; rfl
theorem sSeq_rt (h : s1 e = some (.rt d e')) : sSeq s1 s2 e = some (.rt d e') := by unfold sSeq; rw [h]; rfl
theorem sSeq_bk (h : s1 e = some (.bk e')) : sSeq s1 s2 e = some (.bk e') := by unfold sSeq; rw [h]; rfl
theorem sSeq_ct (h : s1 e = some (.ct e')) : sSeq s1 s2 e = some (.ct e') := by unfold sSeq; rw [h]; rfl
theorem sSet_ok (h : m e = some (.ok d e')) : sSet i m e = some (.nx (e'.set i (some d))) := by unfold sSet; rw [h]; rfl
theorem sIf_t (h : c e = some (.ok (.bl true) e')) : sIf c s1 s2 e = s1 e' := by unfold sIf; rw [h]; rfl
theorem sIf_f (h : c e = some (.ok (.bl false) e')) : sIf c s1 s2 e = s2 e' := by unfold sIf; rw [h]; rfl
theorem sIf_b {b : Bool} (h : c e = some (.ok (.bl b) e')) : sIf c s1 s2 e = if b then s1 e' else s2 e' := by cases b; exact sIf_f h; exact sIf_t h
theorem sRt_ok (h : m e = some (.ok d e')) : sRt m e = some (.rt d e') := by unfold sRt; rw [h]; rfl
theorem sDo_ok (h : m e = some (.ok d e')) : sDo m e = some (.nx e') := by unfold sDo; rw [h]; rfl
theorem mIf_t (h : c e = some (.ok (.bl true) e')) : mIf c m1 m2 e = m1 e' := by unfold mIf; rw [h]; rfl
theorem mIf_f (h : c e = some (.ok (.bl false) e')) : mIf c m1 m2 e = m2 e' := by unfold mIf; rw [h]; rfl
theorem mAnd_t (h : m1 e = some (.ok (.bl true) e')) : mAnd m1 m2 e = m2 e' := by unfold mAnd; rw [h]; rfl
theorem mAnd_f (h : m1 e = some (.ok (.bl false) e')) : mAnd m1 m2 e = some (.ok (.bl false) e') := by unfold mAnd; rw [h]; rfl
theorem mOr_t (h : m1 e = some (.ok (.bl true) e')) : mOr m1 m2 e = some (.ok (.bl true) e') := by unfold mOr; rw [h]; rfl
theorem mOr_f (h : m1 e = some (.ok (.bl false) e')) : mOr m1 m2 e = m2 e' := by unfold mOr; rw [h]; rfl
theorem mNot_b {b : Bool} (h : m e = some (.ok (.bl b) e')) : mNot m e = some (.ok (.bl !b) e') := by unfold mNot; rw [h]; rfl
theorem mTr_b {b : Bool} (h : m e = some (.ok d e')) (ht : truthD d = some b) : mTr m e = some (.ok (.bl b) e') := by unfold mTr; rw [h]; simp [ht]
theorem mB_ok {g : List D → Option D} {us : List Ar} {l : List AV} {ds : List D} (h1 : evA us e = some (.ok l e')) (h2 : resolves e' l = some ds) (h3 : g ds = some d) : mB g us e = some (.ok d e') := by
  unfold mB; rw [h1]; simp [h2, h3]
theorem mCall_ok {f : MF} {us : List Ar} {l : List AV} {ds : List D} {es : Sl} (h1 : evA us e = some (.ok l e')) (h2 : resolves e' l = some ds) (h3 : (lents e' l).Nodup ∧ l.all AV.noPt = true) (h4 : f ds = some (.ok d es)) :
    mCall f us e = some (.ok d (back e' l es)) := by
  unfold mCall; rw [h1]; simp only [Option.bind_some, h2]; rw [if_pos h3, h4]; rfl
theorem mCallK_ok {f : MF} {p : List Nat} {us : List Ar} {l : List AV} {ds : List D} {es : Sl} (h1 : evA us e = some (.ok l e')) (h2 : resolves e' (permL p l) = some ds) (h3 : (lents e' (permL p l)).Nodup ∧ (permL p l).all AV.noPt = true) (h4 : f ds = some (.ok d es)) :
    mCallK f p us e = some (.ok d (back e' (permL p l) es)) := by
  unfold mCallK; rw [h1]; simp only [Option.bind_some, h2]; rw [if_pos h3, h4]; rfl
theorem mF_rt {n l : Nat} {fx : Nat → Bool} {s : MS} {ds : List D} (hn : ds.length = n) (h : s (ds.map some ++ List.replicate (l - n) none) = some (.rt d e)) : mF n l fx s ds = some (.ok d (maskS fx n e)) := by
  unfold mF; rw [if_pos hn, h]; rfl
theorem mF_nx {n l : Nat} {fx : Nat → Bool} {s : MS} {ds : List D} (hn : ds.length = n) (h : s (ds.map some ++ List.replicate (l - n) none) = some (.nx e)) : mF n l fx s ds = some (.ok .non (maskS fx n e)) := by
  unfold mF; rw [if_pos hn, h]; rfl
end
/-! ### operands -/
section
variable {e e' : Sl} {d : D} {i : Nat} {us : List Ar} {l : List AV} {m : ME}
theorem evA0 : evA [] e = some (.ok [] e) := rfl
theorem evA_nm (h1 : slot e i = some d) (h2 : evA us e = some (.ok l e')) : evA (.nm i :: us) e = some (.ok (.nm i :: l) e') := by
  unfold evA; rw [h1]; simp [h2, arCons]
theorem evA_vl {e1 : Sl} (h1 : m e = some (.ok d e1)) (h2 : evA us e1 = some (.ok l e')) : evA (.vl m :: us) e = some (.ok (.v (settle d) :: l) e') := by
  unfold evA; rw [h1]; simp [h2, arCons]
theorem evA_il {m : MI} (h1 : m e = some d) (h2 : evA us e = some (.ok l e')) : evA (.il m :: us) e = some (.ok (.v d :: l) e') := by
  unfold evA; rw [h1]; simp [h2, arCons]
end
/-! ### for -/
section
variable {t : Tgt} {b : MS} {ok : Sl → Prop} {d : D} {l : List D} {e e1 e2 : Sl} {v : D}
theorem forL_nil (h : ok e) : forL t b ok [] e = some (.nx e) := by unfold forL; rw [if_pos h]
theorem forL_nx (h : ok e) (h1 : setTg t d e = some e1) (h2 : b e1 = some (.nx e2)) : forL t b ok (d :: l) e = forL t b ok l e2 := by
  conv => lhs; unfold forL
  rw [if_pos h, h1]; simp [h2]
theorem forL_ct (h : ok e) (h1 : setTg t d e = some e1) (h2 : b e1 = some (.ct e2)) : forL t b ok (d :: l) e = forL t b ok l e2 := by
  conv => lhs; unfold forL
  rw [if_pos h, h1]; simp [h2]
theorem forL_bk (h : ok e) (h1 : setTg t d e = some e1) (h2 : b e1 = some (.bk e2)) : forL t b ok (d :: l) e = some (.nx e2) := by
  conv => lhs; unfold forL
  rw [if_pos h, h1]; simp [h2]
theorem forL_rt (h : ok e) (h1 : setTg t d e = some e1) (h2 : b e1 = some (.rt v e2)) : forL t b ok (d :: l) e = some (.rt v e2) := by
  conv => lhs; unfold forL
  rw [if_pos h, h1]; simp [h2]
theorem sFor_ok {us : List Ar} {g : List D → Option (List D)} {av : List AV} {e' : Sl} {ds items : List D} (h1 : evA us e = some (.ok av e')) (h2 : resolves e' av = some ds) (h3 : g ds = some items) :
    sFor t us g b e = forL t b (fun e => resolves e av = some ds) items e' := by
  unfold sFor; rw [h1]; simp [h2, h3]
/-- an invariant of a loop that runs to its end -/
theorem forL_inv {I : Nat → Sl → Prop} {items : List D} (hok : ∀ i e, i ≤ items.length → I i e → ok e) (hs : ∀ i e, (h : i < items.length) → I i e → ∃ e1 e2, setTg t items[i] e = some e1 ∧ b e1 = some (.nx e2) ∧ I (i + 1) e2) :
    ∀ (k i : Nat) (e : Sl), i + k = items.length → I i e → ∃ e', forL t b ok (items.drop i) e = some (.nx e') ∧ I items.length e'
  | 0, i, e, hk, hi => by
    have : i = items.length := by omega
    subst this
    rw [List.drop_length]
    exact ⟨e, forL_nil (hok _ _ (Nat.le_refl _) hi), hi⟩
  | k + 1, i, e, hk, hi => by
    have hl : i < items.length := by omega
    obtain ⟨e1, e2, h1, h2, h3⟩ := hs i e hl hi
    rw [List.drop_eq_getElem_cons hl, forL_nx (hok _ _ (Nat.le_of_lt hl) hi) h1 h2]
    exact forL_inv hok hs k (i + 1) e2 (by omega) h3
theorem forL_all {I : Nat → Sl → Prop} {items : List D} (h0 : I 0 e) (hok : ∀ i e, i ≤ items.length → I i e → ok e) (hs : ∀ i e, (h : i < items.length) → I i e → ∃ e1 e2, setTg t items[i] e = some e1 ∧ b e1 = some (.nx e2) ∧ I (i + 1) e2) :
    ∃ e', forL t b ok items e = some (.nx e') ∧ I items.length e' := by
  simpa using forL_inv hok hs items.length 0 e (by omega) h0
end
/-! ### comprehensions -/
section
variable {t : Tgt} {c y : ME} {vs : List Nat} {ok : Sl → Prop} {e : Sl}
/-- each item by itself, the names as they were -/
theorem lcL_pure (p : D → Bool) (f : D → D) (hok : ok e) : ∀ {l : List D}, (∀ d ∈ l, ∃ e1 e2, setTg t d e = some e1 ∧ c e1 = some (.ok (.bl (p d)) e2) ∧ (p d = false → wipeS e2 vs = e) ∧ (p d = true → ∃ e3, y e2 = some (.ok (f d) e3) ∧ wipeS e3 vs = e)) →
    lcL t c y vs ok l e = some ((l.filter p).map fun d => settle (f d), e)
  | [], _ => by unfold lcL; rw [if_pos hok]; rfl
  | d :: l, h => by
    obtain ⟨e1, e2, h1, h2, h3, h4⟩ := h d List.mem_cons_self
    have ih := lcL_pure p f hok (l := l) fun d hd => h d (List.mem_cons_of_mem _ hd)
    unfold lcL
    rw [if_pos hok, h1]
    simp only [Option.bind_some, h2]
    cases hp : p d with
    | false =>
      simp only [h3 hp, List.filter_cons, hp]
      exact ih
    | true =>
      obtain ⟨e3, h5, h6⟩ := h4 hp
      simp only [h5, Option.bind_some, h6, ih, List.filter_cons, hp, if_true, List.map_cons]
theorem mLc_ok {us : List Ar} {g : List D → Option (List D)} {av : List AV} {e' e2 : Sl} {ds items ys : List D} (h1 : evA us e = some (.ok av e')) (h2 : resolves e' av = some ds) (h3 : g ds = some items) (h4 : items.length ≤ 16777216)
    (h5 : lcL t c y vs (fun e => resolves e av = some ds) items (wipeS e' vs) = some (ys, e2)) : mLc t us g vs c y e = some (.ok (.lst true ys) e2) := by
  unfold mLc; rw [h1]; simp only [Option.bind_some, h2, h3]; rw [if_pos h4, h5]; rfl
end

/-! ### how long a text repr gives -/
mutual
def sz : D → Nat
  | .non => 4
  | .bl _ => 5
  | .int i => i.natAbs.log2 + 2
  | .str s => (reprText s).length
  | .tup l => szs l + 3
  | .far l => szs l + 2
  | .lst _ l => szs l + 2
  | .dct _ _ => 0
def szs : List D → Nat
  | [] => 0
  | d :: l => sz d + 2 + szs l
end
theorem textFrom_le : ∀ (ts : List Str) (k : Nat) (acc : Str), (PySem.textFrom k acc ts).length ≤ acc.length + PySem.piled ts
  | [], k, acc => Nat.le_add_right _ _
  | t :: r, k, acc => by
    have h := textFrom_le r (k + 1) (acc ++ (if k > 0 then ", " else "" : String) ++ t)
    have e : (acc ++ (if k > 0 then ", " else "" : String) ++ t).length = acc.length + (if k > 0 then 2 else 0) + t.length := by
      rw [strLen_append, strLen_append]
      split <;> rfl
    rw [PySem.piled_cons]
    show (PySem.textFrom (k + 1) _ r).length ≤ _
    rw [e] at h
    have : (if k > 0 then 2 else 0 : Nat) ≤ 2 := by split <;> omega
    omega
theorem listText_le (ts : List Str) : (PySem.listText ts).length ≤ PySem.piled ts + 2 := by
  unfold PySem.listText
  rw [strLen_append]
  have h := textFrom_le ts 0 "["
  have e1 : (("[" : String) : Str).length = 1 := rfl
  have e2 : (("]" : String) : Str).length = 1 := rfl
  rw [e1] at h
  rw [e2]
  omega
theorem tupleText_le (ts : List Str) : (PySem.tupleText ts).length ≤ PySem.piled ts + 3 := by
  unfold PySem.tupleText
  rw [strLen_append, strLen_append]
  have e1 : (("(" : String) : Str).length = 1 := rfl
  have e2 : ((if ts.length == 1 then ",)" else ")" : String) : Str).length ≤ 2 := by split <;> decide
  have e3 : (Str.join ", " ts).length ≤ PySem.piled ts := by
    cases ts with
    | nil => exact Nat.le_refl _
    | cons t r =>
      have := PySem.join_length_add (t :: r) (by simp)
      omega
  omega
mutual
theorem shown_le : ∀ d : D, noDct d = true → (py d).shown.length ≤ sz d
  | .non, _ => by unfold py sz PyData.shown; decide
  | .bl b, _ => by unfold py sz PyData.shown; cases b <;> decide
  | .int i, _ => by
    unfold py sz PyData.shown
    have := PySem.int_text_length_le (a := i) (k := i.natAbs.log2 + 1) (by omega) (by omega)
    have e : (Str.ofString (toString i)).length = (toString i).length := PySem.ofString_length _
    show (Str.ofString (toString i)).length ≤ _
    rw [e]
    exact this
  | .str s, _ => by unfold py sz PyData.shown; exact Nat.le_refl _
  | .tup l, h => by
    unfold noDct at h
    unfold py sz PyData.shown
    have := tupleText_le (PyData.shownAll (pys l))
    have := showns_le l h
    omega
  | .far l, h => by
    unfold noDct at h
    unfold py sz PyData.shown
    have := listText_le (PyData.shownAll (pys l))
    have := showns_le l h
    omega
  | .lst _ l, h => by
    unfold noDct at h
    unfold py sz PyData.shown
    have := listText_le (PyData.shownAll (pys l))
    have := showns_le l h
    omega
  | .dct _ _, h => by unfold noDct at h; cases h
theorem showns_le : ∀ l : List D, noDcts l = true → PySem.piled (PyData.shownAll (pys l)) ≤ szs l
  | [], _ => by unfold pys szs PyData.shownAll; exact Nat.le_refl _
  | d :: l, h => by
    unfold noDcts at h
    rw [Bool.and_eq_true] at h
    unfold pys szs PyData.shownAll
    rw [PySem.piled_cons]
    have h1 := shown_le d h.1
    have h2 := showns_le l h.2
    omega
end

/-! ### for simp: meanings unfold on slots in sight -/
section
variable {m m1 m2 c : ME} {s1 s2 : MS} {e e' : Sl} {d d1 d2 : D} {i j : Nat} {us : List Ar} {ms : List ME} {l l' : List D} {n k : Int} {b b' : Bool} {s t : Str} {o o' : Bool} {g : List D → Option D} {mi : MI} {x : Option D}
@[simp] theorem ev_sSeq : sSeq s1 s2 e = (s1 e).bind fun r => match r with | .nx e' => s2 e' | .rt d e' => some (.rt d e') | .bk e' => some (.bk e') | .ct e' => some (.ct e') | .exc x e' => some (.exc x e') := by
  unfold sSeq
  cases s1 e with
  | none => rfl
  | some r => cases r <;> rfl
@[simp] theorem ev_sSet : sSet i m e = (m e).bind fun r => match r with | .ok d e' => some (.nx (e'.set i (some d))) | .exc x e' => some (.exc x e') := (rfl)
@[simp] theorem ev_sIf : sIf c s1 s2 e = (c e).bind fun r => match r with | .ok (.bl true) e' => s1 e' | .ok (.bl false) e' => s2 e' | .ok _ _ => none | .exc x e' => some (.exc x e') := (rfl)
@[simp] theorem ev_sRt : sRt m e = (m e).bind fun r => match r with | .ok d e' => some (.rt d e') | .exc x e' => some (.exc x e') := (rfl)
@[simp] theorem ev_sDo : sDo m e = (m e).bind fun r => match r with | .ok _ e' => some (.nx e') | .exc x e' => some (.exc x e') := (rfl)
@[simp] theorem ev_sNx : sNx e = some (.nx e) := (rfl)
@[simp] theorem ev_sBk : sBk e = some (.bk e) := (rfl)
@[simp] theorem ev_sCt : sCt e = some (.ct e) := (rfl)
@[simp] theorem ev_sPar {is : List Nat} : sPar is ms e = (evO ms e).bind fun r => match r with | .ok ds e' => (putAll is ds e').bind fun e2 => some (.nx e2) | .exc x e' => some (.exc x e') := (rfl)
@[simp] theorem ev_evO0 : evO [] e = some (.ok [] e) := (rfl)
@[simp] theorem ev_evO : evO (m :: ms) e = (m e).bind fun q => match q with
    | .ok d e1 => (evO ms e1).bind fun q => match q with | .ok l e2 => some (.ok (d :: l) e2) | .exc x e2 => some (.exc x e2)
    | .exc x e1 => some (.exc x e1) := (rfl)
@[simp] theorem ev_putAll0 : putAll [] [] e = some e := (rfl)
@[simp] theorem ev_putAll {is : List Nat} : putAll (i :: is) (d :: l) e = putAll is l (e.set i (some d)) := (rfl)
@[simp] theorem ev_sTg {t : Tgt} : sTg t m e = (m e).bind fun r => match r with | .ok d e' => (setTg t (settle d) e').bind fun e2 => some (.nx e2) | .exc x e' => some (.exc x e') := (rfl)
@[simp] theorem ev_setTg : setTg (.nm i) d e = some (e.set i (some d)) := (rfl)
@[simp] theorem ev_setTgt {ts : List Tgt} : setTg (.tp ts) (.tup l) e = setTgs ts l e := (rfl)
@[simp] theorem ev_setTgs0 : setTgs [] [] e = some e := (rfl)
@[simp] theorem ev_setTgs {t : Tgt} {ts : List Tgt} : setTgs (t :: ts) (d :: l) e = (setTg t d e).bind fun e' => setTgs ts l e' := (rfl)
@[simp] theorem ev_sPut : sPut i m mi e = (m e).bind fun r => match r with
    | .ok d e' => ((slot e' i).bind lstT).bind fun l => (mi e').bind fun k => match k with
      | .int n => (ixN l.length n).bind fun j => some (.nx (e'.set i (some (.lst true (l.set j d)))))
      | _ => none
    | .exc x e' => some (.exc x e') := (rfl)
@[simp] theorem ev_mC : mC d e = some (.ok d e) := (rfl)
@[simp] theorem ev_iC : iC d e = some d := (rfl)
@[simp] theorem ev_iNm : iNm i e = (slot e i).bind fun d => if top d then none else some d := (rfl)
@[simp] theorem ev_mNm : mNm i e = (slot e i).bind fun d => if top d then some (.ok (settle d) (e.set i (some (settle d)))) else some (.ok d e) := (rfl)
@[simp] theorem ev_mMv : mMv i e = (slot e i).bind fun d => if top d then some (.ok d (e.set i none)) else some (.ok d e) := (rfl)
@[simp] theorem ev_mTr : mTr m e = (m e).bind fun r => match r with | .ok d e' => (truthD d).bind fun b => some (.ok (.bl b) e') | .exc x e' => some (.exc x e') := (rfl)
@[simp] theorem ev_mAnd : mAnd m1 m2 e = (m1 e).bind fun r => match r with | .ok (.bl true) e' => m2 e' | .ok (.bl false) e' => some (.ok (.bl false) e') | .ok _ _ => none | .exc x e' => some (.exc x e') := (rfl)
@[simp] theorem ev_mOr : mOr m1 m2 e = (m1 e).bind fun r => match r with | .ok (.bl true) e' => some (.ok (.bl true) e') | .ok (.bl false) e' => m2 e' | .ok _ _ => none | .exc x e' => some (.exc x e') := (rfl)
@[simp] theorem ev_mNot : mNot m e = (m e).bind fun r => match r with | .ok (.bl b) e' => some (.ok (.bl !b) e') | .ok _ _ => none | .exc x e' => some (.exc x e') := (rfl)
@[simp] theorem ev_mIf : mIf c m1 m2 e = (c e).bind fun r => match r with | .ok (.bl true) e' => m1 e' | .ok (.bl false) e' => m2 e' | .ok _ _ => none | .exc x e' => some (.exc x e') := (rfl)
@[simp] theorem ev_mB : mB g us e = (evA us e).bind fun q => match q with | .ok l e' => (resolves e' l).bind fun ds => (g ds).bind fun d => some (.ok d e') | .exc x e' => some (.exc x e') := (rfl)
@[simp] theorem ev_iB : iB g us e = (evI us e).bind fun l => (resolves e l).bind fun ds => (g ds).bind fun d => some (settle d) := (rfl)
@[simp] theorem ev_evA0 : evA [] e = some (.ok [] e) := (rfl)
@[simp] theorem ev_evAn : evA (.nm i :: us) e = (slot e i).bind fun _ => (evA us e).bind fun q => some (arCons (.nm i) q) := (rfl)
@[simp] theorem ev_evAp : evA (.pt i d :: us) e = (evI (.pt i d :: us) e).bind fun l => some (.ok l e) := (rfl)
@[simp] theorem ev_evAi : evA (.il mi :: us) e = (mi e).bind fun d => (evA us e).bind fun q => some (arCons (.v d) q) := (rfl)
@[simp] theorem ev_evAv : evA (.vl m :: us) e = (m e).bind fun q => match q with | .ok d e1 => (evA us e1).bind fun q => some (arCons (.v (settle d)) q) | .exc x e1 => some (.exc x e1) := (rfl)
@[simp] theorem ev_arCons {a : AV} {as : List AV} : arCons a (.ok as e) = .ok (a :: as) e := (rfl)
@[simp] theorem ev_evI0 : evI [] e = some [] := (rfl)
@[simp] theorem ev_evIn : evI (.nm i :: us) e = (slot e i).bind fun _ => (evI us e).bind fun l => some (.nm i :: l) := (rfl)
@[simp] theorem ev_evIp : evI (.pt i d :: us) e = ((slot e i).bind fun d' => kid d' d).bind fun _ => (evI us e).bind fun l => some (.pt i d :: l) := (rfl)
@[simp] theorem ev_evIi : evI (.il mi :: us) e = (mi e).bind fun d => (evI us e).bind fun l => some (.v d :: l) := (rfl)
@[simp] theorem ev_res0 : resolves e [] = some [] := (rfl)
@[simp] theorem ev_resn {as : List AV} : resolves e (.nm i :: as) = (slot e i).bind fun d => (resolves e as).bind fun ds => some (d :: ds) := (rfl)
@[simp] theorem ev_resp {as : List AV} : resolves e (.pt i d :: as) = ((slot e i).bind fun d' => kid d' d).bind fun d => (resolves e as).bind fun ds => some (d :: ds) := (rfl)
@[simp] theorem ev_resv {as : List AV} : resolves e (.v d :: as) = (resolves e as).bind fun ds => some (d :: ds) := (rfl)
@[simp] theorem ev_slot0 : slot (x :: e) 0 = x := by cases x <;> rfl
@[simp] theorem ev_slots : slot (x :: e) (i + 1) = slot e i := (rfl)
@[simp] theorem ev_kid : kid (.lst true l) (.int n) = if 0 ≤ n then l[n.toNat]? else none := (rfl)
@[simp] theorem ev_lstT : lstT (.lst true l) = some l := (rfl)
@[simp] theorem ev_mMut {g : List D → List D → Option (D × List D)} : mMut g i us e = ((slot e i).bind lstT).bind fun _ => (evA us e).bind fun q => match q with
  | .ok as e' => ((slot e' i).bind lstT).bind fun l => (resolves e' as).bind fun ds => (g l ds).bind fun p => some (.ok p.1 (e'.set i (some (.lst true p.2))))
  | .exc x e' => some (.exc x e') := (rfl)
@[simp] theorem ev_mMutP {g : List D → List D → Option (D × List D)} : mMutP g i d us e = (slot e i).bind fun d' => ((kid d' d).bind lstT).bind fun l => (evI us e).bind fun as => (resolves e as).bind fun ds => (g l ds).bind fun p =>
  (putKid d' d (.lst true p.2)).bind fun d' => some (.ok p.1 (e.set i (some d'))) := (rfl)
@[simp] theorem ev_putKid : putKid (.lst true l) (.int n) d = if 0 ≤ n ∧ n < l.length then some (.lst true (l.set n.toNat d)) else none := (rfl)
@[simp] theorem ev_mLstO : mLstO ms e = (evO ms e).bind fun q => match q with | .ok ds e' => if ds.length ≤ 16777216 then some (.ok (.lst true ds) e') else none | .exc x e' => some (.exc x e') := (rfl)
@[simp] theorem ev_top1 : top .non = false := (rfl)
@[simp] theorem ev_top2 : top (.bl b) = false := (rfl)
@[simp] theorem ev_top3 : top (.int n) = false := (rfl)
@[simp] theorem ev_top4 : top (.str s) = false := (rfl)
@[simp] theorem ev_top5 : top (.tup l) = false := (rfl)
@[simp] theorem ev_top6 : top (.far l) = false := (rfl)
@[simp] theorem ev_top7 : top (.lst true l) = true := (rfl)
@[simp] theorem ev_top8 : top (.lst false l) = false := (rfl)
@[simp] theorem ev_set1 : settle .non = .non := (rfl)
@[simp] theorem ev_set2 : settle (.bl b) = .bl b := (rfl)
@[simp] theorem ev_set3 : settle (.int n) = .int n := (rfl)
@[simp] theorem ev_set4 : settle (.str s) = .str s := (rfl)
@[simp] theorem ev_set5 : settle (.tup l) = .tup l := (rfl)
@[simp] theorem ev_set6 : settle (.far l) = .far l := (rfl)
@[simp] theorem ev_set7 : settle (.lst true l) = .lst false (freezes l) := (rfl)
@[simp] theorem ev_set8 : settle (.lst false l) = .lst false l := (rfl)
@[simp] theorem ev_tr1 : truthD (.bl b) = some b := (rfl)
@[simp] theorem ev_tr2 : truthD (.int n) = some (n != 0) := (rfl)
@[simp] theorem ev_tr3 : truthD (.lst o l) = some (!l.isEmpty) := (rfl)
@[simp] theorem ev_tr4 : truthD (.tup l) = some (!l.isEmpty) := (rfl)
@[simp] theorem ev_add : dAdd [.int n, .int k] = some (.int (n + k)) := (rfl)
@[simp] theorem ev_sub : dSub [.int n, .int k] = some (.int (n - k)) := (rfl)
@[simp] theorem ev_mulA : dMulA [.int n, .int k] = if fitsMul n k then some (.int (n * k)) else none := (rfl)
@[simp] theorem ev_fdiv : dFdiv [.int n, .int k] = if fitsDiv k then some (.int (n / k)) else none := (rfl)
@[simp] theorem ev_mod : dMod [.int n, .int k] = if 0 < k then some (.int (n % k)) else none := (rfl)
@[simp] theorem ev_neg : dNeg [.int n] = some (.int (-n)) := (rfl)
@[simp] theorem ev_and : dAnd [.int n, .int k] = some (.int (Builtin.bitAnd n k)) := (rfl)
@[simp] theorem ev_xor : dXor [.int n, .int k] = some (.int (Builtin.bitXor n k)) := (rfl)
@[simp] theorem ev_lt : dLt [.int n, .int k] = some (.bl (decide (n < k))) := (rfl)
@[simp] theorem ev_le : dLe [.int n, .int k] = some (.bl (decide (n ≤ k))) := (rfl)
@[simp] theorem ev_gt : dGt [.int n, .int k] = some (.bl (decide (k < n))) := (rfl)
@[simp] theorem ev_ge : dGe [.int n, .int k] = some (.bl (decide (k ≤ n))) := (rfl)
@[simp] theorem ev_eqi : dEqA [.int n, .int k] = some (.bl (decide (n = k))) := (rfl)
@[simp] theorem ev_eqb : dEqA [.bl b, .bl b'] = some (.bl (decide (b = b'))) := (rfl)
@[simp] theorem ev_eqs : dEqA [.str s, .str t] = some (.bl (decide (s = t))) := (rfl)
@[simp] theorem ev_nei : dNeA [.int n, .int k] = some (.bl (!decide (n = k))) := (rfl)
@[simp] theorem ev_neb : dNeA [.bl b, .bl b'] = some (.bl (!decide (b = b'))) := (rfl)
@[simp] theorem ev_nes : dNeA [.str s, .str t] = some (.bl (!decide (s = t))) := (rfl)
@[simp] theorem ev_tupl : dTupl l = if low l && decide (l.length ≤ 16777216) then some (.tup l) else none := (rfl)
@[simp] theorem ev_lst : dLst l = if low l && decide (l.length ≤ 16777216) then some (.lst true l) else none := (rfl)
@[simp] theorem ev_ixl : dIx [.lst o l, .int n] = (atI l n).bind notTop := (rfl)
@[simp] theorem ev_ixt : dIx [.tup l, .int n] = (atI l n).bind notTop := (rfl)
@[simp] theorem ev_ixf : dIx [.far l, .int n] = (atI l n).bind notTop := (rfl)
@[simp] theorem ev_notTop : notTop d = if top d then none else some d := (rfl)
@[simp] theorem ev_inti : dInt [.int n] = some (.int n) := (rfl)
@[simp] theorem ev_lenl : dLen [.lst o l] = some (.int l.length) := (rfl)
@[simp] theorem ev_lent : dLen [.tup l] = some (.int l.length) := (rfl)
@[simp] theorem ev_lenf : dLen [.far l] = some (.int l.length) := (rfl)
@[simp] theorem ev_isi {T : String} : dIsi T [d] = (kitB (tyD d) T).map .bl := (rfl)
@[simp] theorem ev_low0 : low [] = true := (rfl)
@[simp] theorem ev_low : low (d :: l) = (!top d && low l) := (rfl)
@[simp] theorem ev_append : gAppend l [d] = if top d || decide (16777216 ≤ l.length) then none else some (.non, l ++ [d]) := (rfl)
@[simp] theorem ev_pop : gPop l [] = (l[l.length - 1]?).bind fun d => if top d then none else some (d, l.dropLast) := (rfl)
end
theorem fitsMul_l {i j : Int} (h1 : -18446744073709551616 < i) (h2 : i < 18446744073709551616) : fitsMul i j = true := by
  unfold fitsMul big
  rw [decide_eq_true h1, decide_eq_true h2]; rfl
theorem fitsMul_r {i j : Int} (h1 : -18446744073709551616 < j) (h2 : j < 18446744073709551616) : fitsMul i j = true := by
  unfold fitsMul big
  rw [decide_eq_true h1, decide_eq_true h2]; simp
theorem fitsDiv_of {j : Int} (h1 : 0 < j) (h2 : j < 18446744073709551616) : fitsDiv j = true := by
  unfold fitsDiv big
  rw [decide_eq_true h1, decide_eq_true h2]; rfl
theorem low_ints (l : List Int) : low (l.map D.int) = true := by
  unfold low
  rw [List.all_eq_true]
  intro d hd
  obtain ⟨i, _, rfl⟩ := List.mem_map.mp hd
  rfl

@[simp] theorem ev_frz0 : freezes [] = [] := by unfold freezes; rfl
@[simp] theorem ev_frz {d : D} {l : List D} : freezes (d :: l) = freeze d :: freezes l := by conv => lhs; unfold freezes
@[simp] theorem ev_freeze1 {n : Int} : freeze (.int n) = .int n := by unfold freeze; rfl
@[simp] theorem ev_freeze2 {n : Bool} : freeze (.bl n) = .bl n := by unfold freeze; rfl
@[simp] theorem ev_freeze3 {n : Str} : freeze (.str n) = .str n := by unfold freeze; rfl
@[simp] theorem ev_freeze4 {l : List D} : freeze (.tup l) = .tup l := by unfold freeze; rfl
@[simp] theorem ev_freeze5 {o : Bool} {l : List D} : freeze (.lst o l) = .lst false (freezes l) := by unfold freeze; rfl
@[simp] theorem ev_frzi (l : List Int) : freezes (l.map D.int) = l.map D.int := by
  induction l with
  | nil => exact ev_frz0
  | cons x l ih => rw [List.map_cons, ev_frz, ev_freeze1, ih]

/-! ### what is given back, slot by slot -/
def backR (e0 : Sl) : List AV → Sl → Sl → Sl
  | .nm i :: l, x :: es, e => backR e0 l es (if (slot e0 i).any top then e.set i x else e)
  | .pt _ _ :: l, _ :: es, e => backR e0 l es e
  | .v _ :: l, _ :: es, e => backR e0 l es e
  | _, _, e => e
theorem lents_mem {e : Sl} {i : Nat} : ∀ {l : List AV} {j : Nat}, lentAt e l i = some j → i ∈ lents e l := fun {l j} h => mem_lents (lentAt_some h).1 (lentAt_some h).2
theorem lentAt_cons {e : Sl} {a : AV} {l : List AV} {k : Nat} (h : isNm k a = false) : lentAt e (a :: l) k = (lentAt e l k).map (· + 1) := by
  unfold lentAt
  split
  · rw [List.findIdx?_cons, h]; rfl
  · rfl
theorem backR_get {e0 : Sl} : ∀ {l : List AV} {es e : Sl} (k : Nat), (lents e0 l).Nodup → es.length = l.length → (backR e0 l es e)[k]? = match lentAt e0 l k with
    | some j => if k < e.length then some (es[j]?).join else none
    | none => e[k]?
  | [], es, e, k, _, hl => by
    have : lentAt e0 [] k = none := by unfold lentAt; split <;> rfl
    rw [this]
    cases es <;> rfl
  | .pt i d :: l, [], e, k, nd, hl => by simp at hl
  | .v d :: l, [], e, k, nd, hl => by simp at hl
  | .nm i :: l, [], e, k, nd, hl => by simp at hl
  | .pt i d :: l, x :: es, e, k, nd, hl => by
    have nd' : (lents e0 l).Nodup := by unfold lents at nd; exact nd
    rw [lentAt_cons (by rfl)]
    show (backR e0 l es e)[k]? = _
    rw [backR_get k nd' (by simpa using hl)]
    cases lentAt e0 l k <;> simp
  | .v d :: l, x :: es, e, k, nd, hl => by
    have nd' : (lents e0 l).Nodup := by unfold lents at nd; exact nd
    rw [lentAt_cons (by rfl)]
    show (backR e0 l es e)[k]? = _
    rw [backR_get k nd' (by simpa using hl)]
    cases lentAt e0 l k <;> simp
  | .nm i :: l, x :: es, e, k, nd, hl => by
    show (backR e0 l es (if (slot e0 i).any top then e.set i x else e))[k]? = _
    by_cases ht : (slot e0 i).any top = true
    · unfold lents at nd
      rw [if_pos ht] at nd ⊢
      rw [backR_get k (List.nodup_cons.mp nd).2 (by simpa using hl)]
      by_cases hk : i = k
      · subst hk
        have h1 : lentAt e0 l i = none := by
          cases q : lentAt e0 l i with
          | none => rfl
          | some j => exact absurd (lents_mem q) (List.nodup_cons.mp nd).1
        have h2 : lentAt e0 (.nm i :: l) i = some 0 := by
          unfold lentAt
          rw [if_pos ht, List.findIdx?_cons]
          simp [isNm]
        rw [h1, h2]
        simp [List.getElem?_set]
      · rw [lentAt_cons (by simp [isNm, hk])]
        cases lentAt e0 l k <;> simp [List.getElem?_set, hk]
    · have nd' : (lents e0 l).Nodup := by unfold lents at nd; rw [if_neg ht] at nd; exact nd
      rw [if_neg ht, backR_get k nd' (by simpa using hl)]
      by_cases hk : i = k
      · subst hk
        have h1 : ∀ l, lentAt e0 l i = none := fun l => by unfold lentAt; rw [if_neg ht]
        rw [h1, h1]
      · rw [lentAt_cons (by simp [isNm, hk])]
        cases lentAt e0 l k <;> simp
theorem back_eq {e : Sl} {l : List AV} {es : Sl} (nd : (lents e l).Nodup) (hl : es.length = l.length) : back e l es = backR e l es e := by
  refine List.ext_getElem? fun k => ?_
  rw [backR_get k nd hl]
  unfold back
  rw [List.getElem?_mapIdx]
  cases q : lentAt e l k with
  | none => cases e[k]? <;> simp
  | some j =>
    by_cases hk : k < e.length
    · rw [List.getElem?_eq_getElem hk]; simp [hk]
    · rw [List.getElem?_eq_none (by omega)]; simp [hk]
section
variable {e0 e es : Sl} {l : List AV} {i : Nat} {x : Option D} {d : D}
@[simp] theorem ev_backR0 : backR e0 [] es e = e := by cases es <;> rfl
@[simp] theorem ev_backRn : backR e0 (.nm i :: l) (x :: es) e = backR e0 l es (if (slot e0 i).any top then e.set i x else e) := (rfl)
@[simp] theorem ev_backRv : backR e0 (.v d :: l) (x :: es) e = backR e0 l es e := (rfl)
@[simp] theorem ev_lents0 : lents e [] = [] := (rfl)
@[simp] theorem ev_lentsn : lents e (.nm i :: l) = if (slot e i).any top then i :: lents e l else lents e l := (rfl)
@[simp] theorem ev_lentsv : lents e (.v d :: l) = lents e l := (rfl)
@[simp] theorem ev_noPtn : AV.noPt (.nm i) = true := (rfl)
@[simp] theorem ev_noPtv : AV.noPt (.v d) = true := (rfl)
/-- a call, its names given back one by one -/
theorem mCall_is {f : MF} {us : List Ar} {e' : Sl} {ds : List D} (h1 : evA us e = some (.ok l e')) (h2 : resolves e' l = some ds) (h3 : (lents e' l).Nodup) (h4 : l.all AV.noPt = true) (h5 : f ds = some (.ok d es)) (h6 : es.length = l.length) :
    mCall f us e = some (.ok d (backR e' l es e')) := by
  rw [mCall_ok h1 h2 ⟨h3, h4⟩ h5, back_eq h3 h6]
theorem mCallK_is {f : MF} {p : List Nat} {us : List Ar} {e' : Sl} {ds : List D} (h1 : evA us e = some (.ok l e')) (h2 : resolves e' (permL p l) = some ds) (h3 : (lents e' (permL p l)).Nodup) (h4 : (permL p l).all AV.noPt = true) (h5 : f ds = some (.ok d es)) (h6 : es.length = (permL p l).length) :
    mCallK f p us e = some (.ok d (backR e' (permL p l) es e')) := by
  rw [mCallK_ok h1 h2 ⟨h3, h4⟩ h5, back_eq h3 h6]
end

/-- a loop over a range that runs to its end -/
theorem forL_range {i : Nat} {b : MS} {ok : Sl → Prop} {e : Sl} {f : Nat → Int} {n : Nat} (I : Nat → Sl → Prop) (h0 : I 0 e) (hok : ∀ k e, k ≤ n → I k e → ok e)
    (hs : ∀ k e, k < n → I k e → ∃ e2, b (e.set i (some (.int (f k)))) = some (.nx e2) ∧ I (k + 1) e2) : ∃ e', forL (.nm i) b ok ((List.range n).map fun k => .int (f k)) e = some (.nx e') ∧ I n e' := by
  have hl : ((List.range n).map fun k => D.int (f k)).length = n := by simp
  have := forL_all (t := .nm i) (b := b) (ok := ok) (e := e) (I := I) (items := (List.range n).map fun k => D.int (f k)) h0 (fun k e hk => hok k e (by omega)) fun k e hk hi => by
    have hk' : k < n := by omega
    obtain ⟨e2, h1, h2⟩ := hs k e hk' hi
    have e0 : ((List.range n).map fun k => D.int (f k))[k] = .int (f k) := by simp
    exact ⟨_, e2, rfl, by rw [e0]; exact h1, h2⟩
  rw [hl] at this
  exact this

/-- an operand by an operation that one names; the operation is not looked into -/
theorem evA_B {g : List D → Option D} {us : List Ar} {e e1 e' : Sl} {l l2 : List AV} {ds : List D} {d d' : D} {rest : List Ar} (h1 : evA us e = some (.ok l e1)) (h2 : resolves e1 l = some ds) (h3 : g ds = some d) (h4 : settle d = d') (h5 : evA rest e1 = some (.ok l2 e')) :
    evA (.vl (mB g us) :: rest) e = some (.ok (.v d' :: l2) e') := by
  subst h4
  exact evA_vl (mB_ok h1 h2 h3) h5

section
variable {α : Type} {a b c d f : α} {l : List α}
theorem atI_at {l : List α} {n : Nat} {x : α} (h : l[n]? = some x) : atI l (n : Int) = some x := by
  obtain ⟨hl, _⟩ := List.getElem?_eq_some_iff.mp h
  unfold atI ixN
  rw [if_pos (by omega), if_pos (by omega)]
  simpa using h
@[simp] theorem ev_at0 : atI (a :: l) 0 = some a := atI_at (n := 0) rfl
@[simp] theorem ev_at1 : atI (a :: b :: l) 1 = some b := atI_at (n := 1) rfl
@[simp] theorem ev_at2 : atI (a :: b :: c :: l) 2 = some c := atI_at (n := 2) rfl
@[simp] theorem ev_at3 : atI (a :: b :: c :: d :: l) 3 = some d := atI_at (n := 3) rfl
@[simp] theorem ev_at4 : atI (a :: b :: c :: d :: f :: l) 4 = some f := atI_at (n := 4) rfl
end

theorem mMut_ok {g : List D → List D → Option (D × List D)} {i : Nat} {us : List Ar} {l0 l l' ds : List D} {e e' : Sl} {as : List AV} {d : D} (h0 : slot e i = some (.lst true l0)) (h1 : evA us e = some (.ok as e')) (h2 : slot e' i = some (.lst true l)) (h3 : resolves e' as = some ds) (h4 : g l ds = some (d, l')) :
    mMut g i us e = some (.ok d (e'.set i (some (.lst true l')))) := by
  unfold mMut
  rw [h0, h1]
  simp only [Option.bind_some, ev_lstT]
  rw [h2]
  simp only [Option.bind_some, ev_lstT, h3, h4]
theorem append_ok {l : List D} {d : D} (h1 : top d = false) (h2 : l.length < 16777216) : gAppend l [d] = some (.non, l ++ [d]) := by
  rw [ev_append, h1, decide_eq_false (by omega)]; rfl
end Ow

namespace W_losesone_k03_whole_letter_products
open PySem PySem.Spec PyProof.Rows L2 Ow

def topS (i : Nat) : Stmt := PySem.Challenge.pw_losesone_k03_whole_letter_products.main.body.getD i (.Pass ⟨0, 0, 0, 0⟩)
abbrev s_letter_pair : Stmt := topS 1
theorem sc_letter_pair : FnScope ["i", "j", "floors", "sign", "place", "lot", "f", "high", "is_first", "is_second"] ["i", "j", "floors"] (defScope s_letter_pair) := ⟨rfl, rfl, rfl, by decide +kernel, rfl, by decide +kernel, by decide +kernel⟩
abbrev s_letter_word : Stmt := topS 2
theorem sc_letter_word : FnScope ["word", "row", "floors", "sign", "letter", "exponents", "one", "other", "lot", "f", "a", "b"] ["word", "row", "floors"] (defScope s_letter_word) := ⟨rfl, rfl, rfl, by decide +kernel, rfl, by decide +kernel, by decide +kernel⟩
abbrev s__law_own_bag : Stmt := topS 4
theorem sc__law_own_bag : FnScope ["script", "most", "cells", "mixed", "cell"] ["script"] (defScope s__law_own_bag) := ⟨rfl, rfl, rfl, by decide +kernel, rfl, by decide +kernel, by decide +kernel⟩
abbrev s__law_draw : Stmt := topS 5
theorem sc__law_draw : FnScope ["bag", "below", "turn", "cell", "found"] ["bag", "below"] (defScope s__law_draw) := ⟨rfl, rfl, rfl, by decide +kernel, rfl, by decide +kernel, by decide +kernel⟩
abbrev s__law_pick : Stmt := topS 6
theorem sc__law_pick : FnScope ["bag", "some"] ["bag", "some"] (defScope s__law_pick) := ⟨rfl, rfl, rfl, by decide +kernel, rfl, by decide +kernel, by decide +kernel⟩
abbrev s__law_powers : Stmt := topS 7
theorem sc__law_powers : FnScope ["floors", "found", "f"] ["floors"] (defScope s__law_powers) := ⟨rfl, rfl, rfl, by decide +kernel, rfl, by decide +kernel, by decide +kernel⟩
abbrev s__law_xor : Stmt := topS 8
theorem sc__law_xor : FnScope ["i", "j"] ["i", "j"] (defScope s__law_xor) := ⟨rfl, rfl, rfl, by decide +kernel, rfl, by decide +kernel, by decide +kernel⟩
abbrev s__law_own_letter : Stmt := topS 9
theorem sc__law_own_letter : FnScope ["bag", "floors", "powers", "row", "is_free", "whole", "way", "few", "turn", "other", "top", "high", "low", "h"] ["bag", "floors", "powers", "row", "is_free"] (defScope s__law_own_letter) := ⟨rfl, rfl, rfl, by decide +kernel, rfl, by decide +kernel, by decide +kernel⟩
abbrev s__law_own_sign : Stmt := topS 10
theorem sc__law_own_sign : FnScope ["i", "j", "downs", "sign", "h"] ["i", "j", "downs"] (defScope s__law_own_sign) := ⟨rfl, rfl, rfl, by decide +kernel, rfl, by decide +kernel, by decide +kernel⟩
abbrev s__law_own_counts : Stmt := topS 11
theorem sc__law_own_counts : FnScope ["letters", "powers", "found", "h", "letter"] ["letters", "powers"] (defScope s__law_own_counts) := ⟨rfl, rfl, rfl, by decide +kernel, rfl, by decide +kernel, by decide +kernel⟩
abbrev s__law_own_place : Stmt := topS 12
theorem sc__law_own_place : FnScope ["counts", "powers", "h", "many"] ["counts", "powers"] (defScope s__law_own_place) := ⟨rfl, rfl, rfl, by decide +kernel, rfl, by decide +kernel, by decide +kernel⟩
abbrev s__law_own_pair : Stmt := topS 13
theorem sc__law_own_pair : FnScope ["i", "j", "powers", "downs", "counts", "lot", "f", "many"] ["i", "j", "powers", "downs"] (defScope s__law_own_pair) := ⟨rfl, rfl, rfl, by decide +kernel, rfl, by decide +kernel, by decide +kernel⟩
abbrev s__law_word_sign : Stmt := topS 14
theorem sc__law_word_sign : FnScope ["word", "row", "downs", "sign", "letter", "one", "i", "two", "j"] ["word", "row", "downs"] (defScope s__law_word_sign) := ⟨rfl, rfl, rfl, by decide +kernel, rfl, by decide +kernel, by decide +kernel⟩
abbrev s__law_about : Stmt := topS 15
theorem sc__law_about : FnScope ["bag", "part", "room", "word", "deep", "often", "turn"] ["bag", "part", "room"] (defScope s__law_about) := ⟨rfl, rfl, rfl, by decide +kernel, rfl, by decide +kernel, by decide +kernel⟩
abbrev s__law_own_word : Stmt := topS 16
theorem sc__law_own_word : FnScope ["bag", "letters", "is_plain", "rest", "parts", "many", "place", "letter", "left", "at", "one", "two", "deep", "part"] ["bag", "letters", "is_plain"] (defScope s__law_own_word) := ⟨rfl, rfl, rfl, by decide +kernel, rfl, by decide +kernel, by decide +kernel⟩
abbrev s__law_is_told : Stmt := topS 17
theorem sc__law_is_told : FnScope ["told", "due"] ["told", "due"] (defScope s__law_is_told) := ⟨rfl, rfl, rfl, by decide +kernel, rfl, by decide +kernel, by decide +kernel⟩
abbrev s__law_is_pair_right : Stmt := topS 18
theorem sc__law_is_pair_right : FnScope ["i", "j", "floors", "due"] ["i", "j", "floors", "due"] (defScope s__law_is_pair_right) := ⟨rfl, rfl, rfl, by decide +kernel, rfl, by decide +kernel, by decide +kernel⟩
abbrev s__law_is_word_right : Stmt := topS 19
theorem sc__law_is_word_right : FnScope ["word", "row", "floors", "due", "kept"] ["word", "row", "floors", "due"] (defScope s__law_is_word_right) := ⟨rfl, rfl, rfl, by decide +kernel, rfl, by decide +kernel, by decide +kernel⟩
abbrev s__law_is_pairs_turn_right : Stmt := topS 20
theorem sc__law_is_pairs_turn_right : FnScope ["bag", "floors", "row", "asked", "powers", "downs", "more", "turn", "i", "j", "due"] ["bag", "floors", "row", "asked"] (defScope s__law_is_pairs_turn_right) := ⟨rfl, rfl, rfl, by decide +kernel, rfl, by decide +kernel, by decide +kernel⟩
abbrev s__law_is_words_turn_right : Stmt := topS 21
theorem sc__law_is_words_turn_right : FnScope ["bag", "floors", "row", "asked", "powers", "downs", "more", "letters", "sorts", "is_unlike", "place", "letter", "need", "counts", "exponents", "turn", "word", "some", "due", "longer", "many"] ["bag", "floors", "row", "asked"] (defScope s__law_is_words_turn_right) := ⟨rfl, rfl, rfl, by decide +kernel, rfl, by decide +kernel, by decide +kernel⟩
abbrev s_law : Stmt := topS 22
theorem sc_law : FnScope ["script", "bag", "asked", "first", "turn", "way", "floors", "powers", "row", "place", "name", "one", "two", "due"] ["script"] (defScope s_law) := ⟨rfl, rfl, rfl, by decide +kernel, rfl, by decide +kernel, by decide +kernel⟩
/-! ### letter_pair -/
noncomputable def B_letter_pair_1 : MS := (sSeq (sSet 7 (mB dShl [.vl (mC (.int 1)), .nm 6]))
  (sSeq (sPar [8, 9] [(mB dGe [.nm 0, .nm 7]), (mB dGe [.nm 1, .nm 7])])
  (sSeq (sPar [0, 1] [(mB dMod [.nm 0, .nm 7]), (mB dMod [.nm 1, .nm 7])])
  (sSeq (sIf (mAnd (mTr (mNm 8)) (mB dGt [.nm 1, .vl (mC (.int 0))]))
  (sSet 3 (mB dNeg [.nm 3]))
  sNx)
  (sSeq (sIf (mB dNeA [.nm 8, .nm 9])
  (sSet 4 (mB dAdd [.nm 4, .nm 7]))
  sNx)
  (sSeq (sIf (mAnd (mTr (mNm 8)) (mTr (mNm 9)))
  (sDo (mMut gAppend 5 [.vl (mNm 6)]))
  sNx)
  (sIf (mTr (mNm 9))
  (sPar [0, 1] [(mMv 1), (mMv 0)])
  sNx)))))))
noncomputable def S_letter_pair : MS := (sSeq (sPar [3, 4, 5] [(mC (.int 1)), (mC (.int 0)), (mB dLst [])])
  (sSeq (sFor (.nm 6) [.vl (mB dLstRg1 [.nm 2])] gRev B_letter_pair_1)
  (sRt (mB dTupl [.vl (mNm 3), .vl (mNm 4), .vl (mB dTupRev [.nm 5])]))))
noncomputable def M_letter_pair : MF := mF 3 10 (FX [2]) S_letter_pair
theorem ok_letter_pair {P : Program} {w : World} {K : PySem.W.Frag} {mg : Str → Option Value} {base : Heap} {fa : Addr} {fd : FuncData} (F : Fun K "letter_pair" "letter_pair" s_letter_pair fa fd) (z_list : mg "list" = none) (z_range : mg "range" = none) (z_reversed : mg "reversed" = none) (z_tuple : mg "tuple" = none) : FnG P w K mg base (0 + 1) fa fd ["i", "j", "floors"] (spF K mg 3 M_letter_pair) :=
  FnG.of F sc_letter_pair rfl rfl fun cdv A outer s0 H0 E hr hgd tk hp => (show PSs _ (defBody s_letter_pair) (tS _ _ (FX [2]) S_letter_pair) from (bCons (pPar3 rfl sc_letter_pair.nd (os1 oInt (os1 oInt (os1 (oLst aNil) os0))))
  (bCons (pFor (fx := FX [2]) (fx' := FX [2, 5]) hp rfl (iRev (by rfl) z_reversed (uV (oLstRg1 rfl z_list z_range (uNm 2)))) (gNm sc_letter_pair.nd)
  (bCons (pSet sc_letter_pair.nd (oBin op_shl meets_shl (uV oInt) (uNm 6)))
  (bCons (pPar2 rfl sc_letter_pair.nd (os1 (oCmp op_ge meets_ge (uNm 0) (uNm 7)) (os1 (oCmp op_ge meets_ge (uNm 1) (uNm 7)) os0)))
  (bCons (pPar2 rfl sc_letter_pair.nd (os1 (oBin op_mod meets_mod (uNm 0) (uNm 7)) (os1 (oBin op_mod meets_mod (uNm 1) (uNm 7)) os0)))
  (bCons (pIf (cB (cAnd (cTr (oNm 8)) (cAnd1 (cCmp op_gt meets_gt (uNm 1) (uV oInt)))))
  (bOne (pSet sc_letter_pair.nd (oUn un_neg meets_neg (uNm 3))))
  bNil)
  (bCons (pIf (cCmp (op_neZ hr.units) meets_neA (uNm 8) (uNm 9))
  (bOne (pSet sc_letter_pair.nd (oBin op_addA meets_add (uNm 4) (uNm 7))))
  bNil)
  (bCons (pIf (cB (cAnd (cTr (oNm 8)) (cAnd1 (cTr (oNm 9)))))
  (bOne (pDo (oMut (i := 5) PySem.F.slot_list_append PySem.F.type_list_append mt_append muts_append (aCons (uV (oNm 6)) aNil))))
  bNil)
  (bOne (pIf (cTr (oNm 9))
  (bOne (pPar2 rfl sc_letter_pair.nd (os1 (oMv 1) (os1 (oMv 0) os0))))
  bNil)))))))) (by rfl) (fx_le (by rfl)) (fx_tg (by rfl)))
  (bOne (pRt (oTup (aCons (uV (oNm 3)) (aCons (uV (oNm 4)) (aCons (uV (oTupRev rfl z_tuple z_reversed (uNm 5))) aNil)))))))))
/-! ### letter_word -/
noncomputable def B_letter_word_1' (F : MF) : MS := (sPut 5 (mB dAdd [.vl (mB dIx [.nm 5, .nm 9]), .vl (mC (.int 1))]) (iNm 9))
noncomputable def S_letter_word (F : MF) : MS := (sSeq (sIf (mNot (mB (dIsi "tuple") [.nm 0]))
  (sRt (mB dTupl [.vl (mC (.int 1)), .vl (mB dIx [.nm 1, .nm 0]), .vl (mB dMulA [.vl (mB dTupl [.vl (mC (.int 0))]), .nm 2])]))
  sNx)
  (sSeq (sIf (mB dEqA [.vl (mB dIx [.nm 0, .vl (mC (.int 0))]), .vl (mC (.str "turned"))])
  (sSeq (sTg (.tp [(.nm 3), (.nm 4), (.nm 5)]) (mCall F [.vl (mB dIx [.nm 0, .vl (mC (.int 1))]), .nm 1, .nm 2]))
  (sRt (mB dTupl [.vl (mIf (mB dEqA [.nm 4, .vl (mC (.int 0))]) (mNm 3) (mB dNeg [.nm 3])), .vl (mNm 4), .vl (mNm 5)])))
  sNx)
  (sSeq (sPar [6, 7] [(mCall F [.vl (mB dIx [.nm 0, .vl (mC (.int 1))]), .nm 1, .nm 2]), (mCall F [.vl (mB dIx [.nm 0, .vl (mC (.int 2))]), .nm 1, .nm 2])])
  (sSeq (sTg (.tp [(.nm 3), (.nm 4), (.nm 8)]) (mCall M_letter_pair [.vl (mB dIx [.nm 6, .vl (mC (.int 1))]), .vl (mB dIx [.nm 7, .vl (mC (.int 1))]), .nm 2]))
  (sSeq (sSet 5 (mLc (.tp [(.nm 10), (.nm 11)]) [.vl (mB dIx [.nm 6, .vl (mC (.int 2))]), .vl (mB dIx [.nm 7, .vl (mC (.int 2))])] gZip [10, 11] (mC (.bl true)) (mB dAdd [.nm 10, .nm 11])))
  (sSeq (sFor (.nm 9) [.nm 8] gSeq (B_letter_word_1' F))
  (sRt (mB dTupl [.vl (mB dMulA [.vl (mB dMulA [.nm 3, .vl (mB dIx [.nm 6, .vl (mC (.int 0))])]), .vl (mB dIx [.nm 7, .vl (mC (.int 0))])]), .vl (mNm 4), .vl (mB dTuple [.nm 5])]))))))))
noncomputable def M_letter_word : Nat → MF
  | 0 => fun _ => none
  | n + 1 => mF 3 12 (FX [0, 1, 2]) (S_letter_word (M_letter_word n))
theorem ok_letter_word {P : Program} {w : World} {K : PySem.W.Frag} {mg : Str → Option Value} {base : Heap} {fa : Addr} {fd : FuncData} (F : Fun K "letter_word" "letter_word" s_letter_word fa fd) (mgf : mg "letter_word" = some (.ref fa)) (bd : Binds K fd ["word", "row", "floors"] []) (z_isinstance : mg "isinstance" = none) (z_tuple : mg "tuple" = none) (z_zip : mg "zip" = none) (c_letter_pair : Callee P w K mg base 1 "letter_pair" 3 M_letter_pair) : ∀ n : Nat, FnG P w K mg base (n + 2) fa fd ["word", "row", "floors"] (spF K mg 3 (M_letter_word n))
  | 0 => ⟨fun vs H Q E h => h.1, fun A outer s H args us vs Q E hr hgd e0 hb r h => by obtain ⟨_, _, _, _, _, _, h, _⟩ := h; cases h⟩
  | n + 1 => by
    have c_letter_word : Callee P w K mg base (n + 2) "letter_word" 3 (M_letter_word n) := ⟨_, _, _, rfl, ok_letter_word F mgf bd z_isinstance z_tuple z_zip c_letter_pair n, mgf, F.kp, bd⟩
    have r : FnG P w K mg base ((n + 2) + 1) fa fd ["word", "row", "floors"] (spF K mg 3 (M_letter_word (n + 1))) := FnG.of F sc_letter_word rfl rfl fun cdv A outer s0 H0 E hr hgd tk hp => (show PSs _ (defBody s_letter_word) (tS _ _ (FX [0, 1, 2]) (S_letter_word (M_letter_word n))) from (bCons (pIf (cNot (cV (oIsi "tuple" (uNm 0) z_isinstance z_tuple)))
  (bOne (pRt (oTup (aCons (uV oInt) (aCons (uV (oIx (uNm 1) (uNm 0))) (aCons (uV (oBin op_mulZ meets_mulA (uV (oTup (aCons (uV oInt) aNil))) (uNm 2))) aNil))))))
  bNil)
  (bCons (pIf (cCmp (op_eqZ hr.units) meets_eqA (uV (oIx (uNm 0) (uV oInt))) (uV oStr))
  (bCons (pTg (oCall c_letter_word (hr.mono (by omega)) hgd tk (aCons (uV (oIx (uNm 0) (uV oInt))) (aCons (uNm 1) (aCons (uNm 2) aNil)))) (gTp rfl (gsCons (gNm sc_letter_word.nd) (gsCons (gNm sc_letter_word.nd) (gsCons (gNm sc_letter_word.nd) gsNil)))) (fx_tg (by rfl)))
  (bOne (pRt (oTup (aCons (uV (oIf (cCmp (op_eqZ hr.units) meets_eqA (uNm 4) (uV oInt)) (oNm 3) (oUn un_neg meets_neg (uNm 3)))) (aCons (uV (oNm 4)) (aCons (uV (oNm 5)) aNil)))))))
  bNil)
  (bCons (pPar2 rfl sc_letter_word.nd (os1 (oCall c_letter_word (hr.mono (by omega)) hgd tk (aCons (uV (oIx (uNm 0) (uV oInt))) (aCons (uNm 1) (aCons (uNm 2) aNil)))) (os1 (oCall c_letter_word (hr.mono (by omega)) hgd tk (aCons (uV (oIx (uNm 0) (uV oInt))) (aCons (uNm 1) (aCons (uNm 2) aNil)))) os0)))
  (bCons (pTg (oCall c_letter_pair (hr.mono (by omega)) hgd tk (aCons (uV (oIx (uNm 6) (uV oInt))) (aCons (uV (oIx (uNm 7) (uV oInt))) (aCons (uNm 2) aNil)))) (gTp rfl (gsCons (gNm sc_letter_word.nd) (gsCons (gNm sc_letter_word.nd) (gsCons (gNm sc_letter_word.nd) gsNil)))) (fx_tg (by rfl)))
  (bCons (pSetLc rfl sc_letter_word.nd (iZp (by rfl) z_zip (aCons (uV (oIx (uNm 6) (uV oInt))) (aCons (uV (oIx (uNm 7) (uV oInt))) aNil))) (blkOk_by (own := [("a", 10), ("b", 11)]) (by kernel_rfl)) (fun _ _ _ _ _ => (gTp rfl (gsCons (gNm sc_letter_word.nd) (gsCons (gNm sc_letter_word.nd) gsNil)))) (fun _ _ _ _ _ => q0) (fun _ _ _ _ _ => (oBin op_addA meets_add (uNm 10) (uNm 11))) (by rfl) (tgt_in (by decide)) (sw_true rfl rfl rfl rfl))
  (bCons (pFor (fx := FX [0, 1, 2]) (fx' := FX [0, 1, 2, 3, 4, 5, 6, 7, 8, 10, 11]) hp rfl (iSeq (uNm 8)) (gNm sc_letter_word.nd)
  (bOne (pPut (i := 5) (oBin op_addA meets_add (uV (oIx (uNm 5) (uNm 9))) (uV oInt)) (qNm 9))) (by rfl) (fx_le (by rfl)) (fx_tg (by rfl)))
  (bOne (pRt (oTup (aCons (uV (oBin op_mulZ meets_mulA (uV (oBin op_mulZ meets_mulA (uNm 3) (uV (oIx (uNm 6) (uV oInt))))) (uV (oIx (uNm 7) (uV oInt))))) (aCons (uV (oNm 4)) (aCons (uV (oCallT call_tuple_of meets_tuple (aCons (uNm 5) aNil) (by rfl) z_tuple (by decide +kernel))) aNil)))))))))))))
    exact r.more (by omega)
/-! ### _law_own_bag -/
noncomputable def B__law_own_bag_1 : MS := (sSet 3 (mB dMod [.vl (mB dInt [.vl (mB dAdd [.vl (mB dAdd [.vl (mB dMulA [.nm 3, .vl (mC (.int 48271))]), .vl (mB dMod [.vl (mB dInt [.nm 4]), .vl (mC (.int 2147483629))])]), .vl (mC (.int 7))])]), .vl (mC (.int 2147483647))]))
noncomputable def S__law_own_bag : MS := (sSeq (sSet 1 (mB dPow [.vl (mB dPow [.vl (mC (.int 10)), .vl (mC (.int 57))]), .vl (mC (.int 7))]))
  (sSeq (sSet 2 (mLc (.nm 4) [.vl (mB (dSl false true) [.nm 0, .vl (mC (.int 63))])] gSeq [4] (mC (.bl true)) (mB dMod [.vl (mB dInt [.vl (mB dAbs [.nm 4])]), .nm 1])))
  (sSeq (sSet 3 (mB dAdd [.vl (mC (.int 8642)), .vl (mB dLen [.nm 2])]))
  (sSeq (sFor (.nm 4) [.nm 2] gSeq B__law_own_bag_1)
  (sRt (mLstO [(mB dLstRev [.vl (mB dList [.nm 2])]), (mC (.int 0)), (mNm 3)]))))))
noncomputable def M__law_own_bag : MF := mF 1 5 (FX [0]) S__law_own_bag
theorem ok__law_own_bag {P : Program} {w : World} {K : PySem.W.Frag} {mg : Str → Option Value} {base : Heap} {fa : Addr} {fd : FuncData} (F : Fun K "_law_own_bag" "_law_own_bag" s__law_own_bag fa fd) (z_abs : mg "abs" = none) (z_int : mg "int" = none) (z_len : mg "len" = none) (z_list : mg "list" = none) (z_reversed : mg "reversed" = none) : FnG P w K mg base (0 + 1) fa fd ["script"] (spF K mg 1 M__law_own_bag) :=
  FnG.of F sc__law_own_bag rfl rfl fun cdv A outer s0 H0 E hr hgd tk hp => (show PSs _ (defBody s__law_own_bag) (tS _ _ (FX [0]) S__law_own_bag) from (bCons (pSet sc__law_own_bag.nd (oBin op_powW meets_pow (uV (oBin op_powW meets_pow (uV oInt) (uV oInt))) (uV oInt)))
  (bCons (pSetLc rfl sc__law_own_bag.nd (iSeq (uV (oSlHi (uNm 0) (uV oInt)))) (blkOk_by (own := [("cell", 4)]) (by kernel_rfl)) (fun _ _ _ _ _ => (gNm sc__law_own_bag.nd)) (fun _ _ _ _ _ => q0) (fun _ _ _ _ _ => (oBin op_mod meets_mod (uV (oCallT call_int1 meets_int (aCons (uV (oCallB call_abs meets_abs (aCons (uNm 4) aNil) (by rfl) z_abs (by decide +kernel))) aNil) (by rfl) z_int (by decide +kernel))) (uNm 1))) (by rfl) (tgt_in (by decide)) (sw_true rfl rfl rfl rfl))
  (bCons (pSet sc__law_own_bag.nd (oBin op_addA meets_add (uV oInt) (uV (oCallB call_len meets_len (aCons (uNm 2) aNil) (by rfl) z_len (by decide +kernel)))))
  (bCons (pFor (fx := FX [0]) (fx' := FX [0, 1, 2]) hp rfl (iSeq (uNm 2)) (gNm sc__law_own_bag.nd)
  (bOne (pSet sc__law_own_bag.nd (oBin op_mod meets_mod (uV (oCallT call_int1 meets_int (aCons (uV (oBin op_addA meets_add (uV (oBin op_addA meets_add (uV (oBin op_mulZ meets_mulA (uNm 3) (uV oInt))) (uV (oBin op_mod meets_mod (uV (oCallT call_int1 meets_int (aCons (uNm 4) aNil) (by rfl) z_int (by decide +kernel))) (uV oInt))))) (uV oInt))) aNil) (by rfl) z_int (by decide +kernel))) (uV oInt)))) (by rfl) (fx_le (by rfl)) (fx_tg (by rfl)))
  (bOne (pRt (oLstO (os1 (oLstRev rfl z_list z_reversed (uV (oCallT call_list_of meets_list (aCons (uNm 2) aNil) (by rfl) z_list (by decide +kernel)))) (os1 oInt (os1 (oNm 3) os0)))))))))))
/-! ### _law_draw -/
noncomputable def B__law_draw_1 : MS := (sSeq (sIf (mOr (mB dGt [.vl (mB dIx [.nm 0, .vl (mC (.int 1))]), .vl (mC (.int 0))]) (mB dEqA [.pt 0 (.int 0), .il (iB dLst [])]))
  sBk
  sNx)
  (sSeq (sSet 3 (mMutP gPop 0 (.int 0) []))
  (sPut 0 (mIf (mB dGt [.nm 3, .vl (mB dPow [.vl (mC (.int 10)), .vl (mC (.int 9))])]) (mNm 3) (mC (.int 0))) (iC (.int 1)))))
noncomputable def S__law_draw : MS := (sSeq (sFor (.nm 2) [.vl (mC (.int 64))] gRng1 B__law_draw_1)
  (sSeq (sIf (mB dGt [.vl (mB dIx [.nm 0, .vl (mC (.int 1))]), .vl (mC (.int 0))])
  (sSeq (sSet 4 (mB dMod [.vl (mB dInt [.vl (mB dIx [.nm 0, .vl (mC (.int 1))])]), .nm 1]))
  (sSeq (sPut 0 (mB dFdiv [.vl (mB dIx [.nm 0, .vl (mC (.int 1))]), .nm 1]) (iC (.int 1)))
  (sRt (mMv 4))))
  sNx)
  (sSeq (sPut 0 (mB dMod [.vl (mB dInt [.vl (mB dAdd [.vl (mB dMulA [.vl (mB dIx [.nm 0, .vl (mC (.int 2))]), .vl (mC (.int 48271))]), .vl (mC (.int 11))])]), .vl (mC (.int 2147483647))]) (iC (.int 2)))
  (sRt (mB dMod [.vl (mB dInt [.vl (mB dFdiv [.vl (mB dMod [.vl (mB dInt [.vl (mB dMulA [.vl (mB dIx [.nm 0, .vl (mC (.int 2))]), .vl (mB dIx [.nm 0, .vl (mC (.int 2))])])]), .vl (mC (.int 2147483629))]), .vl (mC (.int 7))])]), .nm 1])))))
noncomputable def M__law_draw : MF := mF 2 5 (FX [0, 1]) S__law_draw
theorem ok__law_draw {P : Program} {w : World} {K : PySem.W.Frag} {mg : Str → Option Value} {base : Heap} {fa : Addr} {fd : FuncData} (F : Fun K "_law_draw" "_law_draw" s__law_draw fa fd) (z_int : mg "int" = none) (z_range : mg "range" = none) : FnG P w K mg base (0 + 1) fa fd ["bag", "below"] (spF K mg 2 M__law_draw) :=
  FnG.of F sc__law_draw rfl rfl fun cdv A outer s0 H0 E hr hgd tk hp => (show PSs _ (defBody s__law_draw) (tS _ _ (FX [0, 1]) S__law_draw) from (bCons (pFor (fx := FX [0, 1]) (fx' := FX [0, 1, 4]) hp rfl (iRg1 (by rfl) z_range (aCons (uV oInt) aNil)) (gNm sc__law_draw.nd)
  (bCons (pIf (cB (cOr (cCmp op_gt meets_gt (uV (oIx (uNm 0) (uV oInt))) (uV oInt)) (cOr1 (cCmp (op_eqZ hr.units) meets_eqA (uPl 0) (uI (qLst (W := W0) aNil))))))
  (bOne pBk)
  bNil)
  (bCons (pSet sc__law_draw.nd (oMutP0 PySem.F.slot_list_pop PySem.F.type_list_pop mt_pop muts_pop (uPl 0)))
  (bOne (pPut (i := 0) (oIf (cCmp op_gt meets_gt (uNm 3) (uV (oBin op_powW meets_pow (uV oInt) (uV oInt)))) (oNm 3) oInt) qInt)))) (by rfl) (fx_le (by rfl)) (fx_tg (by rfl)))
  (bCons (pIf (cCmp op_gt meets_gt (uV (oIx (uNm 0) (uV oInt))) (uV oInt))
  (bCons (pSet sc__law_draw.nd (oBin op_mod meets_mod (uV (oCallT call_int1 meets_int (aCons (uV (oIx (uNm 0) (uV oInt))) aNil) (by rfl) z_int (by decide +kernel))) (uNm 1)))
  (bCons (pPut (i := 0) (oBin op_fdivW meets_fdiv (uV (oIx (uNm 0) (uV oInt))) (uNm 1)) qInt)
  (bOne (pRt (oMv 4)))))
  bNil)
  (bCons (pPut (i := 0) (oBin op_mod meets_mod (uV (oCallT call_int1 meets_int (aCons (uV (oBin op_addA meets_add (uV (oBin op_mulZ meets_mulA (uV (oIx (uNm 0) (uV oInt))) (uV oInt))) (uV oInt))) aNil) (by rfl) z_int (by decide +kernel))) (uV oInt)) qInt)
  (bOne (pRt (oBin op_mod meets_mod (uV (oCallT call_int1 meets_int (aCons (uV (oBin op_fdivW meets_fdiv (uV (oBin op_mod meets_mod (uV (oCallT call_int1 meets_int (aCons (uV (oBin op_mulZ meets_mulA (uV (oIx (uNm 0) (uV oInt))) (uV (oIx (uNm 0) (uV oInt))))) aNil) (by rfl) z_int (by decide +kernel))) (uV oInt))) (uV oInt))) aNil) (by rfl) z_int (by decide +kernel))) (uNm 1))))))))
/-! ### _law_pick -/
noncomputable def S__law_pick : MS := (sRt (mB dIx [.nm 1, .vl (mCall M__law_draw [.nm 0, .vl (mB dLen [.nm 1])])]))
noncomputable def M__law_pick : MF := mF 2 2 (FX [0, 1]) S__law_pick
theorem ok__law_pick {P : Program} {w : World} {K : PySem.W.Frag} {mg : Str → Option Value} {base : Heap} {fa : Addr} {fd : FuncData} (F : Fun K "_law_pick" "_law_pick" s__law_pick fa fd) (z_len : mg "len" = none) (c__law_draw : Callee P w K mg base 1 "_law_draw" 2 M__law_draw) : FnG P w K mg base (1 + 1) fa fd ["bag", "some"] (spF K mg 2 M__law_pick) :=
  FnG.of F sc__law_pick rfl rfl fun cdv A outer s0 H0 E hr hgd tk hp => (show PSs _ (defBody s__law_pick) (tS _ _ (FX [0, 1]) S__law_pick) from (bOne (pRt (oIx (uNm 1) (uV (oCall c__law_draw (hr.mono (by decide)) hgd tk (aCons (uNm 0) (aCons (uV (oCallB call_len meets_len (aCons (uNm 1) aNil) (by rfl) z_len (by decide +kernel))) aNil))))))))
/-! ### _law_powers -/
noncomputable def B__law_powers_1 : MS := (sDo (mMut gAppend 1 [.vl (mB dMulA [.vl (mB dIx [.nm 1, .vl (mB dNeg [.vl (mC (.int 1))])]), .vl (mC (.int 2))])]))
noncomputable def S__law_powers : MS := (sSeq (sSet 1 (mB dLst [.vl (mC (.int 1))]))
  (sSeq (sFor (.nm 2) [.nm 0] gRng1 B__law_powers_1)
  (sRt (mMv 1))))
noncomputable def M__law_powers : MF := mF 1 3 (FX [0]) S__law_powers
theorem ok__law_powers {P : Program} {w : World} {K : PySem.W.Frag} {mg : Str → Option Value} {base : Heap} {fa : Addr} {fd : FuncData} (F : Fun K "_law_powers" "_law_powers" s__law_powers fa fd) (z_range : mg "range" = none) : FnG P w K mg base (0 + 1) fa fd ["floors"] (spF K mg 1 M__law_powers) :=
  FnG.of F sc__law_powers rfl rfl fun cdv A outer s0 H0 E hr hgd tk hp => (show PSs _ (defBody s__law_powers) (tS _ _ (FX [0]) S__law_powers) from (bCons (pSet sc__law_powers.nd (oLst (aCons (uV oInt) aNil)))
  (bCons (pFor (fx := FX [0]) (fx' := FX [0, 1]) hp rfl (iRg1 (by rfl) z_range (aCons (uNm 0) aNil)) (gNm sc__law_powers.nd)
  (bOne (pDo (oMut (i := 1) PySem.F.slot_list_append PySem.F.type_list_append mt_append muts_append (aCons (uV (oBin op_mulZ meets_mulA (uV (oIx (uNm 1) (uV (oUn un_neg meets_neg (uV oInt))))) (uV oInt))) aNil)))) (by rfl) (fx_le (by rfl)) (fx_tg (by rfl)))
  (bOne (pRt (oMv 1))))))
/-! ### _law_xor -/
noncomputable def S__law_xor : MS := (sRt (mB dSub [.vl (mB dAdd [.nm 0, .nm 1]), .vl (mB dMulA [.vl (mC (.int 2)), .vl (mB dAnd [.nm 0, .nm 1])])]))
noncomputable def M__law_xor : MF := mF 2 2 (FX [0, 1]) S__law_xor
theorem ok__law_xor {P : Program} {w : World} {K : PySem.W.Frag} {mg : Str → Option Value} {base : Heap} {fa : Addr} {fd : FuncData} (F : Fun K "_law_xor" "_law_xor" s__law_xor fa fd) : FnG P w K mg base (0 + 1) fa fd ["i", "j"] (spF K mg 2 M__law_xor) :=
  FnG.of F sc__law_xor rfl rfl fun cdv A outer s0 H0 E hr hgd tk hp => (show PSs _ (defBody s__law_xor) (tS _ _ (FX [0, 1]) S__law_xor) from (bOne (pRt (oBin op_sub meets_sub (uV (oBin op_addA meets_add (uNm 0) (uNm 1))) (uV (oBin op_mulZ meets_mulA (uV oInt) (uV (oBin op_and meets_and (uNm 0) (uNm 1)))))))))
/-! ### _law_own_letter -/
noncomputable def B__law_own_letter_1 : MS := (sSet 7 (mB dAdd [.nm 7, .vl (mCall M__law_pick [.nm 0, .vl (mB dAdd [.vl (mLc (.nm 13) [.vl (mB (dSl false true) [.nm 2, .nm 1])] gSeq [13] (mB dEqA [.vl (mB dAnd [.nm 7, .nm 13]), .vl (mC (.int 0))]) (mNm 13)), .vl (mB dLst [.vl (mC (.int 0))])])])]))
noncomputable def S__law_own_letter : MS := (sSeq (sPar [5, 6] [(mB dSub [.vl (mB dIx [.nm 2, .nm 1]), .vl (mC (.int 1))]), (mIf (mTr (mNm 4)) (mCall M__law_pick [.nm 0, .vl (mB dLst [.vl (mC (.int 2)), .vl (mC (.int 3)), .vl (mC (.int 3)), .vl (mC (.int 4)), .vl (mC (.int 9)), .vl (mC (.int 9)), .vl (mC (.int 9))])]) (mCall M__law_draw [.nm 0, .vl (mC (.int 10))]))])
  (sSeq (sIf (mOr (mB dEqA [.nm 1, .vl (mC (.int 0))]) (mB dEqA [.nm 6, .vl (mC (.int 0))]))
  (sRt (mC (.int 0)))
  sNx)
  (sSeq (sIf (mB dEqA [.nm 6, .vl (mC (.int 1))])
  (sRt (mMv 5))
  sNx)
  (sSeq (sIf (mB dLt [.nm 6, .vl (mC (.int 5))])
  (sSeq (sSet 7 (mB dIx [.nm 2, .vl (mCall M__law_draw [.nm 0, .nm 1])]))
  (sSeq (sFor (.nm 8) [.vl (mIf (mB dGt [.nm 6, .vl (mC (.int 2))]) (mCall M__law_draw [.nm 0, .vl (mC (.int 4))]) (mC (.int 0)))] gRng1 B__law_own_letter_1)
  (sRt (mIf (mB dLt [.nm 6, .vl (mC (.int 4))]) (mMv 7) (mB dSub [.nm 5, .nm 7])))))
  sNx)
  (sSeq (sIf (mAnd (mB dNeA [.nm 3, .vl (mB dLst [])]) (mB dLt [.nm 6, .vl (mC (.int 8))]))
  (sSeq (sPar [9, 10] [(mCall M__law_pick [.nm 0, .nm 3]), (mB dIx [.nm 2, .vl (mB dSub [.nm 1, .vl (mC (.int 1))])])])
  (sSeq (sIf (mB dEqA [.nm 6, .vl (mC (.int 5))])
  (sRt (mMv 9))
  sNx)
  (sSeq (sIf (mB dEqA [.nm 6, .vl (mC (.int 6))])
  (sRt (mIf (mB dGe [.nm 9, .nm 10]) (mB dSub [.nm 9, .nm 10]) (mB dAdd [.nm 9, .nm 10])))
  sNx)
  (sRt (mCall M__law_xor [.nm 9, .vl (mCall M__law_pick [.nm 0, .nm 3])])))))
  sNx)
  (sSeq (sPar [11, 12] [(mCall M__law_draw [.nm 0, .vl (mB dPow [.vl (mC (.int 2)), .vl (mC (.int 20))])]), (mCall M__law_draw [.nm 0, .vl (mB dPow [.vl (mC (.int 2)), .vl (mC (.int 20))])])])
  (sRt (mB dMod [.vl (mB dInt [.vl (mB dAdd [.vl (mB dMulA [.vl (mB dAdd [.vl (mB dMulA [.nm 11, .vl (mB dPow [.vl (mC (.int 2)), .vl (mC (.int 20))])]), .nm 12]), .vl (mB dPow [.vl (mC (.int 2)), .vl (mC (.int 20))])]), .vl (mCall M__law_draw [.nm 0, .vl (mB dPow [.vl (mC (.int 2)), .vl (mC (.int 20))])])])]), .vl (mB dIx [.nm 2, .nm 1])]))))))))
noncomputable def M__law_own_letter : MF := mF 5 14 (FX [0, 1, 2, 3, 4]) S__law_own_letter
theorem ok__law_own_letter {P : Program} {w : World} {K : PySem.W.Frag} {mg : Str → Option Value} {base : Heap} {fa : Addr} {fd : FuncData} (F : Fun K "_law_own_letter" "_law_own_letter" s__law_own_letter fa fd) (z_int : mg "int" = none) (z_range : mg "range" = none) (c__law_draw : Callee P w K mg base 1 "_law_draw" 2 M__law_draw) (c__law_pick : Callee P w K mg base 2 "_law_pick" 2 M__law_pick) (c__law_xor : Callee P w K mg base 1 "_law_xor" 2 M__law_xor) : FnG P w K mg base (2 + 1) fa fd ["bag", "floors", "powers", "row", "is_free"] (spF K mg 5 M__law_own_letter) :=
  FnG.of F sc__law_own_letter rfl rfl fun cdv A outer s0 H0 E hr hgd tk hp => (show PSs _ (defBody s__law_own_letter) (tS _ _ (FX [0, 1, 2, 3, 4]) S__law_own_letter) from (bCons (pPar2 rfl sc__law_own_letter.nd (os1 (oBin op_sub meets_sub (uV (oIx (uNm 2) (uNm 1))) (uV oInt)) (os1 (oIf (cTr (oNm 4)) (oCall c__law_pick (hr.mono (by decide)) hgd tk (aCons (uNm 0) (aCons (uV (oLst (aCons (uV oInt) (aCons (uV oInt) (aCons (uV oInt) (aCons (uV oInt) (aCons (uV oInt) (aCons (uV oInt) (aCons (uV oInt) aNil))))))))) aNil))) (oCall c__law_draw (hr.mono (by decide)) hgd tk (aCons (uNm 0) (aCons (uV oInt) aNil)))) os0)))
  (bCons (pIf (cB (cOr (cCmp (op_eqZ hr.units) meets_eqA (uNm 1) (uV oInt)) (cOr1 (cCmp (op_eqZ hr.units) meets_eqA (uNm 6) (uV oInt)))))
  (bOne (pRt oInt))
  bNil)
  (bCons (pIf (cCmp (op_eqZ hr.units) meets_eqA (uNm 6) (uV oInt))
  (bOne (pRt (oMv 5)))
  bNil)
  (bCons (pIf (cCmp op_lt meets_lt (uNm 6) (uV oInt))
  (bCons (pSet sc__law_own_letter.nd (oIx (uNm 2) (uV (oCall c__law_draw (hr.mono (by decide)) hgd tk (aCons (uNm 0) (aCons (uNm 1) aNil))))))
  (bCons (pFor (fx := FX [0, 1, 2, 3, 4]) (fx' := FX [0, 1, 2, 3, 4, 5, 6, 9, 10, 11, 12, 13]) hp rfl (iRg1 (by rfl) z_range (aCons (uV (oIf (cCmp op_gt meets_gt (uNm 6) (uV oInt)) (oCall c__law_draw (hr.mono (by decide)) hgd tk (aCons (uNm 0) (aCons (uV oInt) aNil))) oInt)) aNil)) (gNm sc__law_own_letter.nd)
  (bOne (pSet sc__law_own_letter.nd (oBin op_addA meets_add (uNm 7) (uV (oCall c__law_pick (hr.mono (by decide)) hgd tk (aCons (uNm 0) (aCons (uV (oBin op_addA meets_add (uV (oLc rfl sc__law_own_letter.nd (iSeq (uV (oSlHi (uNm 2) (uNm 1)))) (blkOk_by (own := [("h", 13)]) (by kernel_rfl)) (fun _ _ _ _ _ => (gNm sc__law_own_letter.nd)) (fun _ _ _ _ _ => (q1 (cCmp (op_eqZ hr.units) meets_eqA (uV (oBin op_and meets_and (uNm 7) (uNm 13))) (uV oInt)))) (fun _ _ _ _ _ => (oNm 13)) (by rfl) (tgt_in (by decide)))) (uV (oLst (aCons (uV oInt) aNil))))) aNil))))))) (by rfl) (fx_le (by rfl)) (fx_tg (by rfl)))
  (bOne (pRt (oIf (cCmp op_lt meets_lt (uNm 6) (uV oInt)) (oMv 7) (oBin op_sub meets_sub (uNm 5) (uNm 7)))))))
  bNil)
  (bCons (pIf (cB (cAnd (cCmp (op_neZ hr.units) meets_neA (uNm 3) (uV (oLst aNil))) (cAnd1 (cCmp op_lt meets_lt (uNm 6) (uV oInt)))))
  (bCons (pPar2 rfl sc__law_own_letter.nd (os1 (oCall c__law_pick (hr.mono (by decide)) hgd tk (aCons (uNm 0) (aCons (uNm 3) aNil))) (os1 (oIx (uNm 2) (uV (oBin op_sub meets_sub (uNm 1) (uV oInt)))) os0)))
  (bCons (pIf (cCmp (op_eqZ hr.units) meets_eqA (uNm 6) (uV oInt))
  (bOne (pRt (oMv 9)))
  bNil)
  (bCons (pIf (cCmp (op_eqZ hr.units) meets_eqA (uNm 6) (uV oInt))
  (bOne (pRt (oIf (cCmp op_ge meets_ge (uNm 9) (uNm 10)) (oBin op_sub meets_sub (uNm 9) (uNm 10)) (oBin op_addA meets_add (uNm 9) (uNm 10)))))
  bNil)
  (bOne (pRt (oCall c__law_xor (hr.mono (by decide)) hgd tk (aCons (uNm 9) (aCons (uV (oCall c__law_pick (hr.mono (by decide)) hgd tk (aCons (uNm 0) (aCons (uNm 3) aNil)))) aNil))))))))
  bNil)
  (bCons (pPar2 rfl sc__law_own_letter.nd (os1 (oCall c__law_draw (hr.mono (by decide)) hgd tk (aCons (uNm 0) (aCons (uV (oBin op_powW meets_pow (uV oInt) (uV oInt))) aNil))) (os1 (oCall c__law_draw (hr.mono (by decide)) hgd tk (aCons (uNm 0) (aCons (uV (oBin op_powW meets_pow (uV oInt) (uV oInt))) aNil))) os0)))
  (bOne (pRt (oBin op_mod meets_mod (uV (oCallT call_int1 meets_int (aCons (uV (oBin op_addA meets_add (uV (oBin op_mulZ meets_mulA (uV (oBin op_addA meets_add (uV (oBin op_mulZ meets_mulA (uNm 11) (uV (oBin op_powW meets_pow (uV oInt) (uV oInt))))) (uNm 12))) (uV (oBin op_powW meets_pow (uV oInt) (uV oInt))))) (uV (oCall c__law_draw (hr.mono (by decide)) hgd tk (aCons (uNm 0) (aCons (uV (oBin op_powW meets_pow (uV oInt) (uV oInt))) aNil)))))) aNil) (by rfl) z_int (by decide +kernel))) (uV (oIx (uNm 2) (uNm 1)))))))))))))
/-! ### _law_own_sign -/
noncomputable def B__law_own_sign_1 : MS := (sSeq (sIf (mOr (mB dEqA [.nm 0, .vl (mC (.int 0))]) (mB dEqA [.nm 1, .vl (mC (.int 0))]))
  (sRt (mMv 3))
  sNx)
  (sIf (mB dGe [.nm 1, .nm 4])
  (sIf (mB dGe [.nm 0, .nm 4])
  (sSeq (sPar [0, 1] [(mB dSub [.nm 1, .nm 4]), (mB dSub [.nm 0, .nm 4])])
  (sSet 3 (mIf (mB dEqA [.nm 0, .vl (mC (.int 0))]) (mNm 3) (mB dNeg [.nm 3]))))
  (sPar [0, 1] [(mB dSub [.nm 1, .nm 4]), (mMv 0)]))
  (sIf (mB dGe [.nm 0, .nm 4])
  (sPar [0, 3] [(mB dSub [.nm 0, .nm 4]), (mB dNeg [.nm 3])])
  sNx)))
noncomputable def S__law_own_sign : MS := (sSeq (sSet 3 (mC (.int 1)))
  (sSeq (sFor (.nm 4) [.nm 2] gSeq B__law_own_sign_1)
  (sRt (mMv 3))))
noncomputable def M__law_own_sign : MF := mF 3 5 (FX [2]) S__law_own_sign
theorem ok__law_own_sign {P : Program} {w : World} {K : PySem.W.Frag} {mg : Str → Option Value} {base : Heap} {fa : Addr} {fd : FuncData} (F : Fun K "_law_own_sign" "_law_own_sign" s__law_own_sign fa fd) : FnG P w K mg base (0 + 1) fa fd ["i", "j", "downs"] (spF K mg 3 M__law_own_sign) :=
  FnG.of F sc__law_own_sign rfl rfl fun cdv A outer s0 H0 E hr hgd tk hp => (show PSs _ (defBody s__law_own_sign) (tS _ _ (FX [2]) S__law_own_sign) from (bCons (pSet sc__law_own_sign.nd oInt)
  (bCons (pFor (fx := FX [2]) (fx' := FX [2]) hp rfl (iSeq (uNm 2)) (gNm sc__law_own_sign.nd)
  (bCons (pIf (cB (cOr (cCmp (op_eqZ hr.units) meets_eqA (uNm 0) (uV oInt)) (cOr1 (cCmp (op_eqZ hr.units) meets_eqA (uNm 1) (uV oInt)))))
  (bOne (pRt (oMv 3)))
  bNil)
  (bOne (pIf (cCmp op_ge meets_ge (uNm 1) (uNm 4))
  (bOne (pIf (cCmp op_ge meets_ge (uNm 0) (uNm 4))
  (bCons (pPar2 rfl sc__law_own_sign.nd (os1 (oBin op_sub meets_sub (uNm 1) (uNm 4)) (os1 (oBin op_sub meets_sub (uNm 0) (uNm 4)) os0)))
  (bOne (pSet sc__law_own_sign.nd (oIf (cCmp (op_eqZ hr.units) meets_eqA (uNm 0) (uV oInt)) (oNm 3) (oUn un_neg meets_neg (uNm 3))))))
  (bOne (pPar2 rfl sc__law_own_sign.nd (os1 (oBin op_sub meets_sub (uNm 1) (uNm 4)) (os1 (oMv 0) os0))))))
  (bOne (pIf (cCmp op_ge meets_ge (uNm 0) (uNm 4))
  (bOne (pPar2 rfl sc__law_own_sign.nd (os1 (oBin op_sub meets_sub (uNm 0) (uNm 4)) (os1 (oUn un_neg meets_neg (uNm 3)) os0))))
  bNil))))) (by rfl) (fx_le (by rfl)) (fx_tg (by rfl)))
  (bOne (pRt (oMv 3))))))
/-! ### _law_own_counts -/
noncomputable def B__law_own_counts_1 : MS := (sDo (mMut gAppend 2 [.vl (mB dSum [.vl (mLc (.nm 4) [.nm 0] gSeq [4] (mB dGt [.vl (mB dAnd [.nm 4, .nm 3]), .vl (mC (.int 0))]) (mC (.int 1)))])]))
noncomputable def S__law_own_counts : MS := (sSeq (sSet 2 (mB dLst []))
  (sSeq (sFor (.nm 3) [.nm 1] gSeq B__law_own_counts_1)
  (sRt (mMv 2))))
noncomputable def M__law_own_counts : MF := mF 2 5 (FX [0, 1]) S__law_own_counts
theorem ok__law_own_counts {P : Program} {w : World} {K : PySem.W.Frag} {mg : Str → Option Value} {base : Heap} {fa : Addr} {fd : FuncData} (F : Fun K "_law_own_counts" "_law_own_counts" s__law_own_counts fa fd) (z_sum : mg "sum" = none) : FnG P w K mg base (0 + 1) fa fd ["letters", "powers"] (spF K mg 2 M__law_own_counts) :=
  FnG.of F sc__law_own_counts rfl rfl fun cdv A outer s0 H0 E hr hgd tk hp => (show PSs _ (defBody s__law_own_counts) (tS _ _ (FX [0, 1]) S__law_own_counts) from (bCons (pSet sc__law_own_counts.nd (oLst aNil))
  (bCons (pFor (fx := FX [0, 1]) (fx' := FX [0, 1, 2, 4]) hp rfl (iSeq (uNm 1)) (gNm sc__law_own_counts.nd)
  (bOne (pDo (oMut (i := 2) PySem.F.slot_list_append PySem.F.type_list_append mt_append muts_append (aCons (uV (oCallB (cr_sum rfl) meets_sum (aCons (uV (oLc rfl sc__law_own_counts.nd (iSeq (uNm 0)) (blkOk_by (own := [("letter", 4)]) (by kernel_rfl)) (fun _ _ _ _ _ => (gNm sc__law_own_counts.nd)) (fun _ _ _ _ _ => (q1 (cCmp op_gt meets_gt (uV (oBin op_and meets_and (uNm 4) (uNm 3))) (uV oInt)))) (fun _ _ _ _ _ => oInt) (by rfl) (tgt_in (by decide)))) aNil) (by rfl) z_sum (by decide +kernel))) aNil)))) (by rfl) (fx_le (by rfl)) (fx_tg (by rfl)))
  (bOne (pRt (oMv 2))))))
/-! ### _law_own_place -/
noncomputable def S__law_own_place : MS := (sRt (mB dSum [.vl (mLc (.tp [(.nm 2), (.nm 3)]) [.nm 1, .nm 0] gZip [2, 3] (mB dEqA [.vl (mB dMod [.vl (mB dInt [.nm 3]), .vl (mC (.int 2))]), .vl (mC (.int 1))]) (mNm 2))]))
noncomputable def M__law_own_place : MF := mF 2 4 (FX [0, 1]) S__law_own_place
theorem ok__law_own_place {P : Program} {w : World} {K : PySem.W.Frag} {mg : Str → Option Value} {base : Heap} {fa : Addr} {fd : FuncData} (F : Fun K "_law_own_place" "_law_own_place" s__law_own_place fa fd) (z_int : mg "int" = none) (z_sum : mg "sum" = none) (z_zip : mg "zip" = none) : FnG P w K mg base (0 + 1) fa fd ["counts", "powers"] (spF K mg 2 M__law_own_place) :=
  FnG.of F sc__law_own_place rfl rfl fun cdv A outer s0 H0 E hr hgd tk hp => (show PSs _ (defBody s__law_own_place) (tS _ _ (FX [0, 1]) S__law_own_place) from (bOne (pRt (oCallB (cr_sum rfl) meets_sum (aCons (uV (oLc rfl sc__law_own_place.nd (iZp (by rfl) z_zip (aCons (uNm 1) (aCons (uNm 0) aNil))) (blkOk_by (own := [("h", 2), ("many", 3)]) (by kernel_rfl)) (fun _ _ _ _ _ => (gTp rfl (gsCons (gNm sc__law_own_place.nd) (gsCons (gNm sc__law_own_place.nd) gsNil)))) (fun _ _ _ _ _ => (q1 (cCmp (op_eqZ hr.units) meets_eqA (uV (oBin op_mod meets_mod (uV (oCallT call_int1 meets_int (aCons (uNm 3) aNil) (by rfl) z_int (by decide +kernel))) (uV oInt))) (uV oInt)))) (fun _ _ _ _ _ => (oNm 2)) (by rfl) (tgt_in (by decide)))) aNil) (by rfl) z_sum (by decide +kernel)))))
/-! ### _law_own_pair -/
noncomputable def S__law_own_pair : MS := (sSeq (sSet 4 (mCall M__law_own_counts [.vl (mB dLst [.vl (mNm 0), .vl (mNm 1)]), .nm 2]))
  (sSeq (sSet 5 (mB dTuple [.vl (mLc (.tp [(.nm 6), (.nm 7)]) [.nm 4] gEnum [6, 7] (mB dEqA [.nm 7, .vl (mC (.int 2))]) (mNm 6))]))
  (sRt (mB dTupl [.vl (mCall M__law_own_sign [.nm 0, .nm 1, .nm 3]), .vl (mCall M__law_own_place [.nm 4, .nm 2]), .vl (mNm 5)]))))
noncomputable def M__law_own_pair : MF := mF 4 8 (FX [0, 1, 2, 3]) S__law_own_pair
theorem ok__law_own_pair {P : Program} {w : World} {K : PySem.W.Frag} {mg : Str → Option Value} {base : Heap} {fa : Addr} {fd : FuncData} (F : Fun K "_law_own_pair" "_law_own_pair" s__law_own_pair fa fd) (z_enumerate : mg "enumerate" = none) (z_tuple : mg "tuple" = none) (c__law_own_sign : Callee P w K mg base 1 "_law_own_sign" 3 M__law_own_sign) (c__law_own_counts : Callee P w K mg base 1 "_law_own_counts" 2 M__law_own_counts) (c__law_own_place : Callee P w K mg base 1 "_law_own_place" 2 M__law_own_place) : FnG P w K mg base (1 + 1) fa fd ["i", "j", "powers", "downs"] (spF K mg 4 M__law_own_pair) :=
  FnG.of F sc__law_own_pair rfl rfl fun cdv A outer s0 H0 E hr hgd tk hp => (show PSs _ (defBody s__law_own_pair) (tS _ _ (FX [0, 1, 2, 3]) S__law_own_pair) from (bCons (pSet sc__law_own_pair.nd (oCall c__law_own_counts (hr.mono (by decide)) hgd tk (aCons (uV (oLst (aCons (uV (oNm 0)) (aCons (uV (oNm 1)) aNil)))) (aCons (uNm 2) aNil))))
  (bCons (pSet sc__law_own_pair.nd (oCallT call_tuple_of meets_tuple (aCons (uV (oLc rfl sc__law_own_pair.nd (iEnu (by rfl) z_enumerate (aCons (uNm 4) aNil)) (blkOk_by (own := [("f", 6), ("many", 7)]) (by kernel_rfl)) (fun _ _ _ _ _ => (gTp rfl (gsCons (gNm sc__law_own_pair.nd) (gsCons (gNm sc__law_own_pair.nd) gsNil)))) (fun _ _ _ _ _ => (q1 (cCmp (op_eqZ hr.units) meets_eqA (uNm 7) (uV oInt)))) (fun _ _ _ _ _ => (oNm 6)) (by rfl) (tgt_in (by decide)))) aNil) (by rfl) z_tuple (by decide +kernel)))
  (bOne (pRt (oTup (aCons (uV (oCall c__law_own_sign (hr.mono (by decide)) hgd tk (aCons (uNm 0) (aCons (uNm 1) (aCons (uNm 3) aNil))))) (aCons (uV (oCall c__law_own_place (hr.mono (by decide)) hgd tk (aCons (uNm 4) (aCons (uNm 2) aNil)))) (aCons (uV (oNm 5)) aNil)))))))))
/-! ### _law_word_sign -/
noncomputable def S__law_word_sign (F : MF) : MS := (sSeq (sIf (mB (dIsi "int") [.nm 0])
  (sRt (mB dTupl [.vl (mC (.int 1)), .vl (mB dIx [.nm 1, .nm 0])]))
  sNx)
  (sSeq (sIf (mB dEqA [.vl (mB dIx [.nm 0, .vl (mC (.int 0))]), .vl (mC (.str "turned"))])
  (sSeq (sTg (.tp [(.nm 3), (.nm 4)]) (mCall F [.vl (mB dIx [.nm 0, .vl (mC (.int 1))]), .nm 1, .nm 2]))
  (sRt (mB dTupl [.vl (mIf (mB dEqA [.nm 4, .vl (mC (.int 0))]) (mNm 3) (mB dNeg [.nm 3])), .vl (mNm 4)])))
  sNx)
  (sSeq (sTg (.tp [(.nm 5), (.nm 6)]) (mCall F [.vl (mB dIx [.nm 0, .vl (mC (.int 1))]), .nm 1, .nm 2]))
  (sSeq (sTg (.tp [(.nm 7), (.nm 8)]) (mCall F [.vl (mB dIx [.nm 0, .vl (mC (.int 2))]), .nm 1, .nm 2]))
  (sRt (mB dTupl [.vl (mB dMulA [.vl (mB dMulA [.nm 5, .nm 7]), .vl (mCall M__law_own_sign [.nm 6, .nm 8, .nm 2])]), .vl (mCall M__law_xor [.nm 6, .nm 8])]))))))
noncomputable def M__law_word_sign : Nat → MF
  | 0 => fun _ => none
  | n + 1 => mF 3 9 (FX [0, 1, 2]) (S__law_word_sign (M__law_word_sign n))
theorem ok__law_word_sign {P : Program} {w : World} {K : PySem.W.Frag} {mg : Str → Option Value} {base : Heap} {fa : Addr} {fd : FuncData} (F : Fun K "_law_word_sign" "_law_word_sign" s__law_word_sign fa fd) (mgf : mg "_law_word_sign" = some (.ref fa)) (bd : Binds K fd ["word", "row", "downs"] []) (z_int : mg "int" = none) (z_isinstance : mg "isinstance" = none) (c__law_xor : Callee P w K mg base 1 "_law_xor" 2 M__law_xor) (c__law_own_sign : Callee P w K mg base 1 "_law_own_sign" 3 M__law_own_sign) : ∀ n : Nat, FnG P w K mg base (n + 2) fa fd ["word", "row", "downs"] (spF K mg 3 (M__law_word_sign n))
  | 0 => ⟨fun vs H Q E h => h.1, fun A outer s H args us vs Q E hr hgd e0 hb r h => by obtain ⟨_, _, _, _, _, _, h, _⟩ := h; cases h⟩
  | n + 1 => by
    have c__law_word_sign : Callee P w K mg base (n + 2) "_law_word_sign" 3 (M__law_word_sign n) := ⟨_, _, _, rfl, ok__law_word_sign F mgf bd z_int z_isinstance c__law_xor c__law_own_sign n, mgf, F.kp, bd⟩
    have r : FnG P w K mg base ((n + 2) + 1) fa fd ["word", "row", "downs"] (spF K mg 3 (M__law_word_sign (n + 1))) := FnG.of F sc__law_word_sign rfl rfl fun cdv A outer s0 H0 E hr hgd tk hp => (show PSs _ (defBody s__law_word_sign) (tS _ _ (FX [0, 1, 2]) (S__law_word_sign (M__law_word_sign n))) from (bCons (pIf (cV (oIsi "int" (uNm 0) z_isinstance z_int))
  (bOne (pRt (oTup (aCons (uV oInt) (aCons (uV (oIx (uNm 1) (uNm 0))) aNil)))))
  bNil)
  (bCons (pIf (cCmp (op_eqZ hr.units) meets_eqA (uV (oIx (uNm 0) (uV oInt))) (uV oStr))
  (bCons (pTg (oCall c__law_word_sign (hr.mono (by omega)) hgd tk (aCons (uV (oIx (uNm 0) (uV oInt))) (aCons (uNm 1) (aCons (uNm 2) aNil)))) (gTp rfl (gsCons (gNm sc__law_word_sign.nd) (gsCons (gNm sc__law_word_sign.nd) gsNil))) (fx_tg (by rfl)))
  (bOne (pRt (oTup (aCons (uV (oIf (cCmp (op_eqZ hr.units) meets_eqA (uNm 4) (uV oInt)) (oNm 3) (oUn un_neg meets_neg (uNm 3)))) (aCons (uV (oNm 4)) aNil))))))
  bNil)
  (bCons (pTg (oCall c__law_word_sign (hr.mono (by omega)) hgd tk (aCons (uV (oIx (uNm 0) (uV oInt))) (aCons (uNm 1) (aCons (uNm 2) aNil)))) (gTp rfl (gsCons (gNm sc__law_word_sign.nd) (gsCons (gNm sc__law_word_sign.nd) gsNil))) (fx_tg (by rfl)))
  (bCons (pTg (oCall c__law_word_sign (hr.mono (by omega)) hgd tk (aCons (uV (oIx (uNm 0) (uV oInt))) (aCons (uNm 1) (aCons (uNm 2) aNil)))) (gTp rfl (gsCons (gNm sc__law_word_sign.nd) (gsCons (gNm sc__law_word_sign.nd) gsNil))) (fx_tg (by rfl)))
  (bOne (pRt (oTup (aCons (uV (oBin op_mulZ meets_mulA (uV (oBin op_mulZ meets_mulA (uNm 5) (uNm 7))) (uV (oCall c__law_own_sign (hr.mono (by omega)) hgd tk (aCons (uNm 6) (aCons (uNm 8) (aCons (uNm 2) aNil))))))) (aCons (uV (oCall c__law_xor (hr.mono (by omega)) hgd tk (aCons (uNm 6) (aCons (uNm 8) aNil)))) aNil))))))))))
    exact r.more (by omega)
/-! ### _law_about -/
noncomputable def B__law_about_1 : MS := (sSet 3 (mB dTupl [.vl (mC (.str "turned")), .vl (mNm 3)]))
noncomputable def S__law_about : MS := (sSeq (sTg (.tp [(.nm 3), (.nm 4)]) (mNm 1))
  (sSeq (sSet 5 (mB dMin2 [.nm 2, .vl (mIf (mB dGt [.nm 2, .vl (mC (.int 0))]) (mCall M__law_pick [.nm 0, .vl (mB dLst [.vl (mC (.int 0)), .vl (mC (.int 0)), .vl (mC (.int 0)), .vl (mC (.int 1)), .vl (mC (.int 1)), .vl (mC (.int 2)), .vl (mC (.int 3)), .vl (mCall M__law_draw [.nm 0, .vl (mC (.int 21))])])]) (mC (.int 0)))]))
  (sSeq (sFor (.nm 6) [.nm 5] gRng1 B__law_about_1)
  (sRt (mB dTupl [.vl (mNm 3), .vl (mB dAdd [.nm 4, .nm 5])])))))
noncomputable def M__law_about : MF := mF 3 7 (FX [0, 1, 2]) S__law_about
theorem ok__law_about {P : Program} {w : World} {K : PySem.W.Frag} {mg : Str → Option Value} {base : Heap} {fa : Addr} {fd : FuncData} (F : Fun K "_law_about" "_law_about" s__law_about fa fd) (z_min : mg "min" = none) (z_range : mg "range" = none) (c__law_draw : Callee P w K mg base 1 "_law_draw" 2 M__law_draw) (c__law_pick : Callee P w K mg base 2 "_law_pick" 2 M__law_pick) : FnG P w K mg base (2 + 1) fa fd ["bag", "part", "room"] (spF K mg 3 M__law_about) :=
  FnG.of F sc__law_about rfl rfl fun cdv A outer s0 H0 E hr hgd tk hp => (show PSs _ (defBody s__law_about) (tS _ _ (FX [0, 1, 2]) S__law_about) from (bCons (pTg (oNm 1) (gTp rfl (gsCons (gNm sc__law_about.nd) (gsCons (gNm sc__law_about.nd) gsNil))) (fx_tg (by rfl)))
  (bCons (pSet sc__law_about.nd (oCallB (call_min2 rfl) meets_min2 (aCons (uNm 2) (aCons (uV (oIf (cCmp op_gt meets_gt (uNm 2) (uV oInt)) (oCall c__law_pick (hr.mono (by decide)) hgd tk (aCons (uNm 0) (aCons (uV (oLst (aCons (uV oInt) (aCons (uV oInt) (aCons (uV oInt) (aCons (uV oInt) (aCons (uV oInt) (aCons (uV oInt) (aCons (uV oInt) (aCons (uV (oCall c__law_draw (hr.mono (by decide)) hgd tk (aCons (uNm 0) (aCons (uV oInt) aNil)))) aNil)))))))))) aNil))) oInt)) aNil)) (by rfl) z_min (by decide +kernel)))
  (bCons (pFor (fx := FX [0, 1, 2]) (fx' := FX [0, 1, 2, 4, 5]) hp rfl (iRg1 (by rfl) z_range (aCons (uNm 5) aNil)) (gNm sc__law_about.nd)
  (bOne (pSet sc__law_about.nd (oTup (aCons (uV oStr) (aCons (uV (oNm 3)) aNil))))) (by rfl) (fx_le (by rfl)) (fx_tg (by rfl)))
  (bOne (pRt (oTup (aCons (uV (oNm 3)) (aCons (uV (oBin op_addA meets_add (uNm 4) (uNm 5))) aNil)))))))))
/-! ### _law_own_word -/
noncomputable def B__law_own_word_1 : MS := (sSeq (sSet 7 (mMut gPopAt 3 [.vl (mCall M__law_draw [.nm 0, .vl (mB dLen [.nm 3])])]))
  (sDo (mMut gAppend 4 [.vl (mCall M__law_about [.nm 0, .vl (mB dTupl [.vl (mNm 7), .vl (mC (.int 0))]), .vl (mIf (mTr (mNm 2)) (mC (.int 0)) (mB dSub [.vl (mC (.int 21)), .nm 5]))])])))
noncomputable def B__law_own_word_2 : MS := (sSeq (sSet 9 (mCall M__law_draw [.nm 0, .nm 8]))
  (sSeq (sPar [10, 11] [(mB dIx [.nm 4, .nm 9]), (mB dIx [.nm 4, .vl (mB dAdd [.nm 9, .vl (mC (.int 1))])])])
  (sSeq (sSet 12 (mB dAdd [.vl (mC (.int 1)), .vl (mB dMax2 [.vl (mB dIx [.nm 10, .vl (mC (.int 1))]), .vl (mB dIx [.nm 11, .vl (mC (.int 1))])])]))
  (sSeq (sSet 13 (mCall M__law_about [.nm 0, .vl (mB dTupl [.vl (mB dTupl [.vl (mC (.str "times")), .vl (mB dIx [.nm 10, .vl (mC (.int 0))]), .vl (mB dIx [.nm 11, .vl (mC (.int 0))])]), .vl (mNm 12)]), .vl (mIf (mTr (mNm 2)) (mC (.int 0)) (mB dSub [.vl (mB dSub [.vl (mC (.int 21)), .nm 8]), .nm 12]))]))
  (sSet 4 (mB dAdd [.vl (mB dAdd [.vl (mB (dSl false true) [.nm 4, .nm 9]), .vl (mB dLst [.vl (mNm 13)])]), .vl (mB (dSl true false) [.nm 4, .vl (mB dAdd [.nm 9, .vl (mC (.int 2))])])]))))))
noncomputable def S__law_own_word : MS := (sSeq (sPar [3, 4, 5] [(mB dList [.nm 1]), (mB dLst []), (mB dLen [.nm 1])])
  (sSeq (sFor (.nm 6) [.nm 5] gRng1 B__law_own_word_1)
  (sSeq (sFor (.nm 8) [.vl (mB dLstRg2 [.vl (mC (.int 1)), .nm 5])] gRev B__law_own_word_2)
  (sRt (mB dIx [.vl (mB dIx [.nm 4, .vl (mC (.int 0))]), .vl (mC (.int 0))])))))
noncomputable def M__law_own_word : MF := mF 3 14 (FX [0, 1, 2]) S__law_own_word
theorem ok__law_own_word {P : Program} {w : World} {K : PySem.W.Frag} {mg : Str → Option Value} {base : Heap} {fa : Addr} {fd : FuncData} (F : Fun K "_law_own_word" "_law_own_word" s__law_own_word fa fd) (z_len : mg "len" = none) (z_list : mg "list" = none) (z_max : mg "max" = none) (z_range : mg "range" = none) (z_reversed : mg "reversed" = none) (c__law_draw : Callee P w K mg base 1 "_law_draw" 2 M__law_draw) (c__law_about : Callee P w K mg base 3 "_law_about" 3 M__law_about) : FnG P w K mg base (3 + 1) fa fd ["bag", "letters", "is_plain"] (spF K mg 3 M__law_own_word) :=
  FnG.of F sc__law_own_word rfl rfl fun cdv A outer s0 H0 E hr hgd tk hp => (show PSs _ (defBody s__law_own_word) (tS _ _ (FX [0, 1, 2]) S__law_own_word) from (bCons (pPar3 rfl sc__law_own_word.nd (os1 (oCallT call_list_of meets_list (aCons (uNm 1) aNil) (by rfl) z_list (by decide +kernel)) (os1 (oLst aNil) (os1 (oCallB call_len meets_len (aCons (uNm 1) aNil) (by rfl) z_len (by decide +kernel)) os0))))
  (bCons (pFor (fx := FX [0, 1, 2]) (fx' := FX [0, 1, 2, 3, 4, 5, 8, 9, 10, 11, 12, 13]) hp rfl (iRg1 (by rfl) z_range (aCons (uNm 5) aNil)) (gNm sc__law_own_word.nd)
  (bCons (pSet sc__law_own_word.nd (oMut (i := 3) PySem.F.slot_list_pop PySem.F.type_list_pop mt_popAt muts_popAt (aCons (uV (oCall c__law_draw (hr.mono (by decide)) hgd tk (aCons (uNm 0) (aCons (uV (oCallB call_len meets_len (aCons (uNm 3) aNil) (by rfl) z_len (by decide +kernel))) aNil)))) aNil)))
  (bOne (pDo (oMut (i := 4) PySem.F.slot_list_append PySem.F.type_list_append mt_append muts_append (aCons (uV (oCall c__law_about (hr.mono (by decide)) hgd tk (aCons (uNm 0) (aCons (uV (oTup (aCons (uV (oNm 7)) (aCons (uV oInt) aNil)))) (aCons (uV (oIf (cTr (oNm 2)) oInt (oBin op_sub meets_sub (uV oInt) (uNm 5)))) aNil))))) aNil))))) (by rfl) (fx_le (by rfl)) (fx_tg (by rfl)))
  (bCons (pFor (fx := FX [0, 1, 2]) (fx' := FX [0, 1, 2, 3, 5, 6, 7]) hp rfl (iRev (by rfl) z_reversed (uV (oLstRg2 rfl z_list z_range (uV oInt) (uNm 5)))) (gNm sc__law_own_word.nd)
  (bCons (pSet sc__law_own_word.nd (oCall c__law_draw (hr.mono (by decide)) hgd tk (aCons (uNm 0) (aCons (uNm 8) aNil))))
  (bCons (pPar2 rfl sc__law_own_word.nd (os1 (oIx (uNm 4) (uNm 9)) (os1 (oIx (uNm 4) (uV (oBin op_addA meets_add (uNm 9) (uV oInt)))) os0)))
  (bCons (pSet sc__law_own_word.nd (oBin op_addA meets_add (uV oInt) (uV (oCallB (call_max2 rfl) meets_max2 (aCons (uV (oIx (uNm 10) (uV oInt))) (aCons (uV (oIx (uNm 11) (uV oInt))) aNil)) (by rfl) z_max (by decide +kernel)))))
  (bCons (pSet sc__law_own_word.nd (oCall c__law_about (hr.mono (by decide)) hgd tk (aCons (uNm 0) (aCons (uV (oTup (aCons (uV (oTup (aCons (uV oStr) (aCons (uV (oIx (uNm 10) (uV oInt))) (aCons (uV (oIx (uNm 11) (uV oInt))) aNil))))) (aCons (uV (oNm 12)) aNil)))) (aCons (uV (oIf (cTr (oNm 2)) oInt (oBin op_sub meets_sub (uV (oBin op_sub meets_sub (uV oInt) (uNm 8))) (uNm 12)))) aNil)))))
  (bOne (pSet sc__law_own_word.nd (oBin op_addA meets_add (uV (oBin op_addA meets_add (uV (oSlHi (uNm 4) (uNm 9))) (uV (oLst (aCons (uV (oNm 13)) aNil))))) (uV (oSlLo (uNm 4) (uV (oBin op_addA meets_add (uNm 9) (uV oInt)))))))))))) (by rfl) (fx_le (by rfl)) (fx_tg (by rfl)))
  (bOne (pRt (oIx (uV (oIx (uNm 4) (uV oInt))) (uV oInt))))))))
/-! ### _law_is_told -/
noncomputable def S__law_is_told : MS := (sRt (mAnd (mB (dIsi "tuple") [.nm 0]) (mB dEqA [.vl (mB dRepr [.nm 0]), .vl (mB dRepr [.nm 1])])))
noncomputable def M__law_is_told : MF := mF 2 2 (FX [0, 1]) S__law_is_told
theorem ok__law_is_told {P : Program} {w : World} {K : PySem.W.Frag} {mg : Str → Option Value} {base : Heap} {fa : Addr} {fd : FuncData} (F : Fun K "_law_is_told" "_law_is_told" s__law_is_told fa fd) (z_isinstance : mg "isinstance" = none) (z_repr : mg "repr" = none) (z_tuple : mg "tuple" = none) : FnG P w K mg base (0 + 1) fa fd ["told", "due"] (spF K mg 2 M__law_is_told) :=
  FnG.of F sc__law_is_told rfl rfl fun cdv A outer s0 H0 E hr hgd tk hp => (show PSs _ (defBody s__law_is_told) (tS _ _ (FX [0, 1]) S__law_is_told) from (bOne (pRt (oAnd (oIsi "tuple" (uNm 0) z_isinstance z_tuple) (oAnd1 (oCmp (op_eqZ hr.units) meets_eqA (uV (oRepr hr hgd z_repr (aCons (uNm 0) aNil))) (uV (oRepr hr hgd z_repr (aCons (uNm 1) aNil)))))))))
/-! ### _law_is_pair_right -/
noncomputable def S__law_is_pair_right : MS := (sSeq (sIf (mNot (mTr (mCall M__law_is_told [.vl (mCall M_letter_pair [.nm 0, .nm 1, .nm 2]), .nm 3])))
  (sRt (mC (.bl false)))
  sNx)
  (sRt (mCall M__law_is_told [.vl (mCallK M_letter_pair [2, 1, 0] [.nm 2, .nm 1, .nm 0]), .nm 3])))
noncomputable def M__law_is_pair_right : MF := mF 4 4 (FX [0, 1, 2, 3]) S__law_is_pair_right
theorem ok__law_is_pair_right {P : Program} {w : World} {K : PySem.W.Frag} {mg : Str → Option Value} {base : Heap} {fa : Addr} {fd : FuncData} (F : Fun K "_law_is_pair_right" "_law_is_pair_right" s__law_is_pair_right fa fd) (c_letter_pair : Callee P w K mg base 1 "letter_pair" 3 M_letter_pair) (c_letter_pair_K0 : CalleeK P w K mg base 1 "letter_pair" 3 M_letter_pair ["floors", "j", "i"] [2, 1, 0]) (c__law_is_told : Callee P w K mg base 1 "_law_is_told" 2 M__law_is_told) : FnG P w K mg base (1 + 1) fa fd ["i", "j", "floors", "due"] (spF K mg 4 M__law_is_pair_right) :=
  FnG.of F sc__law_is_pair_right rfl rfl fun cdv A outer s0 H0 E hr hgd tk hp => (show PSs _ (defBody s__law_is_pair_right) (tS _ _ (FX [0, 1, 2, 3]) S__law_is_pair_right) from (bCons (pIf (cNot (cTr (oCall c__law_is_told (hr.mono (by decide)) hgd tk (aCons (uV (oCall c_letter_pair (hr.mono (by decide)) hgd tk (aCons (uNm 0) (aCons (uNm 1) (aCons (uNm 2) aNil))))) (aCons (uNm 3) aNil)))))
  (bOne (pRt oBl))
  bNil)
  (bOne (pRt (oCall c__law_is_told (hr.mono (by decide)) hgd tk (aCons (uV (oCallK c_letter_pair_K0 (hr.mono (by decide)) hgd tk (pk_cons (uNm 2) (pk_cons (uNm 1) (pk_cons (uNm 0) pk_nil))))) (aCons (uNm 3) aNil)))))))
/-! ### _law_is_word_right -/
noncomputable def S__law_is_word_right : MS := (sSeq (sSet 4 (mB dRepr [.vl (mB dLst [.vl (mNm 0), .vl (mNm 1)])]))
  (sSeq (sIf (mNot (mTr (mCall M__law_is_told [.vl (mCall (M_letter_word 60) [.nm 0, .nm 1, .nm 2]), .nm 3])))
  (sRt (mC (.bl false)))
  sNx)
  (sSeq (sIf (mNot (mTr (mCall M__law_is_told [.vl (mCallK (M_letter_word 60) [2, 1, 0] [.nm 2, .nm 1, .nm 0]), .nm 3])))
  (sRt (mC (.bl false)))
  sNx)
  (sRt (mB dEqA [.vl (mB dRepr [.vl (mB dLst [.vl (mNm 0), .vl (mNm 1)])]), .nm 4])))))
noncomputable def M__law_is_word_right : MF := mF 4 5 (FX [0, 1, 2, 3]) S__law_is_word_right
theorem ok__law_is_word_right {P : Program} {w : World} {K : PySem.W.Frag} {mg : Str → Option Value} {base : Heap} {fa : Addr} {fd : FuncData} (F : Fun K "_law_is_word_right" "_law_is_word_right" s__law_is_word_right fa fd) (z_repr : mg "repr" = none) (c_letter_word : Callee P w K mg base 64 "letter_word" 3 (M_letter_word 60)) (c_letter_word_K0 : CalleeK P w K mg base 64 "letter_word" 3 (M_letter_word 60) ["floors", "row", "word"] [2, 1, 0]) (c__law_is_told : Callee P w K mg base 1 "_law_is_told" 2 M__law_is_told) : FnG P w K mg base (64 + 1) fa fd ["word", "row", "floors", "due"] (spF K mg 4 M__law_is_word_right) :=
  FnG.of F sc__law_is_word_right rfl rfl fun cdv A outer s0 H0 E hr hgd tk hp => (show PSs _ (defBody s__law_is_word_right) (tS _ _ (FX [0, 1, 2, 3]) S__law_is_word_right) from (bCons (pSet sc__law_is_word_right.nd (oRepr hr hgd z_repr (aCons (uV (oLst (aCons (uV (oNm 0)) (aCons (uV (oNm 1)) aNil)))) aNil)))
  (bCons (pIf (cNot (cTr (oCall c__law_is_told (hr.mono (by decide)) hgd tk (aCons (uV (oCall c_letter_word (hr.mono (by decide)) hgd tk (aCons (uNm 0) (aCons (uNm 1) (aCons (uNm 2) aNil))))) (aCons (uNm 3) aNil)))))
  (bOne (pRt oBl))
  bNil)
  (bCons (pIf (cNot (cTr (oCall c__law_is_told (hr.mono (by decide)) hgd tk (aCons (uV (oCallK c_letter_word_K0 (hr.mono (by decide)) hgd tk (pk_cons (uNm 2) (pk_cons (uNm 1) (pk_cons (uNm 0) pk_nil))))) (aCons (uNm 3) aNil)))))
  (bOne (pRt oBl))
  bNil)
  (bOne (pRt (oCmp (op_eqZ hr.units) meets_eqA (uV (oRepr hr hgd z_repr (aCons (uV (oLst (aCons (uV (oNm 0)) (aCons (uV (oNm 1)) aNil)))) aNil))) (uNm 4))))))))
/-! ### _law_is_pairs_turn_right -/
noncomputable def B__law_is_pairs_turn_right_1 : MS := (sSeq (sPar [8, 9] [(mCall M__law_pick [.nm 0, .nm 2]), (mCall M__law_pick [.nm 0, .nm 2])])
  (sSeq (sSet 10 (mCall M__law_own_pair [.nm 8, .nm 9, .nm 4, .nm 5]))
  (sSeq (sDo (mMut gAppend 3 [.vl (mB dTupl [.vl (mC (.str "pair")), .vl (mNm 8), .vl (mNm 9), .vl (mNm 1), .vl (mNm 10)])]))
  (sIf (mOr (mNot (mTr (mCall M__law_is_pair_right [.nm 8, .nm 9, .nm 1, .nm 10]))) (mNot (mTr (mCall M__law_is_pair_right [.nm 8, .nm 9, .nm 6, .nm 10]))))
  (sRt (mC (.bl false)))
  sNx))))
noncomputable def S__law_is_pairs_turn_right : MS := (sSeq (sSet 4 (mB (dSl false true) [.vl (mCall M__law_powers [.nm 1]), .nm 1]))
  (sSeq (sPar [5, 6] [(mB dLstRev [.vl (mB dList [.nm 4])]), (mB dAdd [.nm 1, .vl (mCall M__law_draw [.nm 0, .vl (mB dSub [.vl (mC (.int 61)), .nm 1])])])])
  (sSeq (sFor (.nm 7) [.vl (mC (.int 2))] gRng1 B__law_is_pairs_turn_right_1)
  (sRt (mC (.bl true))))))
noncomputable def M__law_is_pairs_turn_right : MF := mF 4 11 (FX [0, 1, 2, 3]) S__law_is_pairs_turn_right
theorem ok__law_is_pairs_turn_right {P : Program} {w : World} {K : PySem.W.Frag} {mg : Str → Option Value} {base : Heap} {fa : Addr} {fd : FuncData} (F : Fun K "_law_is_pairs_turn_right" "_law_is_pairs_turn_right" s__law_is_pairs_turn_right fa fd) (z_list : mg "list" = none) (z_range : mg "range" = none) (z_reversed : mg "reversed" = none) (c__law_draw : Callee P w K mg base 1 "_law_draw" 2 M__law_draw) (c__law_pick : Callee P w K mg base 2 "_law_pick" 2 M__law_pick) (c__law_powers : Callee P w K mg base 1 "_law_powers" 1 M__law_powers) (c__law_own_pair : Callee P w K mg base 2 "_law_own_pair" 4 M__law_own_pair) (c__law_is_pair_right : Callee P w K mg base 2 "_law_is_pair_right" 4 M__law_is_pair_right) : FnG P w K mg base (2 + 1) fa fd ["bag", "floors", "row", "asked"] (spF K mg 4 M__law_is_pairs_turn_right) :=
  FnG.of F sc__law_is_pairs_turn_right rfl rfl fun cdv A outer s0 H0 E hr hgd tk hp => (show PSs _ (defBody s__law_is_pairs_turn_right) (tS _ _ (FX [0, 1, 2, 3]) S__law_is_pairs_turn_right) from (bCons (pSet sc__law_is_pairs_turn_right.nd (oSlHi (uV (oCall c__law_powers (hr.mono (by decide)) hgd tk (aCons (uNm 1) aNil))) (uNm 1)))
  (bCons (pPar2 rfl sc__law_is_pairs_turn_right.nd (os1 (oLstRev rfl z_list z_reversed (uV (oCallT call_list_of meets_list (aCons (uNm 4) aNil) (by rfl) z_list (by decide +kernel)))) (os1 (oBin op_addA meets_add (uNm 1) (uV (oCall c__law_draw (hr.mono (by decide)) hgd tk (aCons (uNm 0) (aCons (uV (oBin op_sub meets_sub (uV oInt) (uNm 1))) aNil))))) os0)))
  (bCons (pFor (fx := FX [0, 1, 2, 3]) (fx' := FX [0, 1, 2, 3, 4, 5, 6]) hp rfl (iRg1 (by rfl) z_range (aCons (uV oInt) aNil)) (gNm sc__law_is_pairs_turn_right.nd)
  (bCons (pPar2 rfl sc__law_is_pairs_turn_right.nd (os1 (oCall c__law_pick (hr.mono (by decide)) hgd tk (aCons (uNm 0) (aCons (uNm 2) aNil))) (os1 (oCall c__law_pick (hr.mono (by decide)) hgd tk (aCons (uNm 0) (aCons (uNm 2) aNil))) os0)))
  (bCons (pSet sc__law_is_pairs_turn_right.nd (oCall c__law_own_pair (hr.mono (by decide)) hgd tk (aCons (uNm 8) (aCons (uNm 9) (aCons (uNm 4) (aCons (uNm 5) aNil))))))
  (bCons (pDo (oMut (i := 3) PySem.F.slot_list_append PySem.F.type_list_append mt_append muts_append (aCons (uV (oTup (aCons (uV oStr) (aCons (uV (oNm 8)) (aCons (uV (oNm 9)) (aCons (uV (oNm 1)) (aCons (uV (oNm 10)) aNil))))))) aNil)))
  (bOne (pIf (cB (cOr (cNot (cTr (oCall c__law_is_pair_right (hr.mono (by decide)) hgd tk (aCons (uNm 8) (aCons (uNm 9) (aCons (uNm 1) (aCons (uNm 10) aNil))))))) (cOr1 (cNot (cTr (oCall c__law_is_pair_right (hr.mono (by decide)) hgd tk (aCons (uNm 8) (aCons (uNm 9) (aCons (uNm 6) (aCons (uNm 10) aNil))))))))))
  (bOne (pRt oBl))
  bNil))))) (by rfl) (fx_le (by rfl)) (fx_tg (by rfl)))
  (bOne (pRt oBl))))))
/-! ### _law_is_words_turn_right -/
noncomputable def B__law_is_words_turn_right_1 : MS := (sSeq (sSet 11 (mCall M__law_pick [.nm 0, .vl (mB dLst [.vl (mCall M__law_draw [.nm 0, .nm 8]), .vl (mB dSub [.vl (mC (.int 3)), .vl (mCall M__law_draw [.nm 0, .nm 8])])])]))
  (sDo (mMut gAppend 7 [.vl (mIf (mTr (mNm 9)) (mNm 10) (mNm 11))])))
noncomputable def B__law_is_words_turn_right_2 : MS := (sSeq (sPar [16, 17] [(mCall M__law_own_word [.nm 0, .nm 7, .vl (mB dEqA [.nm 15, .vl (mC (.int 0))])]), (mB dTuple [.vl (mB (dSl false true) [.nm 2, .vl (mB dAdd [.nm 12, .vl (mCall M__law_draw [.nm 0, .vl (mB dSub [.vl (mC (.int 5)), .nm 12])])])])])])
  (sSeq (sSet 18 (mB dTupl [.vl (mB dIx [.vl (mCall (M__law_word_sign 60) [.nm 16, .nm 17, .nm 5]), .vl (mC (.int 0))]), .vl (mCall M__law_own_place [.nm 13, .nm 4]), .vl (mNm 14)]))
  (sSeq (sDo (mMut gAppend 3 [.vl (mB dTupl [.vl (mC (.str "word")), .vl (mNm 16), .vl (mNm 17), .vl (mNm 1), .vl (mNm 18)])]))
  (sSeq (sSet 19 (mB dTupl [.vl (mB dIx [.nm 18, .vl (mC (.int 0))]), .vl (mB dIx [.nm 18, .vl (mC (.int 1))]), .vl (mB dAdd [.nm 14, .vl (mB dMulA [.vl (mB dTupl [.vl (mC (.int 0))]), .nm 6])])]))
  (sSeq (sIf (mNot (mTr (mCall M__law_is_word_right [.nm 16, .nm 17, .nm 1, .nm 18])))
  (sRt (mC (.bl false)))
  sNx)
  (sIf (mNot (mTr (mCall M__law_is_word_right [.nm 16, .nm 17, .vl (mB dAdd [.nm 1, .nm 6]), .nm 19])))
  (sRt (mC (.bl false)))
  sNx))))))
noncomputable def S__law_is_words_turn_right : MS := (sSeq (sSet 4 (mB (dSl false true) [.vl (mCall M__law_powers [.nm 1]), .nm 1]))
  (sSeq (sPar [5, 6] [(mB dLstRev [.vl (mB dList [.nm 4])]), (mCall M__law_draw [.nm 0, .vl (mB dSub [.vl (mC (.int 61)), .nm 1])])])
  (sSeq (sPar [7, 8] [(mB dLst []), (mB dAdd [.vl (mC (.int 1)), .vl (mCall M__law_draw [.nm 0, .vl (mC (.int 4))])])])
  (sSeq (sSet 9 (mB dEqA [.vl (mCall M__law_draw [.nm 0, .vl (mC (.int 2))]), .vl (mC (.int 0))]))
  (sSeq (sFor (.nm 10) [.vl (mCall M__law_pick [.nm 0, .vl (mB dLst [.vl (mC (.int 1)), .vl (mC (.int 2)), .vl (mC (.int 3)), .vl (mC (.int 3)), .vl (mC (.int 4)), .vl (mC (.int 4))])])] gRng1 B__law_is_words_turn_right_1)
  (sSeq (sSet 12 (mB dAdd [.vl (mB dMax [.nm 7]), .vl (mC (.int 1))]))
  (sSeq (sSet 13 (mCall M__law_own_counts [.vl (mLc (.nm 11) [.nm 7] gSeq [11] (mC (.bl true)) (mB dIx [.nm 2, .nm 11])), .nm 4]))
  (sSeq (sSet 14 (mB dTuple [.vl (mLc (.nm 20) [.nm 13] gSeq [20] (mC (.bl true)) (mB dFdiv [.nm 20, .vl (mC (.int 2))]))]))
  (sSeq (sFor (.nm 15) [.vl (mC (.int 3))] gRng1 B__law_is_words_turn_right_2)
  (sRt (mC (.bl true))))))))))))
noncomputable def M__law_is_words_turn_right : MF := mF 4 21 (FX [0, 1, 2, 3]) S__law_is_words_turn_right
theorem ok__law_is_words_turn_right {P : Program} {w : World} {K : PySem.W.Frag} {mg : Str → Option Value} {base : Heap} {fa : Addr} {fd : FuncData} (F : Fun K "_law_is_words_turn_right" "_law_is_words_turn_right" s__law_is_words_turn_right fa fd) (z_list : mg "list" = none) (z_max : mg "max" = none) (z_range : mg "range" = none) (z_reversed : mg "reversed" = none) (z_tuple : mg "tuple" = none) (c__law_draw : Callee P w K mg base 1 "_law_draw" 2 M__law_draw) (c__law_pick : Callee P w K mg base 2 "_law_pick" 2 M__law_pick) (c__law_powers : Callee P w K mg base 1 "_law_powers" 1 M__law_powers) (c__law_own_counts : Callee P w K mg base 1 "_law_own_counts" 2 M__law_own_counts) (c__law_own_place : Callee P w K mg base 1 "_law_own_place" 2 M__law_own_place) (c__law_word_sign : Callee P w K mg base 64 "_law_word_sign" 3 (M__law_word_sign 60)) (c__law_own_word : Callee P w K mg base 4 "_law_own_word" 3 M__law_own_word) (c__law_is_word_right : Callee P w K mg base 65 "_law_is_word_right" 4 M__law_is_word_right) : FnG P w K mg base (65 + 1) fa fd ["bag", "floors", "row", "asked"] (spF K mg 4 M__law_is_words_turn_right) :=
  FnG.of F sc__law_is_words_turn_right rfl rfl fun cdv A outer s0 H0 E hr hgd tk hp => (show PSs _ (defBody s__law_is_words_turn_right) (tS _ _ (FX [0, 1, 2, 3]) S__law_is_words_turn_right) from (bCons (pSet sc__law_is_words_turn_right.nd (oSlHi (uV (oCall c__law_powers (hr.mono (by decide)) hgd tk (aCons (uNm 1) aNil))) (uNm 1)))
  (bCons (pPar2 rfl sc__law_is_words_turn_right.nd (os1 (oLstRev rfl z_list z_reversed (uV (oCallT call_list_of meets_list (aCons (uNm 4) aNil) (by rfl) z_list (by decide +kernel)))) (os1 (oCall c__law_draw (hr.mono (by decide)) hgd tk (aCons (uNm 0) (aCons (uV (oBin op_sub meets_sub (uV oInt) (uNm 1))) aNil))) os0)))
  (bCons (pPar2 rfl sc__law_is_words_turn_right.nd (os1 (oLst aNil) (os1 (oBin op_addA meets_add (uV oInt) (uV (oCall c__law_draw (hr.mono (by decide)) hgd tk (aCons (uNm 0) (aCons (uV oInt) aNil))))) os0)))
  (bCons (pSet sc__law_is_words_turn_right.nd (oCmp (op_eqZ hr.units) meets_eqA (uV (oCall c__law_draw (hr.mono (by decide)) hgd tk (aCons (uNm 0) (aCons (uV oInt) aNil)))) (uV oInt)))
  (bCons (pFor (fx := FX [0, 1, 2, 3]) (fx' := FX [0, 1, 2, 3, 4, 5, 6, 7, 8, 9, 12, 13, 14, 15, 16, 17, 18, 19, 20]) hp rfl (iRg1 (by rfl) z_range (aCons (uV (oCall c__law_pick (hr.mono (by decide)) hgd tk (aCons (uNm 0) (aCons (uV (oLst (aCons (uV oInt) (aCons (uV oInt) (aCons (uV oInt) (aCons (uV oInt) (aCons (uV oInt) (aCons (uV oInt) aNil)))))))) aNil)))) aNil)) (gNm sc__law_is_words_turn_right.nd)
  (bCons (pSet sc__law_is_words_turn_right.nd (oCall c__law_pick (hr.mono (by decide)) hgd tk (aCons (uNm 0) (aCons (uV (oLst (aCons (uV (oCall c__law_draw (hr.mono (by decide)) hgd tk (aCons (uNm 0) (aCons (uNm 8) aNil)))) (aCons (uV (oBin op_sub meets_sub (uV oInt) (uV (oCall c__law_draw (hr.mono (by decide)) hgd tk (aCons (uNm 0) (aCons (uNm 8) aNil)))))) aNil)))) aNil))))
  (bOne (pDo (oMut (i := 7) PySem.F.slot_list_append PySem.F.type_list_append mt_append muts_append (aCons (uV (oIf (cTr (oNm 9)) (oNm 10) (oNm 11))) aNil))))) (by rfl) (fx_le (by rfl)) (fx_tg (by rfl)))
  (bCons (pSet sc__law_is_words_turn_right.nd (oBin op_addA meets_add (uV (oCallB (cr_max rfl) meets_max (aCons (uNm 7) aNil) (by rfl) z_max (by decide +kernel))) (uV oInt)))
  (bCons (pSet sc__law_is_words_turn_right.nd (oCall c__law_own_counts (hr.mono (by decide)) hgd tk (aCons (uV (oLc rfl sc__law_is_words_turn_right.nd (iSeq (uNm 7)) (blkOk_by (own := [("letter", 11)]) (by kernel_rfl)) (fun _ _ _ _ _ => (gNm sc__law_is_words_turn_right.nd)) (fun _ _ _ _ _ => q0) (fun _ _ _ _ _ => (oIx (uNm 2) (uNm 11))) (by rfl) (tgt_in (by decide)))) (aCons (uNm 4) aNil))))
  (bCons (pSet sc__law_is_words_turn_right.nd (oCallT call_tuple_of meets_tuple (aCons (uV (oLc rfl sc__law_is_words_turn_right.nd (iSeq (uNm 13)) (blkOk_by (own := [("many", 20)]) (by kernel_rfl)) (fun _ _ _ _ _ => (gNm sc__law_is_words_turn_right.nd)) (fun _ _ _ _ _ => q0) (fun _ _ _ _ _ => (oBin op_fdivW meets_fdiv (uNm 20) (uV oInt))) (by rfl) (tgt_in (by decide)))) aNil) (by rfl) z_tuple (by decide +kernel)))
  (bCons (pFor (fx := FX [0, 1, 2, 3]) (fx' := FX [0, 1, 2, 3, 4, 5, 6, 7, 8, 9, 10, 11, 12, 13, 14, 20]) hp rfl (iRg1 (by rfl) z_range (aCons (uV oInt) aNil)) (gNm sc__law_is_words_turn_right.nd)
  (bCons (pPar2 rfl sc__law_is_words_turn_right.nd (os1 (oCall c__law_own_word (hr.mono (by decide)) hgd tk (aCons (uNm 0) (aCons (uNm 7) (aCons (uV (oCmp (op_eqZ hr.units) meets_eqA (uNm 15) (uV oInt))) aNil)))) (os1 (oCallT call_tuple_of meets_tuple (aCons (uV (oSlHi (uNm 2) (uV (oBin op_addA meets_add (uNm 12) (uV (oCall c__law_draw (hr.mono (by decide)) hgd tk (aCons (uNm 0) (aCons (uV (oBin op_sub meets_sub (uV oInt) (uNm 12))) aNil)))))))) aNil) (by rfl) z_tuple (by decide +kernel)) os0)))
  (bCons (pSet sc__law_is_words_turn_right.nd (oTup (aCons (uV (oIx (uV (oCall c__law_word_sign (hr.mono (by decide)) hgd tk (aCons (uNm 16) (aCons (uNm 17) (aCons (uNm 5) aNil))))) (uV oInt))) (aCons (uV (oCall c__law_own_place (hr.mono (by decide)) hgd tk (aCons (uNm 13) (aCons (uNm 4) aNil)))) (aCons (uV (oNm 14)) aNil)))))
  (bCons (pDo (oMut (i := 3) PySem.F.slot_list_append PySem.F.type_list_append mt_append muts_append (aCons (uV (oTup (aCons (uV oStr) (aCons (uV (oNm 16)) (aCons (uV (oNm 17)) (aCons (uV (oNm 1)) (aCons (uV (oNm 18)) aNil))))))) aNil)))
  (bCons (pSet sc__law_is_words_turn_right.nd (oTup (aCons (uV (oIx (uNm 18) (uV oInt))) (aCons (uV (oIx (uNm 18) (uV oInt))) (aCons (uV (oBin op_addA meets_add (uNm 14) (uV (oBin op_mulZ meets_mulA (uV (oTup (aCons (uV oInt) aNil))) (uNm 6))))) aNil)))))
  (bCons (pIf (cNot (cTr (oCall c__law_is_word_right (hr.mono (by decide)) hgd tk (aCons (uNm 16) (aCons (uNm 17) (aCons (uNm 1) (aCons (uNm 18) aNil)))))))
  (bOne (pRt oBl))
  bNil)
  (bOne (pIf (cNot (cTr (oCall c__law_is_word_right (hr.mono (by decide)) hgd tk (aCons (uNm 16) (aCons (uNm 17) (aCons (uV (oBin op_addA meets_add (uNm 1) (uNm 6))) (aCons (uNm 19) aNil)))))))
  (bOne (pRt oBl))
  bNil))))))) (by rfl) (fx_le (by rfl)) (fx_tg (by rfl)))
  (bOne (pRt oBl))))))))))))
/-! ### law -/
noncomputable def B_law_1 : MS := (sDo (mMut gAppend 8 [.vl (mCall M__law_own_letter [.nm 1, .nm 6, .nm 7, .nm 8, .vl (mB dEqA [.nm 5, .vl (mC (.int 0))])])]))
noncomputable def B_law_2 : MS := (sSeq (sSet 5 (mB dMod [.vl (mB dInt [.vl (mB dAdd [.nm 3, .nm 4])]), .vl (mC (.int 4))]))
  (sSeq (sIf (mB dEqA [.nm 5, .vl (mC (.int 0))])
  (sSet 6 (mB dAdd [.vl (mC (.int 54)), .vl (mCall M__law_draw [.nm 1, .vl (mC (.int 7))])]))
  (sIf (mB dEqA [.nm 5, .vl (mC (.int 1))])
  (sSet 6 (mCall M__law_draw [.nm 1, .vl (mC (.int 61))]))
  (sIf (mB dEqA [.nm 5, .vl (mC (.int 2))])
  (sSet 6 (mCall M__law_draw [.nm 1, .vl (mC (.int 6))]))
  (sSet 6 (mCall M__law_pick [.nm 1, .vl (mB dLst [.vl (mC (.int 4)), .vl (mC (.int 5)), .vl (mC (.int 15)), .vl (mC (.int 16)), .vl (mC (.int 17)), .vl (mC (.int 31)), .vl (mC (.int 32)), .vl (mC (.int 33)), .vl (mC (.int 52)), .vl (mC (.int 53)), .vl (mC (.int 54)), .vl (mC (.int 59)), .vl (mC (.int 60))])])))))
  (sSeq (sPar [7, 8] [(mCall M__law_powers [.nm 6]), (mB dLst [])])
  (sSeq (sFor (.nm 9) [.vl (mC (.int 4))] gRng1 B_law_1)
  (sSeq (sIf (mNot (mTr (mCall M__law_is_pairs_turn_right [.nm 1, .nm 6, .nm 8, .nm 2])))
  (sRt (mC (.bl false)))
  sNx)
  (sIf (mNot (mTr (mCall M__law_is_words_turn_right [.nm 1, .nm 6, .nm 8, .nm 2])))
  (sRt (mC (.bl false)))
  sNx))))))
noncomputable def B_law_3 : MS := (sSeq (sIf (mAnd (mB dEqA [.nm 10, .vl (mC (.str "pair"))]) (mNot (mTr (mCall M__law_is_pair_right [.nm 11, .nm 12, .nm 6, .nm 13]))))
  (sRt (mC (.bl false)))
  sNx)
  (sIf (mAnd (mB dEqA [.nm 10, .vl (mC (.str "word"))]) (mNot (mTr (mCall M__law_is_word_right [.nm 11, .nm 12, .nm 6, .nm 13]))))
  (sRt (mC (.bl false)))
  sNx))
noncomputable def S_law : MS := (sSeq (sPar [1, 2] [(mCall M__law_own_bag [.nm 0]), (mB dLst [])])
  (sSeq (sSet 3 (mCall M__law_draw [.nm 1, .vl (mC (.int 4))]))
  (sSeq (sFor (.nm 4) [.vl (mC (.int 4))] gRng1 B_law_2)
  (sSeq (sFor (.tp [(.nm 10), (.nm 11), (.nm 12), (.nm 6), (.nm 13)]) [.vl (mB dList [.nm 2])] gRev B_law_3)
  (sRt (mC (.bl true)))))))
noncomputable def M_law : MF := mF 1 14 (FX [0]) S_law
theorem ok_law {P : Program} {w : World} {K : PySem.W.Frag} {mg : Str → Option Value} {base : Heap} {fa : Addr} {fd : FuncData} (F : Fun K "law" "law" s_law fa fd) (z_int : mg "int" = none) (z_list : mg "list" = none) (z_range : mg "range" = none) (z_reversed : mg "reversed" = none) (c__law_own_bag : Callee P w K mg base 1 "_law_own_bag" 1 M__law_own_bag) (c__law_draw : Callee P w K mg base 1 "_law_draw" 2 M__law_draw) (c__law_pick : Callee P w K mg base 2 "_law_pick" 2 M__law_pick) (c__law_powers : Callee P w K mg base 1 "_law_powers" 1 M__law_powers) (c__law_own_letter : Callee P w K mg base 3 "_law_own_letter" 5 M__law_own_letter) (c__law_is_pair_right : Callee P w K mg base 2 "_law_is_pair_right" 4 M__law_is_pair_right) (c__law_is_word_right : Callee P w K mg base 65 "_law_is_word_right" 4 M__law_is_word_right) (c__law_is_pairs_turn_right : Callee P w K mg base 3 "_law_is_pairs_turn_right" 4 M__law_is_pairs_turn_right) (c__law_is_words_turn_right : Callee P w K mg base 66 "_law_is_words_turn_right" 4 M__law_is_words_turn_right) : FnG P w K mg base (66 + 1) fa fd ["script"] (spF K mg 1 M_law) :=
  FnG.of F sc_law rfl rfl fun cdv A outer s0 H0 E hr hgd tk hp => (show PSs _ (defBody s_law) (tS _ _ (FX [0]) S_law) from (bCons (pPar2 rfl sc_law.nd (os1 (oCall c__law_own_bag (hr.mono (by decide)) hgd tk (aCons (uNm 0) aNil)) (os1 (oLst aNil) os0)))
  (bCons (pSet sc_law.nd (oCall c__law_draw (hr.mono (by decide)) hgd tk (aCons (uNm 1) (aCons (uV oInt) aNil))))
  (bCons (pFor (fx := FX [0]) (fx' := FX [0, 1, 2, 3, 10, 11, 12, 13]) hp rfl (iRg1 (by rfl) z_range (aCons (uV oInt) aNil)) (gNm sc_law.nd)
  (bCons (pSet sc_law.nd (oBin op_mod meets_mod (uV (oCallT call_int1 meets_int (aCons (uV (oBin op_addA meets_add (uNm 3) (uNm 4))) aNil) (by rfl) z_int (by decide +kernel))) (uV oInt)))
  (bCons (pIf (cCmp (op_eqZ hr.units) meets_eqA (uNm 5) (uV oInt))
  (bOne (pSet sc_law.nd (oBin op_addA meets_add (uV oInt) (uV (oCall c__law_draw (hr.mono (by decide)) hgd tk (aCons (uNm 1) (aCons (uV oInt) aNil)))))))
  (bOne (pIf (cCmp (op_eqZ hr.units) meets_eqA (uNm 5) (uV oInt))
  (bOne (pSet sc_law.nd (oCall c__law_draw (hr.mono (by decide)) hgd tk (aCons (uNm 1) (aCons (uV oInt) aNil)))))
  (bOne (pIf (cCmp (op_eqZ hr.units) meets_eqA (uNm 5) (uV oInt))
  (bOne (pSet sc_law.nd (oCall c__law_draw (hr.mono (by decide)) hgd tk (aCons (uNm 1) (aCons (uV oInt) aNil)))))
  (bOne (pSet sc_law.nd (oCall c__law_pick (hr.mono (by decide)) hgd tk (aCons (uNm 1) (aCons (uV (oLst (aCons (uV oInt) (aCons (uV oInt) (aCons (uV oInt) (aCons (uV oInt) (aCons (uV oInt) (aCons (uV oInt) (aCons (uV oInt) (aCons (uV oInt) (aCons (uV oInt) (aCons (uV oInt) (aCons (uV oInt) (aCons (uV oInt) (aCons (uV oInt) aNil))))))))))))))) aNil))))))))))
  (bCons (pPar2 rfl sc_law.nd (os1 (oCall c__law_powers (hr.mono (by decide)) hgd tk (aCons (uNm 6) aNil)) (os1 (oLst aNil) os0)))
  (bCons (pFor (fx := FX [0, 1, 2, 3, 10, 11, 12, 13]) (fx' := FX [0, 1, 2, 3, 4, 5, 6, 7, 8, 10, 11, 12, 13]) hp rfl (iRg1 (by rfl) z_range (aCons (uV oInt) aNil)) (gNm sc_law.nd)
  (bOne (pDo (oMut (i := 8) PySem.F.slot_list_append PySem.F.type_list_append mt_append muts_append (aCons (uV (oCall c__law_own_letter (hr.mono (by decide)) hgd tk (aCons (uNm 1) (aCons (uNm 6) (aCons (uNm 7) (aCons (uNm 8) (aCons (uV (oCmp (op_eqZ hr.units) meets_eqA (uNm 5) (uV oInt))) aNil))))))) aNil)))) (by rfl) (fx_le (by rfl)) (fx_tg (by rfl)))
  (bCons (pIf (cNot (cTr (oCall c__law_is_pairs_turn_right (hr.mono (by decide)) hgd tk (aCons (uNm 1) (aCons (uNm 6) (aCons (uNm 8) (aCons (uNm 2) aNil)))))))
  (bOne (pRt oBl))
  bNil)
  (bOne (pIf (cNot (cTr (oCall c__law_is_words_turn_right (hr.mono (by decide)) hgd tk (aCons (uNm 1) (aCons (uNm 6) (aCons (uNm 8) (aCons (uNm 2) aNil)))))))
  (bOne (pRt oBl))
  bNil))))))) (by rfl) (fx_le (by rfl)) (fx_tg (by rfl)))
  (bCons (pFor (fx := FX [0]) (fx' := FX [0, 1, 2, 3, 4, 5, 7, 8, 9]) hp rfl (iRev (by rfl) z_reversed (uV (oCallT call_list_of meets_list (aCons (uNm 2) aNil) (by rfl) z_list (by decide +kernel)))) (gTp rfl (gsCons (gNm sc_law.nd) (gsCons (gNm sc_law.nd) (gsCons (gNm sc_law.nd) (gsCons (gNm sc_law.nd) (gsCons (gNm sc_law.nd) gsNil))))))
  (bCons (pIf (cB (cAnd (cCmp (op_eqZ hr.units) meets_eqA (uNm 10) (uV oStr)) (cAnd1 (cNot (cTr (oCall c__law_is_pair_right (hr.mono (by decide)) hgd tk (aCons (uNm 11) (aCons (uNm 12) (aCons (uNm 6) (aCons (uNm 13) aNil))))))))))
  (bOne (pRt oBl))
  bNil)
  (bOne (pIf (cB (cAnd (cCmp (op_eqZ hr.units) meets_eqA (uNm 10) (uV oStr)) (cAnd1 (cNot (cTr (oCall c__law_is_word_right (hr.mono (by decide)) hgd tk (aCons (uNm 11) (aCons (uNm 12) (aCons (uNm 6) (aCons (uNm 13) aNil))))))))))
  (bOne (pRt oBl))
  bNil))) (by rfl) (fx_le (by rfl)) (fx_tg (by rfl)))
  (bOne (pRt oBl)))))))
end W_losesone_k03_whole_letter_products
namespace W_losesone_k03_whole_letter_products
open PySem PySem.Spec PyProof.Rows L2 Ow

theorem all_mk {l : PySem.W.OpenLaw} {w : World} {K : PySem.W.Frag} {h : Heap} {mg : Str → Option Value} {fa f0 f1 f2 f3 f4 f5 f6 f7 f8 f9 f10 f11 f12 f13 f14 f15 f16 f17 f18 f19 f20 : Addr} (X : K.In h) (G : h.Ns mainGlobals mg) (hfa : mg "law" = some (.ref fa))
    {od0 an0 od1 an1 od2 an2 od3 an3 od4 an4 od5 an5 od6 an6 od7 an7 od8 an8 od9 an9 od10 an10 od11 an11 od12 an12 od13 an13 od14 an14 od15 an15 od16 an16 od17 an17 od18 an18 od19 an19 od20 an20 : Option Addr} {sl0 sl1 sl2 sl3 sl4 sl5 sl6 sl7 sl8 sl9 sl10 sl11 sl12 sl13 sl14 sl15 sl16 sl17 sl18 sl19 sl20 : Array (Option Value)} {oc0 kV0 dc0 pm0 cd0 ct0 oc1 kV1 dc1 pm1 cd1 ct1 oc2 kV2 dc2 pm2 cd2 ct2 oc3 kV3 dc3 pm3 cd3 ct3 oc4 kV4 dc4 pm4 cd4 ct4 oc5 kV5 dc5 pm5 cd5 ct5 oc6 kV6 dc6 pm6 cd6 ct6 oc7 kV7 dc7 pm7 cd7 ct7 oc8 kV8 dc8 pm8 cd8 ct8 oc9 kV9 dc9 pm9 cd9 ct9 oc10 kV10 dc10 pm10 cd10 ct10 oc11 kV11 dc11 pm11 cd11 ct11 oc12 kV12 dc12 pm12 cd12 ct12 oc13 kV13 dc13 pm13 cd13 ct13 oc14 kV14 dc14 pm14 cd14 ct14 oc15 kV15 dc15 pm15 cd15 ct15 oc16 kV16 dc16 pm16 cd16 ct16 oc17 kV17 dc17 pm17 cd17 ct17 oc18 kV18 dc18 pm18 cd18 ct18 oc19 kV19 dc19 pm19 cd19 ct19 oc20 kV20 dc20 pm20 cd20 ct20 : Value}
    (a0 : PySem.W.nsIn K mainGlobals "letter_pair" = some (some (.ref f0))) (l0 : K.lookup f0 = some ⟨oc0, od0, .func (PySem.W.fnOf "letter_pair" "letter_pair" (defArgs s_letter_pair) (defBody s_letter_pair) (defScope s_letter_pair) .none kV0 dc0 pm0 an0 cd0 ct0), sl0⟩) (c0 : PySem.W.codeIn K cd0 "letter_pair" = true) (k0 : PySem.W.keepIn K (.ref f0) = true)
    (a1 : PySem.W.nsIn K mainGlobals "letter_word" = some (some (.ref f1))) (l1 : K.lookup f1 = some ⟨oc1, od1, .func (PySem.W.fnOf "letter_word" "letter_word" (defArgs s_letter_word) (defBody s_letter_word) (defScope s_letter_word) .none kV1 dc1 pm1 an1 cd1 ct1), sl1⟩) (c1 : PySem.W.codeIn K cd1 "letter_word" = true) (k1 : PySem.W.keepIn K (.ref f1) = true)
    (a2 : PySem.W.nsIn K mainGlobals "_law_own_bag" = some (some (.ref f2))) (l2 : K.lookup f2 = some ⟨oc2, od2, .func (PySem.W.fnOf "_law_own_bag" "_law_own_bag" (defArgs s__law_own_bag) (defBody s__law_own_bag) (defScope s__law_own_bag) .none kV2 dc2 pm2 an2 cd2 ct2), sl2⟩) (c2 : PySem.W.codeIn K cd2 "_law_own_bag" = true) (k2 : PySem.W.keepIn K (.ref f2) = true)
    (a3 : PySem.W.nsIn K mainGlobals "_law_draw" = some (some (.ref f3))) (l3 : K.lookup f3 = some ⟨oc3, od3, .func (PySem.W.fnOf "_law_draw" "_law_draw" (defArgs s__law_draw) (defBody s__law_draw) (defScope s__law_draw) .none kV3 dc3 pm3 an3 cd3 ct3), sl3⟩) (c3 : PySem.W.codeIn K cd3 "_law_draw" = true) (k3 : PySem.W.keepIn K (.ref f3) = true)
    (a4 : PySem.W.nsIn K mainGlobals "_law_pick" = some (some (.ref f4))) (l4 : K.lookup f4 = some ⟨oc4, od4, .func (PySem.W.fnOf "_law_pick" "_law_pick" (defArgs s__law_pick) (defBody s__law_pick) (defScope s__law_pick) .none kV4 dc4 pm4 an4 cd4 ct4), sl4⟩) (c4 : PySem.W.codeIn K cd4 "_law_pick" = true) (k4 : PySem.W.keepIn K (.ref f4) = true)
    (a5 : PySem.W.nsIn K mainGlobals "_law_powers" = some (some (.ref f5))) (l5 : K.lookup f5 = some ⟨oc5, od5, .func (PySem.W.fnOf "_law_powers" "_law_powers" (defArgs s__law_powers) (defBody s__law_powers) (defScope s__law_powers) .none kV5 dc5 pm5 an5 cd5 ct5), sl5⟩) (c5 : PySem.W.codeIn K cd5 "_law_powers" = true) (k5 : PySem.W.keepIn K (.ref f5) = true)
    (a6 : PySem.W.nsIn K mainGlobals "_law_xor" = some (some (.ref f6))) (l6 : K.lookup f6 = some ⟨oc6, od6, .func (PySem.W.fnOf "_law_xor" "_law_xor" (defArgs s__law_xor) (defBody s__law_xor) (defScope s__law_xor) .none kV6 dc6 pm6 an6 cd6 ct6), sl6⟩) (c6 : PySem.W.codeIn K cd6 "_law_xor" = true) (k6 : PySem.W.keepIn K (.ref f6) = true)
    (a7 : PySem.W.nsIn K mainGlobals "_law_own_letter" = some (some (.ref f7))) (l7 : K.lookup f7 = some ⟨oc7, od7, .func (PySem.W.fnOf "_law_own_letter" "_law_own_letter" (defArgs s__law_own_letter) (defBody s__law_own_letter) (defScope s__law_own_letter) .none kV7 dc7 pm7 an7 cd7 ct7), sl7⟩) (c7 : PySem.W.codeIn K cd7 "_law_own_letter" = true) (k7 : PySem.W.keepIn K (.ref f7) = true)
    (a8 : PySem.W.nsIn K mainGlobals "_law_own_sign" = some (some (.ref f8))) (l8 : K.lookup f8 = some ⟨oc8, od8, .func (PySem.W.fnOf "_law_own_sign" "_law_own_sign" (defArgs s__law_own_sign) (defBody s__law_own_sign) (defScope s__law_own_sign) .none kV8 dc8 pm8 an8 cd8 ct8), sl8⟩) (c8 : PySem.W.codeIn K cd8 "_law_own_sign" = true) (k8 : PySem.W.keepIn K (.ref f8) = true)
    (a9 : PySem.W.nsIn K mainGlobals "_law_own_counts" = some (some (.ref f9))) (l9 : K.lookup f9 = some ⟨oc9, od9, .func (PySem.W.fnOf "_law_own_counts" "_law_own_counts" (defArgs s__law_own_counts) (defBody s__law_own_counts) (defScope s__law_own_counts) .none kV9 dc9 pm9 an9 cd9 ct9), sl9⟩) (c9 : PySem.W.codeIn K cd9 "_law_own_counts" = true) (k9 : PySem.W.keepIn K (.ref f9) = true)
    (a10 : PySem.W.nsIn K mainGlobals "_law_own_place" = some (some (.ref f10))) (l10 : K.lookup f10 = some ⟨oc10, od10, .func (PySem.W.fnOf "_law_own_place" "_law_own_place" (defArgs s__law_own_place) (defBody s__law_own_place) (defScope s__law_own_place) .none kV10 dc10 pm10 an10 cd10 ct10), sl10⟩) (c10 : PySem.W.codeIn K cd10 "_law_own_place" = true) (k10 : PySem.W.keepIn K (.ref f10) = true)
    (a11 : PySem.W.nsIn K mainGlobals "_law_own_pair" = some (some (.ref f11))) (l11 : K.lookup f11 = some ⟨oc11, od11, .func (PySem.W.fnOf "_law_own_pair" "_law_own_pair" (defArgs s__law_own_pair) (defBody s__law_own_pair) (defScope s__law_own_pair) .none kV11 dc11 pm11 an11 cd11 ct11), sl11⟩) (c11 : PySem.W.codeIn K cd11 "_law_own_pair" = true) (k11 : PySem.W.keepIn K (.ref f11) = true)
    (a12 : PySem.W.nsIn K mainGlobals "_law_word_sign" = some (some (.ref f12))) (l12 : K.lookup f12 = some ⟨oc12, od12, .func (PySem.W.fnOf "_law_word_sign" "_law_word_sign" (defArgs s__law_word_sign) (defBody s__law_word_sign) (defScope s__law_word_sign) .none kV12 dc12 pm12 an12 cd12 ct12), sl12⟩) (c12 : PySem.W.codeIn K cd12 "_law_word_sign" = true) (k12 : PySem.W.keepIn K (.ref f12) = true)
    (a13 : PySem.W.nsIn K mainGlobals "_law_about" = some (some (.ref f13))) (l13 : K.lookup f13 = some ⟨oc13, od13, .func (PySem.W.fnOf "_law_about" "_law_about" (defArgs s__law_about) (defBody s__law_about) (defScope s__law_about) .none kV13 dc13 pm13 an13 cd13 ct13), sl13⟩) (c13 : PySem.W.codeIn K cd13 "_law_about" = true) (k13 : PySem.W.keepIn K (.ref f13) = true)
    (a14 : PySem.W.nsIn K mainGlobals "_law_own_word" = some (some (.ref f14))) (l14 : K.lookup f14 = some ⟨oc14, od14, .func (PySem.W.fnOf "_law_own_word" "_law_own_word" (defArgs s__law_own_word) (defBody s__law_own_word) (defScope s__law_own_word) .none kV14 dc14 pm14 an14 cd14 ct14), sl14⟩) (c14 : PySem.W.codeIn K cd14 "_law_own_word" = true) (k14 : PySem.W.keepIn K (.ref f14) = true)
    (a15 : PySem.W.nsIn K mainGlobals "_law_is_told" = some (some (.ref f15))) (l15 : K.lookup f15 = some ⟨oc15, od15, .func (PySem.W.fnOf "_law_is_told" "_law_is_told" (defArgs s__law_is_told) (defBody s__law_is_told) (defScope s__law_is_told) .none kV15 dc15 pm15 an15 cd15 ct15), sl15⟩) (c15 : PySem.W.codeIn K cd15 "_law_is_told" = true) (k15 : PySem.W.keepIn K (.ref f15) = true)
    (a16 : PySem.W.nsIn K mainGlobals "_law_is_pair_right" = some (some (.ref f16))) (l16 : K.lookup f16 = some ⟨oc16, od16, .func (PySem.W.fnOf "_law_is_pair_right" "_law_is_pair_right" (defArgs s__law_is_pair_right) (defBody s__law_is_pair_right) (defScope s__law_is_pair_right) .none kV16 dc16 pm16 an16 cd16 ct16), sl16⟩) (c16 : PySem.W.codeIn K cd16 "_law_is_pair_right" = true) (k16 : PySem.W.keepIn K (.ref f16) = true)
    (a17 : PySem.W.nsIn K mainGlobals "_law_is_word_right" = some (some (.ref f17))) (l17 : K.lookup f17 = some ⟨oc17, od17, .func (PySem.W.fnOf "_law_is_word_right" "_law_is_word_right" (defArgs s__law_is_word_right) (defBody s__law_is_word_right) (defScope s__law_is_word_right) .none kV17 dc17 pm17 an17 cd17 ct17), sl17⟩) (c17 : PySem.W.codeIn K cd17 "_law_is_word_right" = true) (k17 : PySem.W.keepIn K (.ref f17) = true)
    (a18 : PySem.W.nsIn K mainGlobals "_law_is_pairs_turn_right" = some (some (.ref f18))) (l18 : K.lookup f18 = some ⟨oc18, od18, .func (PySem.W.fnOf "_law_is_pairs_turn_right" "_law_is_pairs_turn_right" (defArgs s__law_is_pairs_turn_right) (defBody s__law_is_pairs_turn_right) (defScope s__law_is_pairs_turn_right) .none kV18 dc18 pm18 an18 cd18 ct18), sl18⟩) (c18 : PySem.W.codeIn K cd18 "_law_is_pairs_turn_right" = true) (k18 : PySem.W.keepIn K (.ref f18) = true)
    (a19 : PySem.W.nsIn K mainGlobals "_law_is_words_turn_right" = some (some (.ref f19))) (l19 : K.lookup f19 = some ⟨oc19, od19, .func (PySem.W.fnOf "_law_is_words_turn_right" "_law_is_words_turn_right" (defArgs s__law_is_words_turn_right) (defBody s__law_is_words_turn_right) (defScope s__law_is_words_turn_right) .none kV19 dc19 pm19 an19 cd19 ct19), sl19⟩) (c19 : PySem.W.codeIn K cd19 "_law_is_words_turn_right" = true) (k19 : PySem.W.keepIn K (.ref f19) = true)
    (a20 : PySem.W.nsIn K mainGlobals "law" = some (some (.ref f20))) (l20 : K.lookup f20 = some ⟨oc20, od20, .func (PySem.W.fnOf "law" "law" (defArgs s_law) (defBody s_law) (defScope s_law) .none kV20 dc20 pm20 an20 cd20 ct20), sl20⟩) (c20 : PySem.W.codeIn K cd20 "law" = true) (k20 : PySem.W.keepIn K (.ref f20) = true)
    (y_abs : PySem.W.nsIn K mainGlobals "abs" = some none) (y_enumerate : PySem.W.nsIn K mainGlobals "enumerate" = some none) (y_int : PySem.W.nsIn K mainGlobals "int" = some none) (y_isinstance : PySem.W.nsIn K mainGlobals "isinstance" = some none) (y_len : PySem.W.nsIn K mainGlobals "len" = some none) (y_list : PySem.W.nsIn K mainGlobals "list" = some none) (y_max : PySem.W.nsIn K mainGlobals "max" = some none) (y_min : PySem.W.nsIn K mainGlobals "min" = some none) (y_range : PySem.W.nsIn K mainGlobals "range" = some none) (y_repr : PySem.W.nsIn K mainGlobals "repr" = some none) (y_reversed : PySem.W.nsIn K mainGlobals "reversed" = some none) (y_sum : PySem.W.nsIn K mainGlobals "sum" = some none) (y_tuple : PySem.W.nsIn K mainGlobals "tuple" = some none) (y_zip : PySem.W.nsIn K mainGlobals "zip" = some none) :
    ∃ fd : FuncData, (∀ (s : Shared) (v : Value), BindsTo s fd ⟨[v], []⟩ [("script", v)]) ∧ ∀ base : Heap, K.In base → base.Ns mainGlobals mg → FnG l.prog w K mg base 67 fa fd ["script"] (spF K mg 1 M_law) := by
  have e := hfa.symm.trans (PySem.W.mg_of X G a20)
  cases e
  have z_abs := PySem.W.mg_none_of X G y_abs
  have z_enumerate := PySem.W.mg_none_of X G y_enumerate
  have z_int := PySem.W.mg_none_of X G y_int
  have z_isinstance := PySem.W.mg_none_of X G y_isinstance
  have z_len := PySem.W.mg_none_of X G y_len
  have z_list := PySem.W.mg_none_of X G y_list
  have z_max := PySem.W.mg_none_of X G y_max
  have z_min := PySem.W.mg_none_of X G y_min
  have z_range := PySem.W.mg_none_of X G y_range
  have z_repr := PySem.W.mg_none_of X G y_repr
  have z_reversed := PySem.W.mg_none_of X G y_reversed
  have z_sum := PySem.W.mg_none_of X G y_sum
  have z_tuple := PySem.W.mg_none_of X G y_tuple
  have z_zip := PySem.W.mg_none_of X G y_zip
  have F0 := fun_mk (st := s_letter_pair) l0 c0 k0
  have b0 := F0.binds (ps := ["i", "j", "floors"]) fun _ _ _ _ _ _ us hl => match us, hl with | [_, _, _], _ => rfl
  have g0 := PySem.W.mg_of X G a0
  have F1 := fun_mk (st := s_letter_word) l1 c1 k1
  have b1 := F1.binds (ps := ["word", "row", "floors"]) fun _ _ _ _ _ _ us hl => match us, hl with | [_, _, _], _ => rfl
  have g1 := PySem.W.mg_of X G a1
  have F2 := fun_mk (st := s__law_own_bag) l2 c2 k2
  have b2 := F2.binds (ps := ["script"]) fun _ _ _ _ _ _ us hl => match us, hl with | [_], _ => rfl
  have g2 := PySem.W.mg_of X G a2
  have F3 := fun_mk (st := s__law_draw) l3 c3 k3
  have b3 := F3.binds (ps := ["bag", "below"]) fun _ _ _ _ _ _ us hl => match us, hl with | [_, _], _ => rfl
  have g3 := PySem.W.mg_of X G a3
  have F4 := fun_mk (st := s__law_pick) l4 c4 k4
  have b4 := F4.binds (ps := ["bag", "some"]) fun _ _ _ _ _ _ us hl => match us, hl with | [_, _], _ => rfl
  have g4 := PySem.W.mg_of X G a4
  have F5 := fun_mk (st := s__law_powers) l5 c5 k5
  have b5 := F5.binds (ps := ["floors"]) fun _ _ _ _ _ _ us hl => match us, hl with | [_], _ => rfl
  have g5 := PySem.W.mg_of X G a5
  have F6 := fun_mk (st := s__law_xor) l6 c6 k6
  have b6 := F6.binds (ps := ["i", "j"]) fun _ _ _ _ _ _ us hl => match us, hl with | [_, _], _ => rfl
  have g6 := PySem.W.mg_of X G a6
  have F7 := fun_mk (st := s__law_own_letter) l7 c7 k7
  have b7 := F7.binds (ps := ["bag", "floors", "powers", "row", "is_free"]) fun _ _ _ _ _ _ us hl => match us, hl with | [_, _, _, _, _], _ => rfl
  have g7 := PySem.W.mg_of X G a7
  have F8 := fun_mk (st := s__law_own_sign) l8 c8 k8
  have b8 := F8.binds (ps := ["i", "j", "downs"]) fun _ _ _ _ _ _ us hl => match us, hl with | [_, _, _], _ => rfl
  have g8 := PySem.W.mg_of X G a8
  have F9 := fun_mk (st := s__law_own_counts) l9 c9 k9
  have b9 := F9.binds (ps := ["letters", "powers"]) fun _ _ _ _ _ _ us hl => match us, hl with | [_, _], _ => rfl
  have g9 := PySem.W.mg_of X G a9
  have F10 := fun_mk (st := s__law_own_place) l10 c10 k10
  have b10 := F10.binds (ps := ["counts", "powers"]) fun _ _ _ _ _ _ us hl => match us, hl with | [_, _], _ => rfl
  have g10 := PySem.W.mg_of X G a10
  have F11 := fun_mk (st := s__law_own_pair) l11 c11 k11
  have b11 := F11.binds (ps := ["i", "j", "powers", "downs"]) fun _ _ _ _ _ _ us hl => match us, hl with | [_, _, _, _], _ => rfl
  have g11 := PySem.W.mg_of X G a11
  have F12 := fun_mk (st := s__law_word_sign) l12 c12 k12
  have b12 := F12.binds (ps := ["word", "row", "downs"]) fun _ _ _ _ _ _ us hl => match us, hl with | [_, _, _], _ => rfl
  have g12 := PySem.W.mg_of X G a12
  have F13 := fun_mk (st := s__law_about) l13 c13 k13
  have b13 := F13.binds (ps := ["bag", "part", "room"]) fun _ _ _ _ _ _ us hl => match us, hl with | [_, _, _], _ => rfl
  have g13 := PySem.W.mg_of X G a13
  have F14 := fun_mk (st := s__law_own_word) l14 c14 k14
  have b14 := F14.binds (ps := ["bag", "letters", "is_plain"]) fun _ _ _ _ _ _ us hl => match us, hl with | [_, _, _], _ => rfl
  have g14 := PySem.W.mg_of X G a14
  have F15 := fun_mk (st := s__law_is_told) l15 c15 k15
  have b15 := F15.binds (ps := ["told", "due"]) fun _ _ _ _ _ _ us hl => match us, hl with | [_, _], _ => rfl
  have g15 := PySem.W.mg_of X G a15
  have F16 := fun_mk (st := s__law_is_pair_right) l16 c16 k16
  have b16 := F16.binds (ps := ["i", "j", "floors", "due"]) fun _ _ _ _ _ _ us hl => match us, hl with | [_, _, _, _], _ => rfl
  have g16 := PySem.W.mg_of X G a16
  have F17 := fun_mk (st := s__law_is_word_right) l17 c17 k17
  have b17 := F17.binds (ps := ["word", "row", "floors", "due"]) fun _ _ _ _ _ _ us hl => match us, hl with | [_, _, _, _], _ => rfl
  have g17 := PySem.W.mg_of X G a17
  have F18 := fun_mk (st := s__law_is_pairs_turn_right) l18 c18 k18
  have b18 := F18.binds (ps := ["bag", "floors", "row", "asked"]) fun _ _ _ _ _ _ us hl => match us, hl with | [_, _, _, _], _ => rfl
  have g18 := PySem.W.mg_of X G a18
  have F19 := fun_mk (st := s__law_is_words_turn_right) l19 c19 k19
  have b19 := F19.binds (ps := ["bag", "floors", "row", "asked"]) fun _ _ _ _ _ _ us hl => match us, hl with | [_, _, _, _], _ => rfl
  have g19 := PySem.W.mg_of X G a19
  have F20 := fun_mk (st := s_law) l20 c20 k20
  have b20 := F20.binds (ps := ["script"]) fun _ _ _ _ _ _ us hl => match us, hl with | [_], _ => rfl
  have g20 := PySem.W.mg_of X G a20
  refine ⟨PySem.W.fnOf "law" "law" (defArgs s_law) (defBody s_law) (defScope s_law) .none kV20 dc20 pm20 an20 cd20 ct20, fun s v => .of_eq rfl, fun base _ _ => ?_⟩
  · skip
    have o_letter_pair := ok_letter_pair (P := l.prog) (w := w) (mg := mg) (base := base) F0 z_list z_range z_reversed z_tuple
    have c_letter_pair : Callee l.prog w K mg base 1 "letter_pair" 3 M_letter_pair := ⟨_, _, _, rfl, o_letter_pair.more (by decide), g0, F0.kp, b0⟩
    have c_letter_pair_K0 : CalleeK l.prog w K mg base 1 "letter_pair" 3 M_letter_pair ["floors", "j", "i"] [2, 1, 0] := ⟨_, _, _, rfl, o_letter_pair.more (by decide), g0, F0.kp, Fun.kbinds F0 fun _ _ _ _ _ _ ws hl => match ws, hl with | [_, _, _], _ => rfl⟩
    have o_letter_word := ok_letter_word (P := l.prog) (w := w) (mg := mg) (base := base) F1 g1 b1 z_isinstance z_tuple z_zip c_letter_pair 60
    have c_letter_word : Callee l.prog w K mg base 64 "letter_word" 3 (M_letter_word 60) := ⟨_, _, _, rfl, o_letter_word.more (by decide), g1, F1.kp, b1⟩
    have c_letter_word_K0 : CalleeK l.prog w K mg base 64 "letter_word" 3 (M_letter_word 60) ["floors", "row", "word"] [2, 1, 0] := ⟨_, _, _, rfl, o_letter_word.more (by decide), g1, F1.kp, Fun.kbinds F1 fun _ _ _ _ _ _ ws hl => match ws, hl with | [_, _, _], _ => rfl⟩
    have o__law_own_bag := ok__law_own_bag (P := l.prog) (w := w) (mg := mg) (base := base) F2 z_abs z_int z_len z_list z_reversed
    have c__law_own_bag : Callee l.prog w K mg base 1 "_law_own_bag" 1 M__law_own_bag := ⟨_, _, _, rfl, o__law_own_bag.more (by decide), g2, F2.kp, b2⟩
    have o__law_draw := ok__law_draw (P := l.prog) (w := w) (mg := mg) (base := base) F3 z_int z_range
    have c__law_draw : Callee l.prog w K mg base 1 "_law_draw" 2 M__law_draw := ⟨_, _, _, rfl, o__law_draw.more (by decide), g3, F3.kp, b3⟩
    have o__law_pick := ok__law_pick (P := l.prog) (w := w) (mg := mg) (base := base) F4 z_len c__law_draw
    have c__law_pick : Callee l.prog w K mg base 2 "_law_pick" 2 M__law_pick := ⟨_, _, _, rfl, o__law_pick.more (by decide), g4, F4.kp, b4⟩
    have o__law_powers := ok__law_powers (P := l.prog) (w := w) (mg := mg) (base := base) F5 z_range
    have c__law_powers : Callee l.prog w K mg base 1 "_law_powers" 1 M__law_powers := ⟨_, _, _, rfl, o__law_powers.more (by decide), g5, F5.kp, b5⟩
    have o__law_xor := ok__law_xor (P := l.prog) (w := w) (mg := mg) (base := base) F6
    have c__law_xor : Callee l.prog w K mg base 1 "_law_xor" 2 M__law_xor := ⟨_, _, _, rfl, o__law_xor.more (by decide), g6, F6.kp, b6⟩
    have o__law_own_letter := ok__law_own_letter (P := l.prog) (w := w) (mg := mg) (base := base) F7 z_int z_range c__law_draw c__law_pick c__law_xor
    have c__law_own_letter : Callee l.prog w K mg base 3 "_law_own_letter" 5 M__law_own_letter := ⟨_, _, _, rfl, o__law_own_letter.more (by decide), g7, F7.kp, b7⟩
    have o__law_own_sign := ok__law_own_sign (P := l.prog) (w := w) (mg := mg) (base := base) F8
    have c__law_own_sign : Callee l.prog w K mg base 1 "_law_own_sign" 3 M__law_own_sign := ⟨_, _, _, rfl, o__law_own_sign.more (by decide), g8, F8.kp, b8⟩
    have o__law_own_counts := ok__law_own_counts (P := l.prog) (w := w) (mg := mg) (base := base) F9 z_sum
    have c__law_own_counts : Callee l.prog w K mg base 1 "_law_own_counts" 2 M__law_own_counts := ⟨_, _, _, rfl, o__law_own_counts.more (by decide), g9, F9.kp, b9⟩
    have o__law_own_place := ok__law_own_place (P := l.prog) (w := w) (mg := mg) (base := base) F10 z_int z_sum z_zip
    have c__law_own_place : Callee l.prog w K mg base 1 "_law_own_place" 2 M__law_own_place := ⟨_, _, _, rfl, o__law_own_place.more (by decide), g10, F10.kp, b10⟩
    have o__law_own_pair := ok__law_own_pair (P := l.prog) (w := w) (mg := mg) (base := base) F11 z_enumerate z_tuple c__law_own_sign c__law_own_counts c__law_own_place
    have c__law_own_pair : Callee l.prog w K mg base 2 "_law_own_pair" 4 M__law_own_pair := ⟨_, _, _, rfl, o__law_own_pair.more (by decide), g11, F11.kp, b11⟩
    have o__law_word_sign := ok__law_word_sign (P := l.prog) (w := w) (mg := mg) (base := base) F12 g12 b12 z_int z_isinstance c__law_xor c__law_own_sign 60
    have c__law_word_sign : Callee l.prog w K mg base 64 "_law_word_sign" 3 (M__law_word_sign 60) := ⟨_, _, _, rfl, o__law_word_sign.more (by decide), g12, F12.kp, b12⟩
    have o__law_about := ok__law_about (P := l.prog) (w := w) (mg := mg) (base := base) F13 z_min z_range c__law_draw c__law_pick
    have c__law_about : Callee l.prog w K mg base 3 "_law_about" 3 M__law_about := ⟨_, _, _, rfl, o__law_about.more (by decide), g13, F13.kp, b13⟩
    have o__law_own_word := ok__law_own_word (P := l.prog) (w := w) (mg := mg) (base := base) F14 z_len z_list z_max z_range z_reversed c__law_draw c__law_about
    have c__law_own_word : Callee l.prog w K mg base 4 "_law_own_word" 3 M__law_own_word := ⟨_, _, _, rfl, o__law_own_word.more (by decide), g14, F14.kp, b14⟩
    have o__law_is_told := ok__law_is_told (P := l.prog) (w := w) (mg := mg) (base := base) F15 z_isinstance z_repr z_tuple
    have c__law_is_told : Callee l.prog w K mg base 1 "_law_is_told" 2 M__law_is_told := ⟨_, _, _, rfl, o__law_is_told.more (by decide), g15, F15.kp, b15⟩
    have o__law_is_pair_right := ok__law_is_pair_right (P := l.prog) (w := w) (mg := mg) (base := base) F16 c_letter_pair c_letter_pair_K0 c__law_is_told
    have c__law_is_pair_right : Callee l.prog w K mg base 2 "_law_is_pair_right" 4 M__law_is_pair_right := ⟨_, _, _, rfl, o__law_is_pair_right.more (by decide), g16, F16.kp, b16⟩
    have o__law_is_word_right := ok__law_is_word_right (P := l.prog) (w := w) (mg := mg) (base := base) F17 z_repr c_letter_word c_letter_word_K0 c__law_is_told
    have c__law_is_word_right : Callee l.prog w K mg base 65 "_law_is_word_right" 4 M__law_is_word_right := ⟨_, _, _, rfl, o__law_is_word_right.more (by decide), g17, F17.kp, b17⟩
    have o__law_is_pairs_turn_right := ok__law_is_pairs_turn_right (P := l.prog) (w := w) (mg := mg) (base := base) F18 z_list z_range z_reversed c__law_draw c__law_pick c__law_powers c__law_own_pair c__law_is_pair_right
    have c__law_is_pairs_turn_right : Callee l.prog w K mg base 3 "_law_is_pairs_turn_right" 4 M__law_is_pairs_turn_right := ⟨_, _, _, rfl, o__law_is_pairs_turn_right.more (by decide), g18, F18.kp, b18⟩
    have o__law_is_words_turn_right := ok__law_is_words_turn_right (P := l.prog) (w := w) (mg := mg) (base := base) F19 z_list z_max z_range z_reversed z_tuple c__law_draw c__law_pick c__law_powers c__law_own_counts c__law_own_place c__law_word_sign c__law_own_word c__law_is_word_right
    have c__law_is_words_turn_right : Callee l.prog w K mg base 66 "_law_is_words_turn_right" 4 M__law_is_words_turn_right := ⟨_, _, _, rfl, o__law_is_words_turn_right.more (by decide), g19, F19.kp, b19⟩
    have o_law := ok_law (P := l.prog) (w := w) (mg := mg) (base := base) F20 z_int z_list z_range z_reversed c__law_own_bag c__law_draw c__law_pick c__law_powers c__law_own_letter c__law_is_pair_right c__law_is_word_right c__law_is_pairs_turn_right c__law_is_words_turn_right
    exact o_law
end W_losesone_k03_whole_letter_products
set_option Elab.async false
set_option autoImplicit false
set_option linter.all false
set_option maxRecDepth 100000
namespace W_losesone_k03_whole_letter_products
open PySem PySem.Spec PyProof.Rows L2 Ow

theorem xor_ok (i j : Int) : M__law_xor [.int i, .int j] = some (.ok (.int (i + j - 2 * Builtin.bitAnd i j)) [some (.int i), some (.int j)]) := rfl

/-! ### the bag -/
def bagD (cs : List Int) (cur mx : Int) : D := .lst true [.lst true (cs.map .int), .int cur, .int mx]
structure BagOk (cs : List Int) (cur mx : Int) : Prop where
  cs : ∀ c ∈ cs, 0 ≤ c
  cur : 0 ≤ cur
  m0 : 0 ≤ mx
  m1 : mx < 2147483647
def IsBag (b : D) : Prop := ∃ cs cur mx, b = bagD cs cur mx ∧ BagOk cs cur mx
theorem nil_test (o o' : Bool) (cs : List Int) (c : Int) : dEqA [.lst o ((cs ++ [c]).map .int), .lst o' []] = some (.bl false) := by
  have h1 : noDcts ((cs ++ [c]).map D.int) = true := by
    induction cs with
    | nil => rfl
    | cons x l ih => simpa [noDcts, noDct] using ih
  have h2 : PyData.canLayAll0 (pys ((cs ++ [c]).map D.int)) = true := by
    induction cs with
    | nil => rfl
    | cons x l ih => simpa [pys, py, PyData.canLayAll0, PyData.canLay0, noDcts, noDct] using ih (by simpa [noDcts, noDct] using h1)
  have h3 : PyData.depthAll (pys ((cs ++ [c]).map D.int)) = 0 := by
    clear h1 h2
    induction cs with
    | nil => rfl
    | cons x l ih => simpa [pys, py, PyData.depthAll, PyData.depth] using ih
  have h4 : PyData.eqvAll (pys ((cs ++ [c]).map D.int)) [] = false := by cases cs <;> rfl
  show (if noDcts ((cs ++ [c]).map D.int) && true && SeqAt.shaped (.list (pys ((cs ++ [c]).map D.int))) && true then some (D.bl (PyData.eqvAll (pys ((cs ++ [c]).map D.int)) [])) else none) = _
  rw [h1, h4]
  have : SeqAt.shaped (.list (pys ((cs ++ [c]).map D.int))) = true := by
    unfold SeqAt.shaped PyData.canLay0 PyData.depth
    rw [h2, h3]
    rfl
  rw [this]
  rfl
theorem draw_bk (cs : List Int) (cur mx below : Int) (x y : Option D) (h : 0 < cur ∨ cs = []) : B__law_draw_1 [some (bagD cs cur mx), some (.int below), x, y, none] = some (.bk [some (bagD cs cur mx), some (.int below), x, y, none]) := by
  unfold B__law_draw_1
  refine sSeq_bk ?_
  by_cases hc : 0 < cur
  · refine sIf_t (e' := [some (bagD cs cur mx), some (.int below), x, y, none]) (mOr_t ?_)
    show some (ER.ok (.bl (decide (0 < cur))) _) = _
    rw [decide_eq_true hc]
  · have hn : cs = [] := h.resolve_left hc
    subst hn
    refine sIf_t (e' := [some (bagD [] cur mx), some (.int below), x, y, none]) ((mOr_f (e' := [some (bagD [] cur mx), some (.int below), x, y, none]) ?_).trans ?_)
    · show some (ER.ok (.bl (decide (0 < cur))) _) = _
      rw [decide_eq_false hc]
    · rfl
@[simp] theorem pw9 : dPow [.int 10, .int 9] = some (.int 1000000000) := rfl
@[simp] theorem pw20 : dPow [.int 2, .int 20] = some (.int 1048576) := rfl
theorem draw_pop (cs : List Int) (c cur mx below : Int) (x y : Option D) (h : ¬ 0 < cur) : ∃ cur', (cur' = c ∨ cur' = 0) ∧ B__law_draw_1 [some (bagD (cs ++ [c]) cur mx), some (.int below), x, y, none] =
    some (.nx [some (bagD cs cur' mx), some (.int below), x, some (.int c), none]) := by
  have h1 : dEqA [D.lst true (List.map D.int cs ++ [D.int c]), D.lst false []] = some (D.bl false) := by simpa using nil_test true false cs c
  by_cases hc : 1000000000 < c
  · refine ⟨c, .inl rfl, ?_⟩
    simp [B__law_draw_1, bagD, h, h1, hc, ixN]
  · refine ⟨0, .inr rfl, ?_⟩
    simp [B__law_draw_1, bagD, h, h1, hc, ixN]
/-- the rounds of a draw -/
theorem draw_loop {mx below : Int} {ok : Sl → Prop} (hok : ∀ e, ok e) : ∀ (items : List D) (cs : List Int) (cur : Int) (x y : Option D), BagOk cs cur mx → (∀ d ∈ items, ∃ n, d = .int n) →
    ∃ cs' cur' x' y', forL (.nm 2) B__law_draw_1 ok items [some (bagD cs cur mx), some (.int below), x, y, none] = some (.nx [some (bagD cs' cur' mx), some (.int below), x', y', none]) ∧ BagOk cs' cur' mx
  | [], cs, cur, x, y, hb, _ => ⟨cs, cur, x, y, forL_nil (hok _), hb⟩
  | d :: l, cs, cur, x, y, hb, hi => by
    by_cases hc : 0 < cur ∨ cs = []
    · exact ⟨cs, cur, some d, y, forL_bk (hok _) rfl (draw_bk cs cur mx below (some d) y hc), hb⟩
    · have h1 : ¬ 0 < cur := fun z => hc (.inl z)
      rcases List.eq_nil_or_concat cs with rfl | ⟨cs, c, rfl⟩
      · exact absurd (.inr rfl) hc
      · rw [List.concat_eq_append] at hb ⊢
        obtain ⟨cur', h2, h3⟩ := draw_pop cs c cur mx below (some d) y h1
        rw [forL_nx (hok _) rfl h3]
        have c0 : 0 ≤ c := hb.cs c (by simp)
        exact draw_loop hok l cs cur' _ _ ⟨fun z hz => hb.cs z (by simp [hz]), by rcases h2 with rfl | rfl <;> omega, hb.m0, hb.m1⟩ fun d hd => hi d (List.mem_cons_of_mem _ hd)
theorem draw_ok {b : D} (hb : IsBag b) {below : Int} (h1 : 1 ≤ below) (h2 : below < 18446744073709551616) : ∃ v b', M__law_draw [b, .int below] = some (.ok (.int v) [some b', some (.int below)]) ∧ IsBag b' ∧ 0 ≤ v ∧ v < below := by
  obtain ⟨cs, cur, mx, rfl, hb⟩ := hb
  obtain ⟨cs', cur', x', y', e1, hb'⟩ := draw_loop (mx := mx) (below := below) (ok := fun e => resolves e [.v (.int 64)] = some [.int 64]) (fun _ => rfl) ((List.range (64 : Int).toNat).map fun i => .int (i : Nat)) cs cur none none hb fun d hd => by
    obtain ⟨i, _, rfl⟩ := List.mem_map.mp hd
    exact ⟨_, rfl⟩
  have e2 : sFor (.nm 2) [.vl (mC (.int 64))] gRng1 B__law_draw_1 [some (bagD cs cur mx), some (.int below), none, none, none] = some (.nx [some (bagD cs' cur' mx), some (.int below), x', y', none]) := by
    rw [sFor_ok (av := [.v (.int 64)]) (e' := [some (bagD cs cur mx), some (.int below), none, none, none]) (ds := [.int 64]) (items := (List.range (64 : Int).toNat).map fun i => .int (i : Nat)) rfl rfl rfl]
    exact e1
  have hm := Int.emod_nonneg
  by_cases hc : 0 < cur'
  · refine ⟨cur' % below, bagD cs' (cur' / below) mx, mF_rt (e := [some (bagD cs' (cur' / below) mx), some (.int below), x', y', some (.int (cur' % below))]) rfl ?_, ⟨cs', _, mx, rfl, hb'.cs, Int.ediv_nonneg hb'.cur (by omega), hb'.m0, hb'.m1⟩, Int.emod_nonneg _ (by omega), Int.emod_lt_of_pos _ (by omega)⟩
    unfold S__law_draw
    refine (sSeq_nx e2).trans ?_
    simp [bagD, hc, dInt, ixN, fitsDiv_of (show 0 < below by omega) h2, show 0 < below by omega]
  · have m0 : 0 ≤ (mx * 48271 + 11) % 2147483647 := Int.emod_nonneg _ (by decide)
    have m1 : (mx * 48271 + 11) % 2147483647 < 2147483647 := Int.emod_lt_of_pos _ (by decide)
    refine ⟨_, bagD cs' cur' ((mx * 48271 + 11) % 2147483647), mF_rt (d := .int ((((mx * 48271 + 11) % 2147483647 * ((mx * 48271 + 11) % 2147483647)) % 2147483629 / 7) % below)) (e := [some (bagD cs' cur' ((mx * 48271 + 11) % 2147483647)), some (.int below), x', y', none]) rfl ?_, ⟨cs', cur', _, rfl, hb'.cs, hb'.cur, m0, m1⟩, Int.emod_nonneg _ (by omega), Int.emod_lt_of_pos _ (by omega)⟩
    unfold S__law_draw
    refine (sSeq_nx e2).trans ?_
    have f1 : fitsMul mx 48271 = true := fitsMul_r (by decide) (by decide)
    have f2 : fitsMul ((mx * 48271 + 11) % 2147483647) ((mx * 48271 + 11) % 2147483647) = true := fitsMul_l (by omega) (by omega)
    have f3 : fitsDiv 7 = true := rfl
    simp [bagD, hc, dInt, ixN, f1, f2, f3, show 0 < below by omega]

/-! ### the bag's making -/
theorem bag_loop {most : Int} {sc : D} (L : List D) : ∀ (cs : List Int) (m : Int) (x : Option D), 0 ≤ m → m < 2147483647 →
    ∃ m' x', forL (.nm 4) B__law_own_bag_1 (fun e => resolves e [.nm 2] = some [.lst true L]) (cs.map D.int) [some sc, some (.int most), some (.lst true L), some (.int m), x] =
      some (.nx [some sc, some (.int most), some (.lst true L), some (.int m'), x']) ∧ 0 ≤ m' ∧ m' < 2147483647
  | [], m, x, h1, h2 => ⟨m, x, forL_nil rfl, h1, h2⟩
  | c :: cs, m, x, h1, h2 => by
    have f1 : fitsMul m 48271 = true := fitsMul_r (by decide) (by decide)
    have e1 : B__law_own_bag_1 [some sc, some (.int most), some (.lst true L), some (.int m), some (.int c)] = some (.nx [some sc, some (.int most), some (.lst true L), some (.int ((m * 48271 + c % 2147483629 + 7) % 2147483647)), some (.int c)]) := by
      simp [B__law_own_bag_1, f1]
    have e2 := forL_nx (t := .nm 4) (ok := fun e => resolves e [.nm 2] = some [.lst true L]) (e := [some sc, some (.int most), some (.lst true L), some (.int m), x]) (l := cs.map D.int) rfl rfl e1
    rw [List.map_cons, e2]
    exact bag_loop L cs _ _ (Int.emod_nonneg _ (by decide)) (Int.emod_lt_of_pos _ (by decide))
def most0 : Int := 1000000000000000000000000000000000000000000000000000000000 ^ 7
theorem most0_pos : 0 < most0 := by decide +kernel
theorem abs_mod_nonneg (n : Int) {k : Int} (hk : 0 < k) : 0 ≤ (if n < 0 then -n else n) % k := Int.emod_nonneg _ (by omega)
theorem pwMost (e : Sl) : mB dPow [.vl (mB dPow [.vl (mC (.int 10)), .vl (mC (.int 57))]), .vl (mC (.int 7))] e = some (.ok (.int most0) e) := by
  have h1 : dPow [.int 10, .int 57] = some (.int 1000000000000000000000000000000000000000000000000000000000) := by rfl
  have h2 : dPow [.int 1000000000000000000000000000000000000000000000000000000000, .int 7] = some (.int most0) := by rfl
  simp [h1, h2]
theorem cut63 (ns : List Int) : ∃ ns' : List Int, cut (ns.map D.int) none (some 63) = ns'.map D.int ∧ ns'.length ≤ 63 := by
  refine ⟨ns.take (min 63 ns.length), ?_, by simp; omega⟩
  unfold cut
  have : HT.sIx (ns.map D.int).length (ns.map D.int).length (some 63) = min 63 ns.length := by
    have := HT.sIx_nat (ns.map D.int).length (ns.map D.int).length 63
    simpa using this
  rw [this, HT.sIx_none]
  simp [List.map_take]
theorem bag_ok (ns : List Int) : ∃ b, M__law_own_bag [.far (ns.map D.int)] = some (.ok b [some (.far (ns.map D.int))]) ∧ IsBag b := by
  obtain ⟨ns', hcut, hl'⟩ := cut63 ns
  generalize ns.map D.int = far at hcut ⊢
  let F : Int → Int := fun n => (if n < 0 then -n else n) % most0
  have hlen : (ns'.map F).length ≤ 63 := by simpa using hl'
  have hc : ∀ c ∈ ns'.map F, 0 ≤ c := fun c hc => by
    obtain ⟨n, _, rfl⟩ := List.mem_map.mp hc
    exact abs_mod_nonneg n most0_pos
  generalize hcs : ns'.map F = cs at hlen hc
  obtain ⟨m', x', e1, m0, m1⟩ := bag_loop (most := most0) (sc := .far far) (cs.map D.int) cs (8642 + cs.length) none (by omega) (by omega)
  refine ⟨bagD cs.reverse 0 m', mF_rt (e := [some (.far far), some (.int most0), some (.lst true (cs.map D.int)), some (.int m'), x']) rfl ?_, ⟨cs.reverse, 0, m', rfl, fun c h => hc c (by simpa using h), by omega, m0, m1⟩⟩
  unfold S__law_own_bag
  refine (sSeq_nx (e' := [some (.far far), some (.int most0), none, none, none]) (sSet_ok (pwMost _))).trans ?_
  refine (sSeq_nx (e' := [some (.far far), some (.int most0), some (.lst true (cs.map D.int)), none, none]) (sSet_ok (d := .lst true (cs.map D.int)) (e' := [some (.far far), some (.int most0), none, none, none]) ?_)).trans ?_
  · refine mLc_ok (av := [.v (.lst false (ns'.map D.int))]) (e' := [some (.far far), some (.int most0), none, none, none]) (ds := [.lst false (ns'.map D.int)]) (items := ns'.map D.int) ?_ rfl ?_ (by simp; omega) ?_
    · have : dSl false true [.far far, .int 63] = some (.lst true (ns'.map D.int)) := by simp [dSl, partD, Ow.cutD, hcut]
      simp [this]
    · show (if low _ then _ else _) = _
      rw [low_ints]; rfl
    · have hp := lcL_pure (t := .nm 4) (c := mC (.bl true)) (y := mB dMod [.vl (mB dInt [.vl (mB dAbs [.nm 4])]), .nm 1]) (vs := [4]) (ok := fun e => resolves e [.v (.lst false (ns'.map D.int))] = some [.lst false (ns'.map D.int)])
        (e := [some (.far far), some (.int most0), none, none, none]) (fun _ => true) (fun d => match d with | .int n => .int (F n) | d => d) rfl (l := ns'.map D.int) fun d hd => by
          obtain ⟨n, _, rfl⟩ := List.mem_map.mp hd
          refine ⟨_, _, rfl, rfl, fun z => (by cases z), fun _ => ⟨[some (.far far), some (.int most0), none, none, some (.int n)], ?_, rfl⟩⟩
          simp [dAbs, most0_pos, F]
      refine hp.trans ?_
      rw [List.filter_eq_self.mpr (fun _ _ => rfl), ← hcs, List.map_map, List.map_map]
      rfl
  · refine (sSeq_nx (e' := [some (.far far), some (.int most0), some (.lst true (cs.map D.int)), some (.int (8642 + cs.length)), none]) (by simp)).trans ?_
    refine (sSeq_nx (e' := [some (.far far), some (.int most0), some (.lst true (cs.map D.int)), some (.int m'), x']) ?_).trans ?_
    · rw [sFor_ok (av := [.nm 2]) (e' := [some (.far far), some (.int most0), some (.lst true (cs.map D.int)), some (.int (8642 + cs.length)), none]) (ds := [.lst true (cs.map D.int)]) (items := cs.map D.int) rfl rfl (by show (if low _ then _ else _) = _; rw [low_ints]; rfl)]
      exact e1
    · have l1 := low_ints cs
      simp [dList, l1, dLstRev, lstD, bagD]
end W_losesone_k03_whole_letter_products

set_option Elab.async false
set_option autoImplicit false
set_option linter.all false
set_option maxRecDepth 100000
namespace W_losesone_k03_whole_letter_products
open PySem PySem.Spec PyProof.Rows L2 Ow

theorem IsBag.top {b : D} (h : IsBag b) : Ow.top b = true := by obtain ⟨_, _, _, rfl, _⟩ := h; rfl
theorem atI_get {α : Type} {l : List α} {v : Int} (h0 : 0 ≤ v) (h1 : v < l.length) : ∃ d, d ∈ l ∧ l[v.toNat]? = some d ∧ atI l v = some d := by
  have hl : v.toNat < l.length := by omega
  refine ⟨l[v.toNat], List.getElem_mem hl, List.getElem?_eq_getElem hl, ?_⟩
  unfold atI ixN
  rw [if_pos h0, if_pos h1]
  simp
theorem low_mem {l : List D} (h : low l = true) {d : D} (hd : d ∈ l) : Ow.top d = false := by
  unfold low at h
  rw [List.all_eq_true] at h
  simpa using h d hd
theorem pick_ok {b : D} (hb : IsBag b) {o : Bool} {l : List D} (hne : l ≠ []) (hlow : low l = true) (hlen : l.length < 16777216) : ∃ d b', d ∈ l ∧ M__law_pick [b, .lst o l] = some (.ok d [some b', some (.lst o l)]) ∧ IsBag b' := by
  have hp : 0 < l.length := List.length_pos_iff.mpr hne
  obtain ⟨v, b', e1, hb', v0, v1⟩ := draw_ok hb (below := l.length) (by omega) (by omega)
  obtain ⟨d, hd, h2, h3⟩ := atI_get v0 v1
  refine ⟨d, b', hd, mF_rt (e := [some b', some (.lst o l)]) rfl ?_, hb'⟩
  have hc : mCall M__law_draw [.nm 0, .vl (mB dLen [.nm 1])] [some b, some (.lst o l)] = some (.ok (.int v) [some b', some (.lst o l)]) := by
    rw [mCall_is (l := [.nm 0, .v (.int l.length)]) (e' := [some b, some (.lst o l)]) (ds := [b, .int l.length]) (by simp) (by simp) (by simp [hb.top]) rfl e1 rfl]
    simp [hb.top]
  show S__law_pick [some b, some (.lst o l)] = _
  unfold S__law_pick
  have := low_mem hlow hd
  simp [hc, h3, this]

/-! ### powers -/
def pows (n : Nat) : List Int := (List.range n).map fun i => 2 ^ i
theorem pows_succ (n : Nat) : pows (n + 1) = pows n ++ [2 ^ n] := by unfold pows; rw [List.range_succ, List.map_append]; rfl
theorem atI_last' {α : Type} (l : List α) (x : α) : atI (l ++ [x]) (-1) = some x := by
  have := atI_last l x
  exact this
theorem powers_step (p : Int) (l : List D) (n : Int) (x : Option D) (e1 : atI l (-1) = some (.int p)) (e2 : fitsMul p 2 = true) (e3 : ¬ 16777216 ≤ l.length) : B__law_powers_1 [some (.int n), some (.lst true l), x] = some (.nx [some (.int n), some (.lst true (l ++ [.int (p * 2)])), x]) := by
  simp [B__law_powers_1, e1, e2, e3]
theorem powers_ok (n : Nat) (hn : n ≤ 64) : M__law_powers [.int n] = some (.ok (.lst true ((pows (n + 1)).map D.int)) [some (.int n)]) := by
  obtain ⟨e', h1, x, rfl⟩ := forL_range (i := 2) (b := B__law_powers_1) (ok := fun e => resolves e [.nm 0] = some [.int n]) (e := [some (.int n), some (.lst true ((pows 1).map D.int)), none]) (f := fun k => (k : Int)) (n := n)
    (fun i e => ∃ x, e = [some (.int n), some (.lst true ((pows (i + 1)).map D.int)), x]) ⟨none, rfl⟩ (by rintro i e _ ⟨x, rfl⟩; rfl) (by
      rintro i e hi ⟨x, rfl⟩
      have e1 : atI (List.map D.int (pows (i + 1))) (-1) = some (.int (2 ^ i)) := by
        rw [pows_succ, List.map_append]; exact atI_last' _ _
      have e2 : fitsMul (2 ^ i) 2 = true := fitsMul_r (by decide) (by decide)
      have e3 : ¬ 16777216 ≤ ((pows (i + 1)).map D.int).length := by unfold pows; simp; omega
      have e4 : (pows (i + 1 + 1)).map D.int = (pows (i + 1)).map D.int ++ [.int (2 ^ i * 2)] := by rw [pows_succ (i + 1), List.map_append, Int.pow_succ]; rfl
      rw [e4]
      exact ⟨_, powers_step _ _ _ _ e1 e2 e3, _, rfl⟩)
  refine mF_rt (e := [some (.int n), none, x]) rfl ?_
  show S__law_powers [some (.int n), none, none] = _
  unfold S__law_powers
  refine (sSeq_nx (e' := [some (.int n), some (.lst true ((pows 1).map D.int)), none]) (by simp [pows])).trans ?_
  refine (sSeq_nx (e' := [some (.int n), some (.lst true ((pows (n + 1)).map D.int)), x]) ?_).trans ?_
  · rw [sFor_ok (av := [.nm 0]) (e' := [some (.int n), some (.lst true ((pows 1).map D.int)), none]) (ds := [.int n]) (items := (List.range (n : Int).toNat).map fun i => .int (i : Nat)) rfl rfl ?_]
    · exact h1
    · have : sml (n : Int) = true := by unfold sml; simp; omega
      simp [gRng1, this]
  · simp
end W_losesone_k03_whole_letter_products

set_option Elab.async false
set_option autoImplicit false
set_option linter.all false
set_option maxRecDepth 100000
namespace W_losesone_k03_whole_letter_products
open PySem PySem.Spec PyProof.Rows L2 Ow

/-! ### a pair, by the program -/
theorem pair_step (i j s p h : Int) (n : Option D) (lot : List D) (k : Nat) (e1 : dShl [.int 1, .int k] = some (.int h)) (h0 : 0 < h) (hl : lot.length < 1000) (x a0 b0 : Option D) :
    B_letter_pair_1 [some (.int i), some (.int j), n, some (.int s), some (.int p), some (.lst true lot), some (.int k), x, a0, b0] =
      some (.nx [some (.int (if h ≤ j then j % h else i % h)), some (.int (if h ≤ j then i % h else j % h)), n, some (.int (if h ≤ i ∧ 0 < j % h then -s else s)), some (.int (if (h ≤ i ↔ h ≤ j) then p else p + h)),
        some (.lst true (if h ≤ i ∧ h ≤ j then lot ++ [.int k] else lot)), some (.int k), some (.int h), some (.bl (decide (h ≤ i))), some (.bl (decide (h ≤ j)))]) := by
  have e2 : ¬ 16777216 ≤ lot.length := by omega
  by_cases ha : h ≤ i <;> by_cases hb : h ≤ j <;> by_cases hc : 0 < j % h <;> simp [B_letter_pair_1, e1, e2, h0, ha, hb, hc]

structure PR where
  s : Int
  p : Int
  l : List Int
def pairR : Nat → Nat → Nat → PR
  | 0, _, _ => ⟨1, 0, []⟩
  | f + 1, i, j =>
    let r := if 2 ^ f ≤ j then pairR f (j % 2 ^ f) (i % 2 ^ f) else pairR f (i % 2 ^ f) (j % 2 ^ f)
    ⟨(if 2 ^ f ≤ i ∧ 0 < j % 2 ^ f then -1 else 1) * r.s, (if (2 ^ f ≤ i ↔ 2 ^ f ≤ j) then 0 else 2 ^ f) + r.p, (if 2 ^ f ≤ i ∧ 2 ^ f ≤ j then [(f : Int)] else []) ++ r.l⟩
def descL : Nat → List D
  | 0 => []
  | n + 1 => .int (n : Nat) :: descL n
theorem rgD_rev : ∀ n : Nat, (rgD 0 n).reverse = descL n
  | 0 => rfl
  | n + 1 => by
    have e : rgD 0 ((n + 1 : Nat) : Int) = rgD 0 n ++ [.int (n : Nat)] := by
      unfold rgD
      have h1 : (((n + 1 : Nat) : Int) - 0).toNat = n + 1 := by omega
      have h2 : ((n : Int) - 0).toNat = n := by omega
      rw [h1, h2, List.range_succ, List.map_append]
      simp
    rw [e, List.reverse_append, rgD_rev n]
    rfl
theorem shl_one (k : Nat) (hk : k ≤ 1000) : dShl [.int 1, .int k] = some (.int ((2 ^ k : Nat) : Int)) := by
  show (if (0 : Int) ≤ (k : Int) ∧ (k : Int) ≤ 1000000 ∧ -big < 1 ∧ (1 : Int) < big then some (D.int (1 * 2 ^ (k : Int).toNat)) else none) = _
  rw [if_pos ⟨by omega, by omega, by decide, by decide⟩]
  simp
theorem pairR_len : ∀ (n i j : Nat), (pairR n i j).l.length ≤ n
  | 0, _, _ => Nat.le_refl _
  | f + 1, i, j => by
    unfold pairR
    have h1 := pairR_len f (j % 2 ^ f) (i % 2 ^ f)
    have h2 := pairR_len f (i % 2 ^ f) (j % 2 ^ f)
    simp only [List.length_append]
    split <;> split <;> simp <;> omega
theorem pair_loop {n : Option D} {ok : Sl → Prop} (hok : ∀ e, ok e) : ∀ (k i j : Nat) (s p : Int) (lot : List Int) (x h a b : Option D), k ≤ 100 → lot.length + k ≤ 200 →
    ∃ x' y' h' a' b' z', forL (.nm 6) B_letter_pair_1 ok (descL k) [some (.int i), some (.int j), n, some (.int s), some (.int p), some (.lst true (lot.map D.int)), x, h, a, b] =
      some (.nx [x', y', n, some (.int (s * (pairR k i j).s)), some (.int (p + (pairR k i j).p)), some (.lst true ((lot ++ (pairR k i j).l).map D.int)), z', h', a', b'])
  | 0, i, j, s, p, lot, x, h, a, b, _, _ => by
    refine ⟨some (.int i), some (.int j), h, a, b, x, (forL_nil (hok _)).trans ?_⟩
    have e1 : s * (pairR 0 i j).s = s := Int.mul_one s
    have e2 : p + (pairR 0 i j).p = p := Int.add_zero p
    have e3 : lot ++ (pairR 0 i j).l = lot := List.append_nil lot
    rw [e1, e2, e3]
  | f + 1, i, j, s, p, lot, x, h, a, b, hk, hl => by
    have st := pair_step (i : Int) (j : Int) s p ((2 ^ f : Nat) : Int) n (lot.map D.int) f (shl_one f (by omega)) (by have := Nat.two_pow_pos f; omega) (by simp; omega) h a b
    have e1 := forL_nx (t := .nm 6) (d := .int (f : Nat)) (ok := ok) (l := descL f) (e := [some (.int i), some (.int j), n, some (.int s), some (.int p), some (.lst true (lot.map D.int)), x, h, a, b]) (hok _) rfl st
    have c1 : (((2 ^ f : Nat) : Int) ≤ (i : Int)) ↔ 2 ^ f ≤ i := Int.ofNat_le
    have c2 : (((2 ^ f : Nat) : Int) ≤ (j : Int)) ↔ 2 ^ f ≤ j := Int.ofNat_le
    have c3 : (j : Int) % ((2 ^ f : Nat) : Int) = ((j % 2 ^ f : Nat) : Int) := rfl
    have c4 : (i : Int) % ((2 ^ f : Nat) : Int) = ((i % 2 ^ f : Nat) : Int) := rfl
    have c5 : (0 < ((j % 2 ^ f : Nat) : Int)) ↔ 0 < j % 2 ^ f := Int.ofNat_lt
    simp only [c1, c2, c3, c4, c5] at e1
    show ∃ x' y' h' a' b' z', forL (.nm 6) B_letter_pair_1 ok (.int (f : Nat) :: descL f) _ = _
    rw [e1]
    have em : (if 2 ^ f ≤ i ∧ 2 ^ f ≤ j then lot.map D.int ++ [.int (f : Nat)] else lot.map D.int) = ((lot ++ if 2 ^ f ≤ i ∧ 2 ^ f ≤ j then [(f : Int)] else []).map D.int) := by split <;> simp
    rw [em]
    have hl2 : (lot ++ if 2 ^ f ≤ i ∧ 2 ^ f ≤ j then [(f : Int)] else []).length + f ≤ 200 := by rw [List.length_append]; split <;> simp <;> omega
    by_cases hj : 2 ^ f ≤ j
    · rw [if_pos hj, if_pos hj]
      obtain ⟨x', y', h', a', b', z', e2⟩ := pair_loop (n := n) hok f (j % 2 ^ f) (i % 2 ^ f) (if 2 ^ f ≤ i ∧ 0 < j % 2 ^ f then -s else s) (if (2 ^ f ≤ i ↔ 2 ^ f ≤ j) then p else p + ((2 ^ f : Nat) : Int)) _ (some (.int f)) (some (.int ((2 ^ f : Nat) : Int))) (some (.bl (decide (2 ^ f ≤ i)))) (some (.bl (decide (2 ^ f ≤ j)))) (by omega) hl2
      refine ⟨x', y', h', a', b', z', e2.trans ?_⟩
      have r1 : (if 2 ^ f ≤ i ∧ 0 < j % 2 ^ f then -s else s) * (pairR f (j % 2 ^ f) (i % 2 ^ f)).s = s * (pairR (f + 1) i j).s := by
        conv => rhs; unfold pairR
        rw [if_pos hj]
        split <;> simp [Int.neg_mul, Int.mul_neg]
      have r2 : (if (2 ^ f ≤ i ↔ 2 ^ f ≤ j) then p else p + ((2 ^ f : Nat) : Int)) + (pairR f (j % 2 ^ f) (i % 2 ^ f)).p = p + (pairR (f + 1) i j).p := by
        conv => rhs; unfold pairR
        rw [if_pos hj]
        split <;> simp <;> omega
      have r3 : (lot ++ if 2 ^ f ≤ i ∧ 2 ^ f ≤ j then [(f : Int)] else []) ++ (pairR f (j % 2 ^ f) (i % 2 ^ f)).l = lot ++ (pairR (f + 1) i j).l := by
        conv => rhs; unfold pairR
        rw [if_pos hj, List.append_assoc]
      rw [r1, r2, r3]
    · rw [if_neg hj, if_neg hj]
      obtain ⟨x', y', h', a', b', z', e2⟩ := pair_loop (n := n) hok f (i % 2 ^ f) (j % 2 ^ f) (if 2 ^ f ≤ i ∧ 0 < j % 2 ^ f then -s else s) (if (2 ^ f ≤ i ↔ 2 ^ f ≤ j) then p else p + ((2 ^ f : Nat) : Int)) _ (some (.int f)) (some (.int ((2 ^ f : Nat) : Int))) (some (.bl (decide (2 ^ f ≤ i)))) (some (.bl (decide (2 ^ f ≤ j)))) (by omega) hl2
      refine ⟨x', y', h', a', b', z', e2.trans ?_⟩
      have r1 : (if 2 ^ f ≤ i ∧ 0 < j % 2 ^ f then -s else s) * (pairR f (i % 2 ^ f) (j % 2 ^ f)).s = s * (pairR (f + 1) i j).s := by
        conv => rhs; unfold pairR
        rw [if_neg hj]
        split <;> simp [Int.neg_mul, Int.mul_neg]
      have r2 : (if (2 ^ f ≤ i ↔ 2 ^ f ≤ j) then p else p + ((2 ^ f : Nat) : Int)) + (pairR f (i % 2 ^ f) (j % 2 ^ f)).p = p + (pairR (f + 1) i j).p := by
        conv => rhs; unfold pairR
        rw [if_neg hj]
        split <;> simp <;> omega
      have r3 : (lot ++ if 2 ^ f ≤ i ∧ 2 ^ f ≤ j then [(f : Int)] else []) ++ (pairR f (i % 2 ^ f) (j % 2 ^ f)).l = lot ++ (pairR (f + 1) i j).l := by
        conv => rhs; unfold pairR
        rw [if_neg hj, List.append_assoc]
      rw [r1, r2, r3]
theorem low_rg (n : Nat) : low (rgD 0 n) = true := by
  unfold rgD
  have := low_ints ((List.range ((n : Int) - 0).toNat).map fun i => (0 : Int) + (i : Nat))
  simpa [List.map_map, Function.comp_def] using this
theorem frz_low : ∀ {l : List D}, (∀ d ∈ l, ∃ i, d = .int i) → freezes l = l
  | [], _ => ev_frz0
  | d :: l, h => by
    obtain ⟨i, rfl⟩ := h d List.mem_cons_self
    rw [ev_frz, ev_freeze1, frz_low fun d hd => h d (List.mem_cons_of_mem _ hd)]
theorem frz_rg (n : Nat) : freezes (rgD 0 n) = rgD 0 n := frz_low fun d hd => by
  obtain ⟨i, _, rfl⟩ := List.mem_map.mp hd
  exact ⟨_, rfl⟩
/-- the program's pair -/
def pairD (n i j : Nat) : D := .tup [.int (pairR n i j).s, .int (pairR n i j).p, .tup ((pairR n i j).l.reverse.map D.int)]
theorem rgOk_nat (n : Nat) (hn : n ≤ 1000) : rgOk 0 n = true := by unfold rgOk sml; simp; omega
theorem lr1 (n : Int) (h : rgOk 0 n = true) : dLstRg1 [.int n] = some (.lst true (rgD 0 n)) := (if_pos h : (if rgOk 0 n then some (D.lst true (rgD 0 n)) else none) = _)
theorem pair_ret (s p : Int) (l : List Int) (x y z n a b c: Option D): sRt (mB dTupl [.vl (mNm 3), .vl (mNm 4), .vl (mB dTupRev [.nm 5])]) [x, y, n, some (.int s), some (.int p), some (.lst true (l.map D.int)), z, a, b, c] = some (.rt (.tup [.int s, .int p, .tup (l.reverse.map D.int)]) [x, y, n, some (.int s), some (.int p), some (.lst true (l.map D.int)), z, a, b, c]) := by
  simp [dTupRev, lstD, low_ints]
theorem pair_ok (n i j : Nat) (hn : n ≤ 100) : M_letter_pair [.int i, .int j, .int n] = some (.ok (pairD n i j) [none, none, some (.int n)]) := by
  obtain ⟨x', y', h', a', b', z', e1⟩ := pair_loop (n := some (.int n)) (ok := fun e => resolves e [.v (.lst false (rgD 0 n))] = some [.lst false (rgD 0 n)]) (fun _ => rfl) n i j 1 0 [] none none none none hn (by simp; omega)
  have m1 : 1 * (pairR n i j).s = (pairR n i j).s := Int.one_mul _
  have m2 : 0 + (pairR n i j).p = (pairR n i j).p := Int.zero_add _
  rw [m1, m2, List.nil_append] at e1
  refine mF_rt (e := [x', y', some (.int n), some (.int (pairR n i j).s), some (.int (pairR n i j).p), some (.lst true ((pairR n i j).l.map D.int)), z', h', a', b']) rfl ?_
  show S_letter_pair [some (.int i), some (.int j), some (.int n), none, none, none, none, none, none, none] = _
  unfold S_letter_pair
  refine (sSeq_nx (e' := [some (.int i), some (.int j), some (.int n), some (.int 1), some (.int 0), some (.lst true []), none, none, none, none]) (by simp)).trans ?_
  refine (sSeq_nx ((sFor_ok (av := [.v (.lst false (rgD 0 n))]) (e' := [some (.int i), some (.int j), some (.int n), some (.int 1), some (.int 0), some (.lst true []), none, none, none, none]) (ds := [.lst false (rgD 0 n)]) (items := descL n) ?_ rfl ?_).trans e1)).trans ?_
  · exact evA_B (l := [.nm 2]) (evA_nm rfl evA0) rfl (lr1 n (rgOk_nat n (by omega))) (by rw [ev_set7, frz_rg]) evA0
  · show (if low _ then _ else _) = _
    rw [low_rg, rgD_rev]; rfl
  · exact pair_ret _ _ _ _ _ _ _ _ _ _
end W_losesone_k03_whole_letter_products

set_option Elab.async false
set_option autoImplicit false
set_option linter.all false
set_option maxRecDepth 100000
namespace W_losesone_k03_whole_letter_products
open PySem PySem.Spec PyProof.Rows L2 Ow

/-! ### bits -/
def ofB : Nat → (Nat → Bool) → Int
  | 0, _ => 0
  | f + 1, P => (if P f then ((2 ^ f : Nat) : Int) else 0) + ofB f P
def lotB : Nat → (Nat → Bool) → List Int
  | 0, _ => []
  | f + 1, P => (if P f then [(f : Int)] else []) ++ lotB f P
theorem ofB_congr {P Q : Nat → Bool} : ∀ {n : Nat}, (∀ f, f < n → P f = Q f) → ofB n P = ofB n Q
  | 0, _ => rfl
  | n + 1, h => by unfold ofB; rw [h n (by omega), ofB_congr fun f hf => h f (by omega)]
theorem lotB_congr {P Q : Nat → Bool} : ∀ {n : Nat}, (∀ f, f < n → P f = Q f) → lotB n P = lotB n Q
  | 0, _ => rfl
  | n + 1, h => by unfold lotB; rw [h n (by omega), lotB_congr fun f hf => h f (by omega)]
theorem bit_top {i f : Nat} (h : i < 2 ^ (f + 1)) : i.testBit f = decide (2 ^ f ≤ i) := by
  rw [Nat.testBit_eq_decide_div_mod_eq]
  have hp := Nat.two_pow_pos f
  rw [Nat.pow_succ] at h
  have h1 : i / 2 ^ f < 2 := (Nat.div_lt_iff_lt_mul hp).mpr (by omega)
  have h2 : 1 ≤ i / 2 ^ f ↔ 2 ^ f ≤ i := by rw [Nat.le_div_iff_mul_le hp]; omega
  generalize i / 2 ^ f = x at h1 h2 ⊢
  by_cases c : 2 ^ f ≤ i
  · have := h2.mpr c
    have : x = 1 := by omega
    subst this
    rw [decide_eq_true c]; rfl
  · have : x = 0 := by
      have : ¬ 1 ≤ x := fun z => c (h2.mp z)
      omega
    subst this
    rw [decide_eq_false c]; rfl
theorem bit_mod {i f k : Nat} (h : k < f) : (i % 2 ^ f).testBit k = i.testBit k := by
  rw [Nat.testBit_mod_two_pow]; simp [h]
theorem ofB_nat : ∀ {n x : Nat}, x < 2 ^ n → ofB n x.testBit = x
  | 0, x, h => by have : x = 0 := by simpa using h
                  subst this; rfl
  | n + 1, x, h => by
    unfold ofB
    rw [bit_top h]
    have hp := Nat.two_pow_pos n
    have ih := ofB_nat (n := n) (x := x % 2 ^ n) (Nat.mod_lt _ hp)
    rw [ofB_congr fun f hf => bit_mod hf] at ih
    rw [ih]
    by_cases c : 2 ^ n ≤ x
    · simp only [c, decide_true, if_true]
      rw [Nat.pow_succ] at h
      have : x % 2 ^ n = x - 2 ^ n := by
        rw [Nat.mod_eq_sub_mod c, Nat.mod_eq_of_lt (by omega)]
      omega
    · simp only [c, decide_false]
      rw [Nat.mod_eq_of_lt (by omega)]
      simp
theorem pairR_p : ∀ {n i j : Nat}, i < 2 ^ n → j < 2 ^ n → (pairR n i j).p = ofB n fun f => i.testBit f != j.testBit f
  | 0, _, _, _, _ => rfl
  | n + 1, i, j, hi, hj => by
    have hp := Nat.two_pow_pos n
    have h1 := pairR_p (Nat.mod_lt i hp) (Nat.mod_lt j hp)
    have h2 := pairR_p (Nat.mod_lt j hp) (Nat.mod_lt i hp)
    rw [ofB_congr fun f hf => by rw [bit_mod hf, bit_mod hf]] at h1 h2
    have h2 : (pairR n (j % 2 ^ n) (i % 2 ^ n)).p = ofB n fun f => i.testBit f != j.testBit f := by
      rw [h2]
      exact ofB_congr fun f _ => by cases i.testBit f <;> cases j.testBit f <;> rfl
    unfold pairR ofB
    have e : (if 2 ^ n ≤ j then pairR n (j % 2 ^ n) (i % 2 ^ n) else pairR n (i % 2 ^ n) (j % 2 ^ n)).p = ofB n fun f => i.testBit f != j.testBit f := by
      split
      · exact h2
      · exact h1
    simp only [e, bit_top hi, bit_top hj]
    by_cases a : 2 ^ n ≤ i <;> by_cases b : 2 ^ n ≤ j <;> simp [a, b]
theorem pairR_l : ∀ {n i j : Nat}, i < 2 ^ n → j < 2 ^ n → (pairR n i j).l = lotB n fun f => i.testBit f && j.testBit f
  | 0, _, _, _, _ => rfl
  | n + 1, i, j, hi, hj => by
    have hp := Nat.two_pow_pos n
    have h1 := pairR_l (Nat.mod_lt i hp) (Nat.mod_lt j hp)
    have h2 := pairR_l (Nat.mod_lt j hp) (Nat.mod_lt i hp)
    rw [lotB_congr fun f hf => by rw [bit_mod hf, bit_mod hf]] at h1 h2
    have h2 : (pairR n (j % 2 ^ n) (i % 2 ^ n)).l = lotB n fun f => i.testBit f && j.testBit f := by
      rw [h2]
      exact lotB_congr fun f _ => by cases i.testBit f <;> cases j.testBit f <;> rfl
    unfold pairR lotB
    have e : (if 2 ^ n ≤ j then pairR n (j % 2 ^ n) (i % 2 ^ n) else pairR n (i % 2 ^ n) (j % 2 ^ n)).l = lotB n fun f => i.testBit f && j.testBit f := by
      split
      · exact h2
      · exact h1
    simp only [e, bit_top hi, bit_top hj]
    by_cases a : 2 ^ n ≤ i <;> by_cases b : 2 ^ n ≤ j <;> simp [a, b]
/-! the sign, as the law finds it -/
def ownS : Nat → Nat → Nat → Int
  | 0, _, _ => 1
  | f + 1, i, j => if i = 0 ∨ j = 0 then 1 else if 2 ^ f ≤ j then (if 2 ^ f ≤ i then (if j - 2 ^ f = 0 then 1 else -1) * ownS f (j - 2 ^ f) (i - 2 ^ f) else ownS f (j - 2 ^ f) i) else if 2 ^ f ≤ i then - ownS f (i - 2 ^ f) j else ownS f i j
theorem pairR_zero : ∀ n i : Nat, (pairR n 0 i).s = 1 ∧ (pairR n i 0).s = 1
  | 0, _ => ⟨rfl, rfl⟩
  | n + 1, i => by
    have h0 : (pairR n 0 (i % 2 ^ n)).s = 1 := (pairR_zero n _).1
    have h1 : (pairR n (i % 2 ^ n) 0).s = 1 := (pairR_zero n _).2
    have hp := Nat.two_pow_pos n
    have hz : ¬ 2 ^ n ≤ 0 := by omega
    constructor
    · unfold pairR
      simp only [Nat.zero_mod, hz, false_and, if_false, Int.one_mul]
      split <;> assumption
    · unfold pairR
      simp only [Nat.zero_mod, hz, if_false, Nat.lt_irrefl, and_false, Int.one_mul]
      exact h1
theorem pairR_s : ∀ {n i j : Nat}, i < 2 ^ n → j < 2 ^ n → (pairR n i j).s = ownS n i j
  | 0, _, _, _, _ => rfl
  | n + 1, i, j, hi, hj => by
    have hp := Nat.two_pow_pos n
    by_cases z : i = 0 ∨ j = 0
    · have : ownS (n + 1) i j = 1 := by unfold ownS; rw [if_pos z]
      rw [this]
      rcases z with rfl | rfl
      · exact (pairR_zero _ _).1
      · exact (pairR_zero _ _).2
    · have z1 : ¬ i = 0 := fun h => z (.inl h)
      have z2 : ¬ j = 0 := fun h => z (.inr h)
      unfold ownS
      rw [if_neg z]
      rw [Nat.pow_succ] at hi hj
      have mi : 2 ^ n ≤ i → i % 2 ^ n = i - 2 ^ n := fun h => by rw [Nat.mod_eq_sub_mod h, Nat.mod_eq_of_lt (by omega)]
      have mj : 2 ^ n ≤ j → j % 2 ^ n = j - 2 ^ n := fun h => by rw [Nat.mod_eq_sub_mod h, Nat.mod_eq_of_lt (by omega)]
      have ni : ¬ 2 ^ n ≤ i → i % 2 ^ n = i := fun h => Nat.mod_eq_of_lt (by omega)
      have nj : ¬ 2 ^ n ≤ j → j % 2 ^ n = j := fun h => Nat.mod_eq_of_lt (by omega)
      have ih1 := pairR_s (Nat.mod_lt i hp) (Nat.mod_lt j hp)
      have ih2 := pairR_s (Nat.mod_lt j hp) (Nat.mod_lt i hp)
      unfold pairR
      by_cases b : 2 ^ n ≤ j
      · rw [if_pos b, if_pos b]
        simp only [ih2]
        rw [mj b]
        by_cases a : 2 ^ n ≤ i
        · rw [if_pos a, mi a]
          by_cases c : j - 2 ^ n = 0
          · simp [c]
          · have : 0 < j - 2 ^ n := by omega
            simp only [a, this, and_self, if_true, c, if_false]
        · rw [if_neg a, ni a]
          simp [a]
      · rw [if_neg b, if_neg b]
        simp only [ih1]
        rw [nj b]
        by_cases a : 2 ^ n ≤ i
        · rw [if_pos a, mi a]
          have : 0 < j := by omega
          simp [a, this]
        · rw [if_neg a, ni a]
          simp [a]
end W_losesone_k03_whole_letter_products

set_option Elab.async false
set_option autoImplicit false
set_option linter.all false
set_option maxRecDepth 100000
namespace W_losesone_k03_whole_letter_products
open PySem PySem.Spec PyProof.Rows L2 Ow

/-! ### the law's own sign -/
theorem sign_rt (i j s : Int) (dn h : D) (z : i = 0 ∨ j = 0) : B__law_own_sign_1 [some (.int i), some (.int j), some dn, some (.int s), some h] = some (.rt (.int s) [some (.int i), some (.int j), some dn, some (.int s), some h]) := by
  rcases z with rfl | rfl
  · simp [B__law_own_sign_1]
  · by_cases c : i = 0
    · simp [B__law_own_sign_1, c]
    · simp [B__law_own_sign_1, c]
theorem sign_step (i j s h : Int) (dn : D) (z1 : ¬ i = 0) (z2 : ¬ j = 0) : B__law_own_sign_1 [some (.int i), some (.int j), some dn, some (.int s), some (.int h)] =
    some (.nx (if h ≤ j then (if h ≤ i then [some (.int (j - h)), some (.int (i - h)), some dn, some (.int (if j - h = 0 then s else -s)), some (.int h)] else [some (.int (j - h)), some (.int i), some dn, some (.int s), some (.int h)])
      else if h ≤ i then [some (.int (i - h)), some (.int j), some dn, some (.int (-s)), some (.int h)] else [some (.int i), some (.int j), some dn, some (.int s), some (.int h)])) := by
  by_cases b : h ≤ j <;> by_cases a : h ≤ i
  · by_cases c : j - h = 0 <;> simp [B__law_own_sign_1, z1, z2, a, b, c]
  · simp [B__law_own_sign_1, z1, z2, a, b]
  · simp [B__law_own_sign_1, z1, z2, a, b]
  · simp [B__law_own_sign_1, z1, z2, a, b]
def dpows : Nat → List D
  | 0 => []
  | n + 1 => .int ((2 ^ n : Nat) : Int) :: dpows n
theorem pows_rev : ∀ n : Nat, ((pows n).map D.int).reverse = dpows n
  | 0 => rfl
  | n + 1 => by
    rw [pows_succ, List.map_append, List.reverse_append, pows_rev n]
    show D.int (2 ^ n) :: dpows n = .int ((2 ^ n : Nat) : Int) :: dpows n
    have : ((2 ^ n : Nat) : Int) = 2 ^ n := by simp
    rw [this]
def signEnd (dn : D) (v : Int) (r : Option SR) : Prop := ∃ x y z, r = some (.nx [x, y, some dn, some (.int v), z]) ∨ r = some (.rt (.int v) [x, y, some dn, some (.int v), z])
theorem sign_loop {dn : D} {ok : Sl → Prop} (hok : ∀ x y s z, ok [x, y, some dn, s, z]) : ∀ (n i j : Nat) (s : Int) (z : Option D), signEnd dn (s * ownS n i j) (forL (.nm 4) B__law_own_sign_1 ok (dpows n) [some (.int i), some (.int j), some dn, some (.int s), z])
  | 0, i, j, s, z => by
    have e : s * ownS 0 i j = s := Int.mul_one s
    rw [e]
    exact ⟨_, _, _, .inl (forL_nil (hok _ _ _ _))⟩
  | n + 1, i, j, s, z => by
    by_cases c : i = 0 ∨ j = 0
    · have e : ownS (n + 1) i j = 1 := by unfold ownS; rw [if_pos c]
      have c' : (i : Int) = 0 ∨ (j : Int) = 0 := by omega
      rw [e, Int.mul_one]
      exact ⟨_, _, _, .inr (forL_rt (hok _ _ _ _) rfl (sign_rt _ _ _ _ _ c'))⟩
    · have z1 : ¬ (i : Int) = 0 := fun h => c (.inl (by omega))
      have z2 : ¬ (j : Int) = 0 := fun h => c (.inr (by omega))
      have e1 := forL_nx (t := .nm 4) (ok := ok) (l := dpows n) (e := [some (.int i), some (.int j), some dn, some (.int s), z]) (hok _ _ _ _) rfl (sign_step i j s ((2 ^ n : Nat) : Int) dn z1 z2)
      show signEnd dn _ (forL (.nm 4) B__law_own_sign_1 ok (.int ((2 ^ n : Nat) : Int) :: dpows n) _)
      rw [e1]
      have c1 : (((2 ^ n : Nat) : Int) ≤ (i : Int)) ↔ 2 ^ n ≤ i := Int.ofNat_le
      have c2 : (((2 ^ n : Nat) : Int) ≤ (j : Int)) ↔ 2 ^ n ≤ j := Int.ofNat_le
      unfold ownS
      rw [if_neg c]
      by_cases b : 2 ^ n ≤ j
      · have sj : (j : Int) - ((2 ^ n : Nat) : Int) = ((j - 2 ^ n : Nat) : Int) := by omega
        rw [if_pos (c2.mpr b), if_pos b]
        by_cases a : 2 ^ n ≤ i
        · have si : (i : Int) - ((2 ^ n : Nat) : Int) = ((i - 2 ^ n : Nat) : Int) := by omega
          rw [if_pos (c1.mpr a), if_pos a, sj, si]
          have := sign_loop hok n (j - 2 ^ n) (i - 2 ^ n) (if ((j - 2 ^ n : Nat) : Int) = 0 then s else -s) (some (.int ((2 ^ n : Nat) : Int)))
          have e3 : (if ((j - 2 ^ n : Nat) : Int) = 0 then s else -s) * ownS n (j - 2 ^ n) (i - 2 ^ n) = s * ((if j - 2 ^ n = 0 then 1 else -1) * ownS n (j - 2 ^ n) (i - 2 ^ n)) := by
            by_cases q : j - 2 ^ n = 0
            · rw [if_pos q, if_pos (by omega)]; simp
            · rw [if_neg q, if_neg (by omega)]; simp [Int.neg_mul, Int.mul_neg]
          rw [← e3]
          exact this
        · rw [if_neg (fun h => a (c1.mp h)), if_neg a, sj]
          exact sign_loop hok n (j - 2 ^ n) i s _
      · rw [if_neg (fun h => b (c2.mp h)), if_neg b]
        by_cases a : 2 ^ n ≤ i
        · have si : (i : Int) - ((2 ^ n : Nat) : Int) = ((i - 2 ^ n : Nat) : Int) := by omega
          rw [if_pos (c1.mpr a), if_pos a, si]
          have := sign_loop hok n (i - 2 ^ n) j (-s) (some (.int ((2 ^ n : Nat) : Int)))
          have e3 : -s * ownS n (i - 2 ^ n) j = s * -ownS n (i - 2 ^ n) j := by simp [Int.neg_mul, Int.mul_neg]
          rw [← e3]
          exact this
        · rw [if_neg (fun h => a (c1.mp h)), if_neg a]
          exact sign_loop hok n i j s _
theorem low_dpows : ∀ n : Nat, low (dpows n) = true
  | 0 => rfl
  | n + 1 => by unfold dpows; rw [ev_low, low_dpows n]; rfl
theorem sign_ok (n i j : Nat) : M__law_own_sign [.int i, .int j, .lst true (dpows n)] = some (.ok (.int (ownS n i j)) [none, none, some (.lst true (dpows n))]) := by
  obtain ⟨x, y, z, h⟩ := sign_loop (dn := .lst true (dpows n)) (ok := fun e => resolves e [.nm 2] = some [.lst true (dpows n)]) (fun _ _ _ _ => rfl) n i j 1 none
  rw [Int.one_mul] at h
  have hf : sFor (.nm 4) [.nm 2] gSeq B__law_own_sign_1 [some (.int i), some (.int j), some (.lst true (dpows n)), some (.int 1), none] = forL (.nm 4) B__law_own_sign_1 (fun e => resolves e [.nm 2] = some [.lst true (dpows n)]) (dpows n) [some (.int i), some (.int j), some (.lst true (dpows n)), some (.int 1), none] :=
    sFor_ok (av := [.nm 2]) rfl rfl (by show (if low _ then _ else _) = _; rw [low_dpows]; rfl)
  refine mF_rt (e := [x, y, some (.lst true (dpows n)), some (.int (ownS n i j)), z]) rfl ?_
  show S__law_own_sign [some (.int i), some (.int j), some (.lst true (dpows n)), none, none] = _
  unfold S__law_own_sign
  refine (sSeq_nx (e' := [some (.int i), some (.int j), some (.lst true (dpows n)), some (.int 1), none]) rfl).trans ?_
  rcases h with h | h
  · exact (sSeq_nx (hf.trans h)).trans rfl
  · exact sSeq_rt (hf.trans h)
end W_losesone_k03_whole_letter_products

set_option Elab.async false
set_option autoImplicit false
set_option linter.all false
set_option maxRecDepth 100000
namespace W_losesone_k03_whole_letter_products
open PySem PySem.Spec PyProof.Rows L2 Ow

/-! ### counts -/
def natsD (ls : List Nat) : List D := ls.map fun (n : Nat) => .int (n : Int)
theorem natsD_eq (ls : List Nat) : natsD ls = (ls.map fun n : Nat => (n : Int)).map D.int := by unfold natsD; rw [List.map_map]; rfl
theorem low_nats (ls : List Nat) : low (natsD ls) = true := by rw [natsD_eq]; exact low_ints _
theorem and_bit (l f : Nat) : decide (0 < Builtin.bitAnd (l : Int) ((2 ^ f : Nat) : Int)) = l.testBit f := by
  rw [PySem.W.os_band]
  have h : l &&& 2 ^ f = if l.testBit f then 2 ^ f else 0 := by
    refine Nat.eq_of_testBit_eq fun k => ?_
    rw [Nat.testBit_and, Nat.testBit_two_pow]
    by_cases c : f = k
    · subst c
      cases l.testBit f <;> simp
    · cases q : l.testBit f <;> simp [c]
  rw [h]
  cases l.testBit f with
  | true => have := Nat.two_pow_pos f; simp only [if_true]; exact decide_eq_true (by omega)
  | false => simp
def cnt (ls : List Nat) (f : Nat) : Int := ((ls.countP (·.testBit f) : Nat) : Int)
theorem sum_ones {α : Type} : ∀ l : List α, (l.map fun _ => (1 : Int)).sum = l.length
  | [] => rfl
  | x :: l => by rw [List.map_cons, List.sum_cons, sum_ones l, List.length_cons]; omega
theorem dSum_ints (o : Bool) (l : List Int) : dSum [.lst o (l.map D.int)] = some (.int l.sum) := by
  show (Option.bind (some (l.map D.int)) fun l => (intsD l).bind fun ns => some (D.int ns.sum)) = _
  simp [intsD_map]
theorem counts_step (ls : List Nat) (L F : List D) (f : Nat) (z : Option D) (hl : ls.length ≤ 1000) (hF : ¬ 16777216 ≤ F.length) : ∃ z', B__law_own_counts_1 [some (.lst false (natsD ls)), some (.lst true L), some (.lst true F), some (.int ((2 ^ f : Nat) : Int)), z] =
    some (.nx [some (.lst false (natsD ls)), some (.lst true L), some (.lst true (F ++ [.int (cnt ls f)])), some (.int ((2 ^ f : Nat) : Int)), z']) := by
  refine ⟨none, ?_⟩
  have hlc : mLc (.nm 4) [.nm 0] gSeq [4] (mB dGt [.vl (mB dAnd [.nm 4, .nm 3]), .vl (mC (.int 0))]) (mC (.int 1)) [some (.lst false (natsD ls)), some (.lst true L), some (.lst true F), some (.int ((2 ^ f : Nat) : Int)), z] =
      some (.ok (.lst true (((ls.filter (·.testBit f)).map fun _ => (1 : Int)).map D.int)) [some (.lst false (natsD ls)), some (.lst true L), some (.lst true F), some (.int ((2 ^ f : Nat) : Int)), none]) := by
    refine mLc_ok (av := [.nm 0]) (e' := [some (.lst false (natsD ls)), some (.lst true L), some (.lst true F), some (.int ((2 ^ f : Nat) : Int)), z]) (ds := [.lst false (natsD ls)]) (items := natsD ls) rfl rfl (by show (if low _ then _ else _) = _; rw [low_nats]; rfl) (by unfold natsD; simp; omega) ?_
    have hp := lcL_pure (t := .nm 4) (c := mB dGt [.vl (mB dAnd [.nm 4, .nm 3]), .vl (mC (.int 0))]) (y := mC (.int 1)) (vs := [4]) (ok := fun e => resolves e [.nm 0] = some [.lst false (natsD ls)]) (e := [some (.lst false (natsD ls)), some (.lst true L), some (.lst true F), some (.int ((2 ^ f : Nat) : Int)), none])
      (fun d => match d with | .int n => decide (0 < Builtin.bitAnd n ((2 ^ f : Nat) : Int)) | _ => false) (fun _ => .int 1) rfl (l := natsD ls) fun d hd => by
        obtain ⟨n, _, rfl⟩ := List.mem_map.mp hd
        exact ⟨_, [some (.lst false (natsD ls)), some (.lst true L), some (.lst true F), some (.int ((2 ^ f : Nat) : Int)), some (.int n)], rfl, rfl, fun _ => rfl, fun _ => ⟨_, rfl, rfl⟩⟩
    refine hp.trans ?_
    have e1 : (natsD ls).filter (fun d => match d with | .int n => decide (0 < Builtin.bitAnd n ((2 ^ f : Nat) : Int)) | _ => false) = natsD (ls.filter (·.testBit f)) := by
      unfold natsD
      rw [List.filter_map]
      congr 1
      refine List.filter_congr fun n _ => ?_
      exact and_bit n f
    rw [e1]
    unfold natsD
    rw [List.map_map, List.map_map]
    rfl
  have hs : dSum [.lst false (((ls.filter (·.testBit f)).map fun _ => (1 : Int)).map D.int)] = some (.int (cnt ls f)) := by
    rw [dSum_ints, sum_ones]
    unfold cnt
    rw [List.countP_eq_length_filter]
  have hs2 : settle (.lst true (((ls.filter (·.testBit f)).map fun _ => (1 : Int)).map D.int)) = .lst false (((ls.filter (·.testBit f)).map fun _ => (1 : Int)).map D.int) := by
    rw [ev_set7, ev_frzi]
  have ha : evA [.vl (mLc (.nm 4) [.nm 0] gSeq [4] (mB dGt [.vl (mB dAnd [.nm 4, .nm 3]), .vl (mC (.int 0))]) (mC (.int 1)))] [some (.lst false (natsD ls)), some (.lst true L), some (.lst true F), some (.int ((2 ^ f : Nat) : Int)), z] =
      some (.ok [.v (.lst false (((ls.filter (·.testBit f)).map fun _ => (1 : Int)).map D.int))] [some (.lst false (natsD ls)), some (.lst true L), some (.lst true F), some (.int ((2 ^ f : Nat) : Int)), none]) := by
    rw [← hs2]
    exact evA_vl hlc evA0
  have hm := mB_ok (g := dSum) ha rfl hs
  unfold B__law_own_counts_1
  refine sDo_ok (d := .non) ?_
  have ha2 := evA_vl (us := []) (l := []) hm evA0
  exact mMut_ok rfl ha2 rfl rfl (append_ok rfl (by omega))
def cnts (ls : List Nat) (n : Nat) : List D := (List.range n).map fun f => .int (cnt ls f)
theorem pows_nat (n : Nat) : (pows n).map D.int = (List.range n).map fun f => .int ((2 ^ f : Nat) : Int) := by
  unfold pows
  rw [List.map_map]
  refine List.map_congr_left fun f _ => ?_
  show D.int (2 ^ f) = _
  have : ((2 ^ f : Nat) : Int) = 2 ^ f := by simp
  rw [this]
theorem counts_ok (ls : List Nat) (n : Nat) (hl : ls.length ≤ 1000) (hn : n ≤ 1000) : M__law_own_counts [.lst false (natsD ls), .lst true ((pows n).map D.int)] = some (.ok (.lst true (cnts ls n)) [some (.lst false (natsD ls)), some (.lst true ((pows n).map D.int))]) := by
  generalize hp : (pows n).map D.int = L
  have hL : L = (List.range n).map fun f => .int ((2 ^ f : Nat) : Int) := by rw [← hp, pows_nat]
  obtain ⟨e', h1, h, z, rfl⟩ := forL_range (i := 3) (b := B__law_own_counts_1) (ok := fun e => resolves e [.nm 1] = some [.lst true L]) (e := [some (.lst false (natsD ls)), some (.lst true L), some (.lst true []), none, none]) (f := fun k => ((2 ^ k : Nat) : Int)) (n := n)
    (fun i e => ∃ h z, e = [some (.lst false (natsD ls)), some (.lst true L), some (.lst true (cnts ls i)), h, z]) ⟨none, none, rfl⟩ (by rintro i e _ ⟨h, z, rfl⟩; rfl) (by
      rintro i e hi ⟨h, z, rfl⟩
      obtain ⟨z', e1⟩ := counts_step ls L (cnts ls i) i z hl (by unfold cnts; simp; omega)
      have e2 : cnts ls (i + 1) = cnts ls i ++ [.int (cnt ls i)] := by unfold cnts; rw [List.range_succ, List.map_append]; rfl
      rw [e2]
      exact ⟨_, e1, _, _, rfl⟩)
  refine mF_rt (e := [some (.lst false (natsD ls)), some (.lst true L), none, h, z]) rfl ?_
  show S__law_own_counts [some (.lst false (natsD ls)), some (.lst true L), none, none, none] = _
  unfold S__law_own_counts
  refine (sSeq_nx (e' := [some (.lst false (natsD ls)), some (.lst true L), some (.lst true []), none, none]) (by simp)).trans ?_
  refine (sSeq_nx (e' := [some (.lst false (natsD ls)), some (.lst true L), some (.lst true (cnts ls n)), h, z]) ?_).trans rfl
  have hlow : low L = true := by rw [← hp]; exact low_ints _
  refine (sFor_ok (av := [.nm 1]) (e' := [some (.lst false (natsD ls)), some (.lst true L), some (.lst true []), none, none]) (ds := [.lst true L]) (items := L) rfl rfl (by show (if low _ then _ else _) = _; rw [hlow]; rfl)).trans ?_
  rw [← hL] at h1
  exact h1

/-! ### a place by counts -/
theorem sum_zip (P : Nat → Bool) : ∀ n : Nat, (((List.range n).filter P).map fun f => ((2 ^ f : Nat) : Int)).sum = ofB n P
  | 0 => rfl
  | n + 1 => by
    rw [List.range_succ, List.filter_append, List.map_append, List.sum_append, sum_zip P n]
    show _ = (if P n then ((2 ^ n : Nat) : Int) else 0) + ofB n P
    generalize ofB n P = a
    cases h : P n
    · simp [h]
    · simp only [List.filter_cons, h, List.filter_nil, if_true, List.map_cons, List.map_nil, List.sum_cons, List.sum_nil]
      omega
theorem zipD_range (n : Nat) (f g : Nat → D) : zipD ((List.range n).map f) ((List.range n).map g) = (List.range n).map fun k => .tup [f k, g k] := by
  have : ∀ l : List Nat, zipD (l.map f) (l.map g) = l.map fun k => .tup [f k, g k] := by
    intro l
    induction l with
    | nil => rfl
    | cons x l ih => simp [zipD, ih]
  exact this _
def odd (ls : List Nat) (f : Nat) : Bool := decide (cnt ls f % 2 = 1)
theorem place_ok (ls : List Nat) (n : Nat) (hn : n ≤ 1000) : M__law_own_place [.lst true (cnts ls n), .lst true ((pows n).map D.int)] = some (.ok (.int (ofB n (odd ls))) [some (.lst true (cnts ls n)), some (.lst true ((pows n).map D.int))]) := by
  have hlc : low (cnts ls n) = true := by
    unfold cnts
    have := low_ints ((List.range n).map fun f => cnt ls f)
    simpa [List.map_map, Function.comp_def] using this
  have hlp := low_ints (pows n)
  have hz : zipD ((pows n).map D.int) (cnts ls n) = (List.range n).map fun f => .tup [.int ((2 ^ f : Nat) : Int), .int (cnt ls f)] := by
    rw [pows_nat]
    unfold cnts
    exact zipD_range n _ _
  generalize cnts ls n = C at hlc hz ⊢
  generalize (pows n).map D.int = L at hlp hz ⊢
  have hm : mLc (.tp [(.nm 2), (.nm 3)]) [.nm 1, .nm 0] gZip [2, 3] (mB dEqA [.vl (mB dMod [.vl (mB dInt [.nm 3]), .vl (mC (.int 2))]), .vl (mC (.int 1))]) (mNm 2) [some (.lst true C), some (.lst true L), none, none] =
      some (.ok (.lst true ((((List.range n).filter (odd ls)).map fun f => ((2 ^ f : Nat) : Int)).map D.int)) [some (.lst true C), some (.lst true L), none, none]) := by
    refine mLc_ok (av := [.nm 1, .nm 0]) (e' := [some (.lst true C), some (.lst true L), none, none]) (ds := [.lst true L, .lst true C]) (items := zipD L C) rfl rfl (by show (lstD _).bind _ = _; unfold lstD; simp [hlp, hlc]) (by rw [hz]; simp; omega) ?_
    rw [hz]
    have hp := lcL_pure (t := .tp [.nm 2, .nm 3]) (c := mB dEqA [.vl (mB dMod [.vl (mB dInt [.nm 3]), .vl (mC (.int 2))]), .vl (mC (.int 1))]) (y := mNm 2) (vs := [2, 3]) (ok := fun e => resolves e [.nm 1, .nm 0] = some [.lst true L, .lst true C]) (e := [some (.lst true C), some (.lst true L), none, none])
      (fun d => match d with | .tup [_, .int c] => decide (c % 2 = 1) | _ => false) (fun d => match d with | .tup [x, _] => x | d => d) rfl (l := (List.range n).map fun f => .tup [.int ((2 ^ f : Nat) : Int), .int (cnt ls f)]) fun d hd => by
        obtain ⟨f, _, rfl⟩ := List.mem_map.mp hd
        refine ⟨[some (.lst true C), some (.lst true L), some (.int ((2 ^ f : Nat) : Int)), some (.int (cnt ls f))], [some (.lst true C), some (.lst true L), some (.int ((2 ^ f : Nat) : Int)), some (.int (cnt ls f))], rfl, rfl, fun _ => rfl, fun _ => ⟨_, rfl, rfl⟩⟩
    refine hp.trans ?_
    rw [List.filter_map, List.map_map, List.map_map]
    rfl
  refine mF_rt (e := [some (.lst true C), some (.lst true L), none, none]) rfl ?_
  show S__law_own_place [some (.lst true C), some (.lst true L), none, none] = _
  unfold S__law_own_place
  refine sRt_ok (mB_ok (l := [.v (.lst false ((((List.range n).filter (odd ls)).map fun f => ((2 ^ f : Nat) : Int)).map D.int))]) (e' := [some (.lst true C), some (.lst true L), none, none]) (ds := [.lst false ((((List.range n).filter (odd ls)).map fun f => ((2 ^ f : Nat) : Int)).map D.int)]) ?_ rfl ?_)
  · have := evA_vl (us := []) (l := []) hm evA0
    rw [ev_set7, ev_frzi] at this
    exact this
  · rw [dSum_ints, sum_zip]
end W_losesone_k03_whole_letter_products

set_option Elab.async false
set_option autoImplicit false
set_option linter.all false
set_option maxRecDepth 100000
namespace W_losesone_k03_whole_letter_products
open PySem PySem.Spec PyProof.Rows L2 Ow

/-! ### the law's own pair -/
theorem lotB_rev (P : Nat → Bool) : ∀ n : Nat, (lotB n P).reverse = ((List.range n).filter P).map fun f : Nat => (f : Int)
  | 0 => rfl
  | n + 1 => by
    rw [List.range_succ, List.filter_append, List.map_append, ← lotB_rev P n]
    show (((if P n then [(n : Int)] else []) ++ lotB n P)).reverse = _
    rw [List.reverse_append]
    cases h : P n <;> simp [h]
theorem enum_range (f : Nat → D) : ∀ (n k : Nat), enumFrom k ((List.range n).map fun i => f (k + i)) = (List.range n).map fun i => .tup [.int ((k + i : Nat) : Int), f (k + i)]
  | 0, _ => rfl
  | n + 1, k => by
    rw [List.range_succ_eq_map, List.map_cons, List.map_cons, List.map_map, List.map_map]
    show .tup [.int (k : Nat), f (k + 0)] :: enumFrom (k + 1) _ = _
    have := enum_range f n (k + 1)
    have e : ((fun i => f (k + i)) ∘ Nat.succ) = fun i => f (k + 1 + i) := by funext i; show f (k + (i + 1)) = _; congr 1; omega
    rw [e, this]
    congr 1
    refine List.map_congr_left fun i _ => ?_
    show D.tup [.int ((k + 1 + i : Nat) : Int), f (k + 1 + i)] = .tup [.int ((k + (i + 1) : Nat) : Int), f (k + (i + 1))]
    rw [show k + 1 + i = k + (i + 1) by omega]
theorem cnt_two (i j f : Nat) : decide (cnt [i, j] f = 2) = (i.testBit f && j.testBit f) := by
  unfold cnt
  rw [List.countP_cons, List.countP_cons, List.countP_nil]
  cases i.testBit f <;> cases j.testBit f <;> rfl
theorem odd_two (i j f : Nat) : odd [i, j] f = (i.testBit f != j.testBit f) := by
  unfold odd cnt
  rw [List.countP_cons, List.countP_cons, List.countP_nil]
  cases i.testBit f <;> cases j.testBit f <;> rfl
theorem pairD_is {n i j : Nat} (hi : i < 2 ^ n) (hj : j < 2 ^ n) : pairD n i j = .tup [.int (ownS n i j), .int (ofB n (odd [i, j])), .tup ((((List.range n).filter fun f => decide (cnt [i, j] f = 2)).map fun f : Nat => (f : Int)).map D.int)] := by
  unfold pairD
  rw [pairR_s hi hj, pairR_p hi hj, pairR_l hi hj, lotB_rev]
  have e1 : (fun f => odd [i, j] f) = fun f => i.testBit f != j.testBit f := funext fun f => odd_two i j f
  have e2 : (fun f => decide (cnt [i, j] f = 2)) = fun f => i.testBit f && j.testBit f := funext fun f => cnt_two i j f
  rw [show odd [i, j] = fun f => i.testBit f != j.testBit f from e1, e2]
theorem own_pair_ok {n i j : Nat} (hn : n ≤ 100) (hi : i < 2 ^ n) (hj : j < 2 ^ n) : M__law_own_pair [.int i, .int j, .lst true ((pows n).map D.int), .lst true (dpows n)] =
    some (.ok (pairD n i j) [some (.int i), some (.int j), some (.lst true ((pows n).map D.int)), some (.lst true (dpows n))]) := by
  have hc := counts_ok [i, j] n (by simp) (by omega)
  have hp := place_ok [i, j] n (by omega)
  have hs := sign_ok n i j
  have hlc : low (cnts [i, j] n) = true := by
    unfold cnts
    have := low_ints ((List.range n).map fun f => cnt [i, j] f)
    simpa [List.map_map, Function.comp_def] using this
  have hen : enumFrom 0 (cnts [i, j] n) = (List.range n).map fun f : Nat => .tup [.int (f : Int), .int (cnt [i, j] f)] := by
    have := enum_range (fun f => .int (cnt [i, j] f)) n 0
    simpa [cnts] using this
  rw [pairD_is hi hj]
  generalize cnts [i, j] n = C at hc hp hlc hen
  generalize (pows n).map D.int = L at hc hp ⊢
  generalize dpows n = DN at hs ⊢
  generalize ownS n i j = S at hs ⊢
  generalize ofB n (odd [i, j]) = P at hp ⊢
  have h1 : mCall M__law_own_counts [.vl (mB dLst [.vl (mNm 0), .vl (mNm 1)]), .nm 2] [some (.int i), some (.int j), some (.lst true L), some (.lst true DN), none, none, none, none] = some (.ok (.lst true C) [some (.int i), some (.int j), some (.lst true L), some (.lst true DN), none, none, none, none]) := by
    rw [mCall_is (l := [.v (.lst false (natsD [i, j])), .nm 2]) (e' := [some (.int i), some (.int j), some (.lst true L), some (.lst true DN), none, none, none, none]) (ds := [.lst false (natsD [i, j]), .lst true L]) (by simp [natsD]) rfl (by simp) rfl hc rfl]
    simp
  have h2 : mLc (.tp [(.nm 6), (.nm 7)]) [.nm 4] gEnum [6, 7] (mB dEqA [.nm 7, .vl (mC (.int 2))]) (mNm 6) [some (.int i), some (.int j), some (.lst true L), some (.lst true DN), some (.lst true C), none, none, none] =
      some (.ok (.lst true ((((List.range n).filter fun f => decide (cnt [i, j] f = 2)).map fun f : Nat => (f : Int)).map D.int)) [some (.int i), some (.int j), some (.lst true L), some (.lst true DN), some (.lst true C), none, none, none]) := by
    refine mLc_ok (av := [.nm 4]) (e' := [some (.int i), some (.int j), some (.lst true L), some (.lst true DN), some (.lst true C), none, none, none]) (ds := [.lst true C]) (items := enumFrom 0 C) rfl rfl (by show (if low _ then _ else _) = _; rw [hlc]; rfl) (by rw [hen]; simp; omega) ?_
    rw [hen]
    have hq := lcL_pure (t := .tp [.nm 6, .nm 7]) (c := mB dEqA [.nm 7, .vl (mC (.int 2))]) (y := mNm 6) (vs := [6, 7]) (ok := fun e => resolves e [.nm 4] = some [.lst true C]) (e := [some (.int i), some (.int j), some (.lst true L), some (.lst true DN), some (.lst true C), none, none, none])
      (fun d => match d with | .tup [_, .int c] => decide (c = 2) | _ => false) (fun d => match d with | .tup [x, _] => x | d => d) rfl (l := (List.range n).map fun f : Nat => .tup [.int (f : Int), .int (cnt [i, j] f)]) fun d hd => by
        obtain ⟨f, _, rfl⟩ := List.mem_map.mp hd
        refine ⟨[some (.int i), some (.int j), some (.lst true L), some (.lst true DN), some (.lst true C), none, some (.int f), some (.int (cnt [i, j] f))], [some (.int i), some (.int j), some (.lst true L), some (.lst true DN), some (.lst true C), none, some (.int f), some (.int (cnt [i, j] f))], rfl, rfl, fun _ => rfl, fun _ => ⟨_, rfl, rfl⟩⟩
    refine hq.trans ?_
    rw [List.filter_map, List.map_map, List.map_map]
    rfl
  generalize hLT : (((List.range n).filter fun f => decide (cnt [i, j] f = 2)).map fun f : Nat => (f : Int)) = LT at h2 ⊢
  refine mF_rt (e := [some (.int i), some (.int j), some (.lst true L), some (.lst true DN), some (.lst true C), some (.tup (LT.map D.int)), none, none]) rfl ?_
  show S__law_own_pair [some (.int i), some (.int j), some (.lst true L), some (.lst true DN), none, none, none, none] = _
  unfold S__law_own_pair
  refine (sSeq_nx (e' := [some (.int i), some (.int j), some (.lst true L), some (.lst true DN), some (.lst true C), none, none, none]) (sSet_ok h1)).trans ?_
  refine (sSeq_nx (e' := [some (.int i), some (.int j), some (.lst true L), some (.lst true DN), some (.lst true C), some (.tup (LT.map D.int)), none, none]) ?_).trans ?_
  · have := evA_vl (us := []) (l := []) h2 evA0
    rw [ev_set7, ev_frzi] at this
    refine sSet_ok (mB_ok this rfl ?_)
    show (if low _ then _ else _) = _
    rw [low_ints]; rfl
  · have h3 : mCall M__law_own_sign [.nm 0, .nm 1, .nm 3] [some (.int i), some (.int j), some (.lst true L), some (.lst true DN), some (.lst true C), some (.tup (LT.map D.int)), none, none] = some (.ok (.int S) [some (.int i), some (.int j), some (.lst true L), some (.lst true DN), some (.lst true C), some (.tup (LT.map D.int)), none, none]) := by
      rw [mCall_is (l := [.nm 0, .nm 1, .nm 3]) (e' := [some (.int i), some (.int j), some (.lst true L), some (.lst true DN), some (.lst true C), some (.tup (LT.map D.int)), none, none]) (ds := [.int i, .int j, .lst true DN]) rfl rfl (by simp) rfl hs rfl]
      simp
    have h4 : mCall M__law_own_place [.nm 4, .nm 2] [some (.int i), some (.int j), some (.lst true L), some (.lst true DN), some (.lst true C), some (.tup (LT.map D.int)), none, none] = some (.ok (.int P) [some (.int i), some (.int j), some (.lst true L), some (.lst true DN), some (.lst true C), some (.tup (LT.map D.int)), none, none]) := by
      rw [mCall_is (l := [.nm 4, .nm 2]) (e' := [some (.int i), some (.int j), some (.lst true L), some (.lst true DN), some (.lst true C), some (.tup (LT.map D.int)), none, none]) (ds := [.lst true C, .lst true L]) rfl rfl (by simp) rfl hp rfl]
      simp
    simp [h3, h4]
end W_losesone_k03_whole_letter_products

set_option Elab.async false
set_option autoImplicit false
set_option linter.all false
set_option maxRecDepth 100000
namespace W_losesone_k03_whole_letter_products
open PySem PySem.Spec PyProof.Rows L2 Ow

/-! ### what repr takes -/
structure Rp (k s : Nat) (d : D) : Prop where
  nd : noDct d = true
  sh : (py d).showable = true
  dp : (py d).depth ≤ k
  sz : Ow.sz d ≤ s
structure Rps (k s : Nat) (l : List D) : Prop where
  nd : noDcts l = true
  sh : PyData.showableAll (pys l) = true
  dp : PyData.depthAll (pys l) ≤ k
  sz : szs l ≤ s
theorem Rps.nil {k s : Nat} : Rps k s [] := ⟨rfl, rfl, Nat.zero_le _, Nat.zero_le _⟩
theorem Rps.cons {k a s : Nat} {d : D} {l : List D} (h : Rp k a d) (t : Rps k s l) : Rps k (a + 2 + s) (d :: l) := by
  refine ⟨?_, ?_, ?_, ?_⟩
  · unfold noDcts; rw [h.nd, t.nd]; rfl
  · unfold pys PyData.showableAll; rw [h.sh, t.sh]; rfl
  · unfold pys PyData.depthAll; exact Nat.max_le.mpr ⟨h.dp, t.dp⟩
  · unfold szs; have := h.sz; have := t.sz; omega
theorem Rps.more {k s k' s' : Nat} {l : List D} (h : Rps k s l) (hk : k ≤ k') (hs : s ≤ s') : Rps k' s' l := ⟨h.nd, h.sh, Nat.le_trans h.dp hk, Nat.le_trans h.sz hs⟩
theorem Rp.more {k s k' s' : Nat} {d : D} (h : Rp k s d) (hk : k ≤ k') (hs : s ≤ s') : Rp k' s' d := ⟨h.nd, h.sh, Nat.le_trans h.dp hk, Nat.le_trans h.sz hs⟩
theorem Rps.tup {k s : Nat} {l : List D} (h : Rps k s l) : Rp (k + 1) (s + 3) (.tup l) := by
  refine ⟨?_, ?_, ?_, ?_⟩
  · unfold noDct; exact h.nd
  · unfold py PyData.showable; exact h.sh
  · unfold py PyData.depth; have := h.dp; omega
  · unfold Ow.sz; have := h.sz; omega
theorem Rps.lst {k s : Nat} {o : Bool} {l : List D} (h : Rps k s l) : Rp (k + 1) (s + 2) (.lst o l) := by
  refine ⟨?_, ?_, ?_, ?_⟩
  · unfold noDct; exact h.nd
  · unfold py PyData.showable; exact h.sh
  · unfold py PyData.depth; have := h.dp; omega
  · unfold Ow.sz; have := h.sz; omega
theorem log_lt {i : Int} {n : Nat} (hn : 0 < n) (h : i.natAbs < 2 ^ n) : i.natAbs.log2 < n := by
  by_cases z : i.natAbs = 0
  · rw [z]; simpa [Nat.log2_zero] using hn
  · exact (Nat.log2_lt z).mpr h
theorem Rp.int {i : Int} (h : i.natAbs < 2 ^ 64) : Rp 0 70 (.int i) := by
  have hl := log_lt (n := 64) (by decide) h
  refine ⟨by unfold noDct; rfl, ?_, by unfold py PyData.depth; exact Nat.le_refl _, by unfold Ow.sz; omega⟩
  unfold py PyData.showable
  exact decide_eq_true (by omega)
theorem Rps.ints : ∀ {l : List Int}, (∀ x ∈ l, x.natAbs < 2 ^ 64) → Rps 0 (72 * l.length) (l.map D.int)
  | [], _ => Rps.nil
  | x :: l, h => by
    have := (Rps.cons (Rp.int (h x List.mem_cons_self)) (Rps.ints fun y hy => h y (List.mem_cons_of_mem _ hy)))
    exact this.more (Nat.le_refl _) (by simp; omega)
theorem Rp.repr {k s : Nat} {d : D} (h : Rp k s d) (hr : isRefD d = true) (hk : k ≤ 120) (hs : s ≤ 16777216) : ∃ t, dRepr [d] = some (.str t) := by
  refine ⟨(py d).shown, ?_⟩
  have h1 : (py d).depth ≤ 120 := Nat.le_trans h.dp hk
  have h2 : (py d).shown.length ≤ 16777216 := Nat.le_trans (shown_le d h.nd) (Nat.le_trans h.sz hs)
  show (if isRefD d && noDct d && (py d).showable && decide ((py d).depth ≤ 120) && decide ((py d).shown.length ≤ 16777216) then some (D.str (py d).shown) else none) = _
  rw [hr, h.nd, h.sh, decide_eq_true h1, decide_eq_true h2]
  rfl
/-- told as due -/
theorem kit_tt : kitB "tuple" "tuple" = some true := by decide +kernel
theorem told_ok {l : List D} {t : Str} (h : dRepr [.tup l] = some (.str t)) : M__law_is_told [.tup l, .tup l] = some (.ok (.bl true) [some (.tup l), some (.tup l)]) := by
  refine mF_rt (e := [some (.tup l), some (.tup l)]) rfl ?_
  show S__law_is_told [some (.tup l), some (.tup l)] = _
  unfold S__law_is_told
  have e1 : mB (dIsi "tuple") [.nm 0] [some (.tup l), some (.tup l)] = some (.ok (.bl true) [some (.tup l), some (.tup l)]) := mB_ok (l := [.nm 0]) (ds := [.tup l]) rfl rfl (by rw [ev_isi]; show (kitB "tuple" "tuple").map D.bl = _; rw [kit_tt]; rfl)
  have e2 : mB dRepr [.nm 0] [some (.tup l), some (.tup l)] = some (.ok (.str t) [some (.tup l), some (.tup l)]) := mB_ok (l := [.nm 0]) (ds := [.tup l]) rfl rfl h
  have e3 : mB dRepr [.nm 1] [some (.tup l), some (.tup l)] = some (.ok (.str t) [some (.tup l), some (.tup l)]) := mB_ok (l := [.nm 1]) (ds := [.tup l]) rfl rfl h
  simp only [ev_sRt, ev_mAnd, e1, Option.bind_some]
  rw [mB_ok (l := [.v (.str t), .v (.str t)]) (e' := [some (.tup l), some (.tup l)]) (ds := [.str t, .str t]) (d := .bl true) (evA_vl e2 (evA_vl e3 evA0)) rfl (by simp)]
  rfl
/-! ### pairs -/
theorem pairR_succ (f i j : Nat) : pairR (f + 1) i j = ⟨(if 2 ^ f ≤ i ∧ 0 < j % 2 ^ f then -1 else 1) * (if 2 ^ f ≤ j then pairR f (j % 2 ^ f) (i % 2 ^ f) else pairR f (i % 2 ^ f) (j % 2 ^ f)).s,
    (if (2 ^ f ≤ i ↔ 2 ^ f ≤ j) then 0 else 2 ^ f) + (if 2 ^ f ≤ j then pairR f (j % 2 ^ f) (i % 2 ^ f) else pairR f (i % 2 ^ f) (j % 2 ^ f)).p, (if 2 ^ f ≤ i ∧ 2 ^ f ≤ j then [(f : Int)] else []) ++ (if 2 ^ f ≤ j then pairR f (j % 2 ^ f) (i % 2 ^ f) else pairR f (i % 2 ^ f) (j % 2 ^ f)).l⟩ := rfl
theorem pairR_more {n i j : Nat} (hi : i < 2 ^ n) (hj : j < 2 ^ n) : ∀ k : Nat, pairR (n + k) i j = pairR n i j
  | 0 => rfl
  | k + 1 => by
    have hp : 2 ^ n ≤ 2 ^ (n + k) := Nat.pow_le_pow_right (by decide) (by omega)
    have h1 : ¬ 2 ^ (n + k) ≤ i := by omega
    have h2 : ¬ 2 ^ (n + k) ≤ j := by omega
    show pairR (n + k + 1) i j = _
    rw [pairR_succ, if_neg h2, Nat.mod_eq_of_lt (by omega : i < 2 ^ (n + k)), Nat.mod_eq_of_lt (by omega : j < 2 ^ (n + k)), pairR_more hi hj k]
    simp [h1, h2]
theorem ofB_lt (P : Nat → Bool) : ∀ n : Nat, 0 ≤ ofB n P ∧ ofB n P < ((2 ^ n : Nat) : Int)
  | 0 => by unfold ofB; simp
  | n + 1 => by
    obtain ⟨h1, h2⟩ := ofB_lt P n
    unfold ofB
    rw [Nat.pow_succ]
    split <;> omega
theorem ownS_one : ∀ (n i j : Nat), (ownS n i j).natAbs ≤ 1
  | 0, _, _ => Nat.le_refl _
  | n + 1, i, j => by
    have h1 := ownS_one n (j - 2 ^ n) (i - 2 ^ n)
    have h2 := ownS_one n (j - 2 ^ n) i
    have h3 := ownS_one n (i - 2 ^ n) j
    have h4 := ownS_one n i j
    unfold ownS
    split
    · exact Nat.le_refl _
    · split
      · split
        · split
          · rw [Int.one_mul]; exact h1
          · rw [Int.neg_mul, Int.one_mul, Int.natAbs_neg]; exact h1
        · exact h2
      · split
        · rw [Int.natAbs_neg]; exact h3
        · exact h4
theorem pair_repr {n i j : Nat} (hn : n ≤ 61) (hi : i < 2 ^ n) (hj : j < 2 ^ n) : ∃ t, dRepr [pairD n i j] = some (.str t) := by
  rw [pairD_is hi hj]
  have h1 : (ownS n i j).natAbs < 2 ^ 64 := Nat.lt_of_le_of_lt (ownS_one n i j) (by decide)
  have hp : 2 ^ n ≤ 2 ^ 61 := Nat.pow_le_pow_right (by decide) hn
  have h2 : (ofB n (odd [i, j])).natAbs < 2 ^ 64 := by
    obtain ⟨a, b⟩ := ofB_lt (odd [i, j]) n
    omega
  have h3 : Rps 0 (72 * 61) ((((List.range n).filter fun f => decide (cnt [i, j] f = 2)).map fun f : Nat => (f : Int)).map D.int) := by
    refine (Rps.ints fun x hx => ?_).more (Nat.le_refl _) ?_
    · obtain ⟨f, hf, rfl⟩ := List.mem_map.mp hx
      have := List.mem_range.mp (List.mem_filter.mp hf).1
      omega
    · have := List.length_filter_le (fun f => decide (cnt [i, j] f = 2)) (List.range n)
      rw [List.length_range] at this
      rw [List.length_map]
      omega
  have h4 := Rps.cons (k := 1) ((Rp.int h1).more (by omega) (Nat.le_refl _)) (Rps.cons ((Rp.int h2).more (by omega) (Nat.le_refl _)) (Rps.cons (h3.tup) (Rps.nil (s := 0))))
  exact h4.tup.repr rfl (by omega) (by omega)
theorem pairD_tup (n i j : Nat) : ∃ l, pairD n i j = .tup l := ⟨_, rfl⟩
theorem pair_right_of (i j fl : Int) (l : List D) (e1 : M_letter_pair [.int i, .int j, .int fl] = some (.ok (.tup l) [none, none, some (.int fl)])) (e2 : M__law_is_told [.tup l, .tup l] = some (.ok (.bl true) [some (.tup l), some (.tup l)])) :
    M__law_is_pair_right [.int i, .int j, .int fl, .tup l] = some (.ok (.bl true) [some (.int i), some (.int j), some (.int fl), some (.tup l)]) := by
  refine mF_rt (e := [some (.int i), some (.int j), some (.int fl), some (.tup l)]) rfl ?_
  show S__law_is_pair_right [some (.int i), some (.int j), some (.int fl), some (.tup l)] = _
  have c1 : mCall M_letter_pair [.nm 0, .nm 1, .nm 2] [some (.int i), some (.int j), some (.int fl), some (.tup l)] = some (.ok (.tup l) [some (.int i), some (.int j), some (.int fl), some (.tup l)]) := by
    rw [mCall_is (l := [.nm 0, .nm 1, .nm 2]) (e' := [some (.int i), some (.int j), some (.int fl), some (.tup l)]) (ds := [.int i, .int j, .int fl]) rfl rfl (by simp) rfl e1 rfl]
    simp
  have c2 : mCallK M_letter_pair [2, 1, 0] [.nm 2, .nm 1, .nm 0] [some (.int i), some (.int j), some (.int fl), some (.tup l)] = some (.ok (.tup l) [some (.int i), some (.int j), some (.int fl), some (.tup l)]) := by
    rw [mCallK_is (l := [.nm 2, .nm 1, .nm 0]) (e' := [some (.int i), some (.int j), some (.int fl), some (.tup l)]) (ds := [.int i, .int j, .int fl]) rfl rfl (by simp [permL]) rfl e1 rfl]
    simp [permL]
  have c3 : mCall M__law_is_told [.vl (mCall M_letter_pair [.nm 0, .nm 1, .nm 2]), .nm 3] [some (.int i), some (.int j), some (.int fl), some (.tup l)] = some (.ok (.bl true) [some (.int i), some (.int j), some (.int fl), some (.tup l)]) := by
    rw [mCall_is (l := [.v (.tup l), .nm 3]) (e' := [some (.int i), some (.int j), some (.int fl), some (.tup l)]) (ds := [.tup l, .tup l]) (evA_vl c1 (evA_nm rfl evA0)) rfl (by simp) rfl e2 rfl]
    simp
  have c4 : mCall M__law_is_told [.vl (mCallK M_letter_pair [2, 1, 0] [.nm 2, .nm 1, .nm 0]), .nm 3] [some (.int i), some (.int j), some (.int fl), some (.tup l)] = some (.ok (.bl true) [some (.int i), some (.int j), some (.int fl), some (.tup l)]) := by
    rw [mCall_is (l := [.v (.tup l), .nm 3]) (e' := [some (.int i), some (.int j), some (.int fl), some (.tup l)]) (ds := [.tup l, .tup l]) (evA_vl c2 (evA_nm rfl evA0)) rfl (by simp) rfl e2 rfl]
    simp
  unfold S__law_is_pair_right
  simp [c3, c4]
theorem pair_right {n i j m : Nat} (hm : m ≤ 61) (hnm : n ≤ m) (hi : i < 2 ^ n) (hj : j < 2 ^ n) : M__law_is_pair_right [.int i, .int j, .int m, pairD n i j] = some (.ok (.bl true) [some (.int i), some (.int j), some (.int m), some (pairD n i j)]) := by
  obtain ⟨k, hk⟩ := Nat.exists_eq_add_of_le hnm
  have e0 : pairD m i j = pairD n i j := by unfold pairD; rw [hk, pairR_more hi hj k]
  have e1 := pair_ok m i j (by omega)
  rw [e0] at e1
  obtain ⟨t, ht⟩ := pair_repr (n := n) (by omega) hi hj
  exact pair_right_of i j m _ e1 (told_ok ht)
end W_losesone_k03_whole_letter_products

set_option Elab.async false
set_option autoImplicit false
set_option linter.all false
set_option maxRecDepth 100000
namespace W_losesone_k03_whole_letter_products
open PySem PySem.Spec PyProof.Rows L2 Ow

/-! ### what has been asked -/
def AskedOk (d : D) : Prop := ∃ (name : Str) (one two due : D) (n : Int), d = .tup [.str name, one, two, .int n, due] ∧ Ow.top one = false ∧ Ow.top two = false ∧ Ow.top due = false ∧
  ((name = "pair" ∧ M__law_is_pair_right [one, two, .int n, due] = some (.ok (.bl true) [some one, some two, some (.int n), some due])) ∨
    (name = "word" ∧ M__law_is_word_right [one, two, .int n, due] = some (.ok (.bl true) [some one, some two, some (.int n), some due])))
theorem take_pows (n : Nat) : cut ((pows (n + 1)).map D.int) none (some (n : Int)) = (pows n).map D.int := by
  unfold cut
  have hl : ((pows (n + 1)).map D.int).length = n + 1 := by unfold pows; simp
  rw [HT.sIx_none, hl, HT.sIx_nat]
  rw [pows_succ, List.map_append]
  have hl2 : ((pows n).map D.int).length = n := by unfold pows; simp
  rw [show min n (n + 1) - 0 = n by omega, List.drop_zero]
  rw [List.take_append_of_le_length (by omega), List.take_of_length_le (by omega)]
theorem pows_slice (n : Nat) (hn : n ≤ 64) {e : Sl} (h1 : slot e 1 = some (.int n)) : mB (dSl false true) [.vl (mCall M__law_powers [.nm 1]), .nm 1] e = some (.ok (.lst true ((pows n).map D.int)) e) := by
  have hc : mCall M__law_powers [.nm 1] e = some (.ok (.lst true ((pows (n + 1)).map D.int)) e) := by
    rw [mCall_is (l := [.nm 1]) (e' := e) (ds := [.int n]) (evA_nm h1 evA0) (by rw [ev_resn, h1]; rfl) (by rw [ev_lentsn, h1]; simp) rfl (powers_ok n hn) rfl]
    rw [ev_backRn, h1]
    simp
  have ha := evA_vl (us := [.nm 1]) (l := [.nm 1]) hc (evA_nm h1 evA0)
  rw [ev_set7, ev_frzi] at ha
  refine mB_ok ha (by rw [ev_resv, ev_resn, h1]; rfl) ?_
  show (Option.bind (some (some (n : Int))) fun p => Ow.cutD (.lst false ((pows (n + 1)).map D.int)) none p) = _
  show (if low ((pows (n + 1)).map D.int) then some (D.lst true (cut ((pows (n + 1)).map D.int) none (some (n : Int)))) else none) = _
  rw [low_ints, if_pos rfl, take_pows]
theorem downs_of (n : Nat) {e : Sl} (h4 : slot e 4 = some (.lst true ((pows n).map D.int))) : mB dLstRev [.vl (mB dList [.nm 4])] e = some (.ok (.lst true (dpows n)) e) := by
  have h1 : mB dList [.nm 4] e = some (.ok (.lst true ((pows n).map D.int)) e) := mB_ok (evA_nm h4 evA0) (by rw [ev_resn, h4]; rfl) (by show (if low _ then _ else _) = _; rw [low_ints]; rfl)
  have ha := evA_vl (us := []) (l := []) h1 evA0
  rw [ev_set7, ev_frzi] at ha
  refine mB_ok ha rfl ?_
  show (Option.bind (if low ((pows n).map D.int) then some ((pows n).map D.int) else none) fun l : List D => some (D.lst true l.reverse)) = _
  rw [low_ints, if_pos rfl, Option.bind_some, pows_rev]
theorem call_pick {b : D} (hb : IsBag b) {R : List D} (hne : R ≠ []) (hlow : low R = true) (hlen : R.length < 16777216) (x1 : Option D) (r : Sl) : ∃ d b', d ∈ R ∧ IsBag b' ∧
    mCall M__law_pick [.nm 0, .nm 2] (some b :: x1 :: some (.lst true R) :: r) = some (.ok d (some b' :: x1 :: some (.lst true R) :: r)) := by
  obtain ⟨d, b', hd, e1, hb'⟩ := pick_ok hb (o := true) hne hlow hlen
  refine ⟨d, b', hd, hb', ?_⟩
  rw [mCall_is (l := [.nm 0, .nm 2]) (e' := some b :: x1 :: some (.lst true R) :: r) (ds := [b, .lst true R]) (by simp) (by simp) (by simp [hb.top]) rfl e1 rfl]
  simp [hb.top]
section
variable (b b1 b2 : D) (I J N M : Int) (l L DN R A A' : List D) (x7 x8 x9 x10 : Option D)
theorem pb1 (op : M__law_own_pair [.int I, .int J, .lst true L, .lst true DN] = some (.ok (.tup l) [some (.int I), some (.int J), some (.lst true L), some (.lst true DN)])) :
    mCall M__law_own_pair [.nm 8, .nm 9, .nm 4, .nm 5] [some b2, some (.int N), some (.lst true R), some (.lst true A), some (.lst true L), some (.lst true DN), some (.int M), x7, some (.int I), some (.int J), x10] =
      some (.ok (.tup l) [some b2, some (.int N), some (.lst true R), some (.lst true A), some (.lst true L), some (.lst true DN), some (.int M), x7, some (.int I), some (.int J), x10]) := by
  rw [mCall_is (l := [.nm 8, .nm 9, .nm 4, .nm 5]) (e' := [some b2, some (.int N), some (.lst true R), some (.lst true A), some (.lst true L), some (.lst true DN), some (.int M), x7, some (.int I), some (.int J), x10]) (ds := [.int I, .int J, .lst true L, .lst true DN]) rfl rfl (by simp) rfl op rfl]
  simp
theorem pb2 (hA' : gAppend A [.tup [.str "pair", .int I, .int J, .int N, .tup l]] = some (.non, A')) : mMut gAppend 3 [.vl (mB dTupl [.vl (mC (.str "pair")), .vl (mNm 8), .vl (mNm 9), .vl (mNm 1), .vl (mNm 10)])] [some b2, some (.int N), some (.lst true R), some (.lst true A), some (.lst true L), some (.lst true DN), some (.int M), x7, some (.int I), some (.int J), some (.tup l)] =
      some (.ok .non [some b2, some (.int N), some (.lst true R), some (.lst true A'), some (.lst true L), some (.lst true DN), some (.int M), x7, some (.int I), some (.int J), some (.tup l)]) := by
  refine mMut_ok (l0 := A) (as := [.v (.tup [.str "pair", .int I, .int J, .int N, .tup l])]) (e' := [some b2, some (.int N), some (.lst true R), some (.lst true A), some (.lst true L), some (.lst true DN), some (.int M), x7, some (.int I), some (.int J), some (.tup l)]) rfl ?_ rfl rfl hA'
  simp
theorem pb3 (r1 : M__law_is_pair_right [.int I, .int J, .int N, .tup l] = some (.ok (.bl true) [some (.int I), some (.int J), some (.int N), some (.tup l)])) : mCall M__law_is_pair_right [.nm 8, .nm 9, .nm 1, .nm 10] [some b2, some (.int N), some (.lst true R), some (.lst true A'), some (.lst true L), some (.lst true DN), some (.int M), x7, some (.int I), some (.int J), some (.tup l)] =
      some (.ok (.bl true) [some b2, some (.int N), some (.lst true R), some (.lst true A'), some (.lst true L), some (.lst true DN), some (.int M), x7, some (.int I), some (.int J), some (.tup l)]) := by
  rw [mCall_is (l := [.nm 8, .nm 9, .nm 1, .nm 10]) (e' := [some b2, some (.int N), some (.lst true R), some (.lst true A'), some (.lst true L), some (.lst true DN), some (.int M), x7, some (.int I), some (.int J), some (.tup l)]) (ds := [.int I, .int J, .int N, .tup l]) rfl rfl (by simp) rfl r1 rfl]
  simp
theorem pb4 (r2 : M__law_is_pair_right [.int I, .int J, .int M, .tup l] = some (.ok (.bl true) [some (.int I), some (.int J), some (.int M), some (.tup l)])) : mCall M__law_is_pair_right [.nm 8, .nm 9, .nm 6, .nm 10] [some b2, some (.int N), some (.lst true R), some (.lst true A'), some (.lst true L), some (.lst true DN), some (.int M), x7, some (.int I), some (.int J), some (.tup l)] =
      some (.ok (.bl true) [some b2, some (.int N), some (.lst true R), some (.lst true A'), some (.lst true L), some (.lst true DN), some (.int M), x7, some (.int I), some (.int J), some (.tup l)]) := by
  rw [mCall_is (l := [.nm 8, .nm 9, .nm 6, .nm 10]) (e' := [some b2, some (.int N), some (.lst true R), some (.lst true A'), some (.lst true L), some (.lst true DN), some (.int M), x7, some (.int I), some (.int J), some (.tup l)]) (ds := [.int I, .int J, .int M, .tup l]) rfl rfl (by simp) rfl r2 rfl]
  simp
theorem pb5 (p1 : mCall M__law_pick [.nm 0, .nm 2] [some b, some (.int N), some (.lst true R), some (.lst true A), some (.lst true L), some (.lst true DN), some (.int M), x7, x8, x9, x10] = some (.ok (.int I) [some b1, some (.int N), some (.lst true R), some (.lst true A), some (.lst true L), some (.lst true DN), some (.int M), x7, x8, x9, x10]))
    (p2 : mCall M__law_pick [.nm 0, .nm 2] [some b1, some (.int N), some (.lst true R), some (.lst true A), some (.lst true L), some (.lst true DN), some (.int M), x7, x8, x9, x10] = some (.ok (.int J) [some b2, some (.int N), some (.lst true R), some (.lst true A), some (.lst true L), some (.lst true DN), some (.int M), x7, x8, x9, x10]))
    (op : M__law_own_pair [.int I, .int J, .lst true L, .lst true DN] = some (.ok (.tup l) [some (.int I), some (.int J), some (.lst true L), some (.lst true DN)]))
    (hA' : gAppend A [.tup [.str "pair", .int I, .int J, .int N, .tup l]] = some (.non, A'))
    (r1 : M__law_is_pair_right [.int I, .int J, .int N, .tup l] = some (.ok (.bl true) [some (.int I), some (.int J), some (.int N), some (.tup l)]))
    (r2 : M__law_is_pair_right [.int I, .int J, .int M, .tup l] = some (.ok (.bl true) [some (.int I), some (.int J), some (.int M), some (.tup l)])) :
    B__law_is_pairs_turn_right_1 [some b, some (.int N), some (.lst true R), some (.lst true A), some (.lst true L), some (.lst true DN), some (.int M), x7, x8, x9, x10] =
      some (.nx [some b2, some (.int N), some (.lst true R), some (.lst true A'), some (.lst true L), some (.lst true DN), some (.int M), x7, some (.int I), some (.int J), some (.tup l)]) := by
  have c1 := pb1 b2 I J N M l L DN R A x7 x10 op
  have c2 := pb2 b2 I J N M l L DN R A A' x7 hA'
  have c3 := pb3 b2 I J N M l L DN R A' x7 r1
  have c4 := pb4 b2 I J N M l L DN R A' x7 r2
  unfold B__law_is_pairs_turn_right_1
  simp [-ev_mMut, p1, p2, c1, c2, c3, c4]
end
theorem pairs_body {b : D} (hb : IsBag b) {n m : Nat} (hm : m ≤ 61) (hnm : n ≤ m) {row : List Nat} (hne : row ≠ []) (hrl : row.length ≤ 1000) (hr : ∀ x ∈ row, x < 2 ^ n) {A : List D} (hA : ∀ d ∈ A, AskedOk d) (hAl : A.length ≤ 5000) (x7 x8 x9 x10 : Option D) : ∃ b' A' x8' x9' x10',
    B__law_is_pairs_turn_right_1 [some b, some (.int n), some (.lst true (natsD row)), some (.lst true A), some (.lst true ((pows n).map D.int)), some (.lst true (dpows n)), some (.int m), x7, x8, x9, x10] =
      some (.nx [some b', some (.int n), some (.lst true (natsD row)), some (.lst true A'), some (.lst true ((pows n).map D.int)), some (.lst true (dpows n)), some (.int m), x7, x8', x9', x10']) ∧ IsBag b' ∧ (∀ d ∈ A', AskedOk d) ∧ A'.length = A.length + 1 := by
  have hne2 : natsD row ≠ [] := by unfold natsD; simpa using hne
  have hlen : (natsD row).length < 16777216 := by unfold natsD; rw [List.length_map]; omega
  obtain ⟨d1, b1, hd1, hb1, p1⟩ := call_pick hb hne2 (low_nats row) hlen (some (.int n)) [some (.lst true A), some (.lst true ((pows n).map D.int)), some (.lst true (dpows n)), some (.int m), x7, x8, x9, x10]
  obtain ⟨d2, b2, hd2, hb2, p2⟩ := call_pick hb1 hne2 (low_nats row) hlen (some (.int n)) [some (.lst true A), some (.lst true ((pows n).map D.int)), some (.lst true (dpows n)), some (.int m), x7, x8, x9, x10]
  obtain ⟨i, hi, rfl⟩ := List.mem_map.mp hd1
  obtain ⟨j, hj, rfl⟩ := List.mem_map.mp hd2
  have op := own_pair_ok (n := n) (by omega) (hr i hi) (hr j hj)
  have r1 := pair_right (n := n) (m := n) (by omega) (Nat.le_refl _) (hr i hi) (hr j hj)
  have r2 := pair_right (n := n) (m := m) hm hnm (hr i hi) (hr j hj)
  obtain ⟨l, hl⟩ := pairD_tup n i j
  rw [hl] at op r1 r2
  refine ⟨b2, _, _, _, _, pb5 b b1 b2 i j n m l _ _ _ A _ x7 x8 x9 x10 p1 p2 op (append_ok rfl (by omega)) r1 r2, hb2, ?_, by simp⟩
  intro d hd
  rcases List.mem_append.mp hd with hd | hd
  · exact hA d hd
  · exact ⟨"pair", .int i, .int j, .tup l, n, List.mem_singleton.mp hd, rfl, rfl, rfl, .inl ⟨rfl, r1⟩⟩
theorem pairs_turn_ok {b : D} (hb : IsBag b) {n : Nat} (hn : n ≤ 60) {row : List Nat} (hne : row ≠ []) (hrl : row.length ≤ 1000) (hr : ∀ x ∈ row, x < 2 ^ n) {A : List D} (hA : ∀ d ∈ A, AskedOk d) (hAl : A.length ≤ 4000) : ∃ b' A',
    M__law_is_pairs_turn_right [b, .int n, .lst true (natsD row), .lst true A] = some (.ok (.bl true) [some b', some (.int n), some (.lst true (natsD row)), some (.lst true A')]) ∧ IsBag b' ∧ (∀ d ∈ A', AskedOk d) ∧ A'.length = A.length + 2 := by
  obtain ⟨v, b1, e1, hb1, v0, v1⟩ := draw_ok hb (below := 61 - n) (by omega) (by omega)
  obtain ⟨w, rfl⟩ := Int.eq_ofNat_of_zero_le v0
  have hm : n + w ≤ 61 := by omega
  have hmI : (n : Int) + (w : Int) = ((n + w : Nat) : Int) := by omega
  obtain ⟨b2, A2, x1, x2, x3, s1, hb2, hA2, hl2⟩ := pairs_body hb1 (n := n) hm (by omega) hne hrl hr hA (by omega) (some (.int 0)) none none none
  obtain ⟨b3, A3, y1, y2, y3, s2, hb3, hA3, hl3⟩ := pairs_body hb2 (n := n) hm (by omega) hne hrl hr hA2 (by omega) (some (.int 1)) x1 x2 x3
  refine ⟨b3, A3, ?_, hb3, hA3, by omega⟩
  have t1 := pows_slice n (by omega) (e := [some b, some (.int n), some (.lst true (natsD row)), some (.lst true A), none, none, none, none, none, none, none]) rfl
  have t2 := downs_of n (e := [some b, some (.int n), some (.lst true (natsD row)), some (.lst true A), some (.lst true ((pows n).map D.int)), none, none, none, none, none, none]) rfl
  generalize (pows n).map D.int = L at *
  generalize dpows n = DN at *
  generalize natsD row = R at *
  generalize ((n + w : Nat) : Int) = M at *
  generalize (n : Int) = N at *
  have t3 : mCall M__law_draw [.nm 0, .vl (mB dSub [.vl (mC (.int 61)), .nm 1])] [some b, some (.int N), some (.lst true R), some (.lst true A), some (.lst true L), none, none, none, none, none, none] = some (.ok (.int w) [some b1, some (.int N), some (.lst true R), some (.lst true A), some (.lst true L), none, none, none, none, none, none]) := by
    rw [mCall_is (l := [.nm 0, .v (.int (61 - N))]) (e' := [some b, some (.int N), some (.lst true R), some (.lst true A), some (.lst true L), none, none, none, none, none, none]) (ds := [b, .int (61 - N)]) (by simp) (by simp) (by simp [hb.top]) rfl e1 rfl]
    simp [hb.top]
  refine mF_rt (e := [some b3, some (.int N), some (.lst true R), some (.lst true A3), some (.lst true L), some (.lst true DN), some (.int M), some (.int 1), y1, y2, y3]) rfl ?_
  show S__law_is_pairs_turn_right [some b, some (.int N), some (.lst true R), some (.lst true A), none, none, none, none, none, none, none] = _
  unfold S__law_is_pairs_turn_right
  refine (sSeq_nx (e' := [some b, some (.int N), some (.lst true R), some (.lst true A), some (.lst true L), none, none, none, none, none, none]) (sSet_ok t1)).trans ?_
  refine (sSeq_nx (e' := [some b1, some (.int N), some (.lst true R), some (.lst true A), some (.lst true L), some (.lst true DN), some (.int M), none, none, none, none]) ?_).trans ?_
  · simp [-ev_mB, t2, ev_sPar]
    simp [t3, hmI]
  · refine (sSeq_nx (e' := [some b3, some (.int N), some (.lst true R), some (.lst true A3), some (.lst true L), some (.lst true DN), some (.int M), some (.int 1), y1, y2, y3]) ?_).trans (by simp)
    refine (sFor_ok (av := [.v (.int 2)]) (e' := [some b1, some (.int N), some (.lst true R), some (.lst true A), some (.lst true L), some (.lst true DN), some (.int M), none, none, none, none]) (ds := [.int 2]) (items := [.int 0, .int 1]) rfl rfl rfl).trans ?_
    refine (forL_nx (ok := fun e => resolves e [.v (.int 2)] = some [.int 2]) rfl rfl s1).trans ?_
    refine (forL_nx (ok := fun e => resolves e [.v (.int 2)] = some [.int 2]) rfl rfl s2).trans ?_
    exact forL_nil rfl
end W_losesone_k03_whole_letter_products

set_option Elab.async false
set_option autoImplicit false
set_option linter.all false
set_option maxRecDepth 100000
namespace W_losesone_k03_whole_letter_products
open PySem PySem.Spec PyProof.Rows L2 Ow

/-! ### sums of bits -/
theorem ofB_or {P Q : Nat → Bool} : ∀ {n : Nat}, (∀ f, f < n → ¬ (P f = true ∧ Q f = true)) → ofB n P + ofB n Q = ofB n fun f => P f || Q f
  | 0, _ => rfl
  | n + 1, h => by
    have ih := ofB_or (P := P) (Q := Q) (n := n) fun f hf => h f (by omega)
    have hn := h n (by omega)
    have e : ∀ R : Nat → Bool, ofB (n + 1) R = (if R n then ((2 ^ n : Nat) : Int) else 0) + ofB n R := fun _ => rfl
    rw [e, e, e, ← ih]
    cases hp : P n <;> cases hq : Q n <;> simp [hp, hq] at hn ⊢ <;> omega
theorem ofB_sym {P Q : Nat → Bool} : ∀ n : Nat, ofB n P + ofB n Q - 2 * ofB n (fun f => P f && Q f) = ofB n fun f => P f != Q f
  | 0 => rfl
  | n + 1 => by
    have ih := ofB_sym (P := P) (Q := Q) n
    have e : ∀ R : Nat → Bool, ofB (n + 1) R = (if R n then ((2 ^ n : Nat) : Int) else 0) + ofB n R := fun _ => rfl
    rw [e, e, e, e, ← ih]
    cases hp : P n <;> cases hq : Q n <;> simp <;> omega
theorem ofB_one (f : Nat) : ∀ n : Nat, f < n → ofB n (fun k => decide (k = f)) = ((2 ^ f : Nat) : Int)
  | 0, h => by omega
  | n + 1, h => by
    have e : ∀ R : Nat → Bool, ofB (n + 1) R = (if R n then ((2 ^ n : Nat) : Int) else 0) + ofB n R := fun _ => rfl
    rw [e]
    by_cases c : f = n
    · subst c
      have : ofB f (fun k => decide (k = f)) = 0 := by
        have h0 : ∀ m : Nat, ofB m (fun _ => false) = 0 := fun m => by
          induction m with
          | zero => rfl
          | succ m ih => show (if false = true then _ else (0 : Int)) + ofB m _ = 0; rw [ih]; rfl
        rw [ofB_congr (Q := fun _ => false) fun k hk => by simp; omega]
        exact h0 f
      rw [this]; simp
    · rw [ofB_one f n (by omega)]
      have : ¬ n = f := fun z => c z.symm
      simp [this]
theorem ofB_is (P : Nat → Bool) (n : Nat) : ∃ x : Nat, ofB n P = x ∧ x < 2 ^ n ∧ ∀ f, f < n → x.testBit f = P f := by
  induction n with
  | zero => exact ⟨0, rfl, by decide, fun f h => by omega⟩
  | succ n ih =>
    obtain ⟨y, h1, h2, h3⟩ := ih
    have e : ofB (n + 1) P = (if P n then ((2 ^ n : Nat) : Int) else 0) + ofB n P := rfl
    rw [e, h1]
    cases hp : P n with
    | true =>
      refine ⟨2 ^ n + y, by simp, by rw [Nat.pow_succ]; omega, fun f hf => ?_⟩
      by_cases c : f = n
      · subst c
        rw [Nat.testBit_two_pow_add_eq, hp, Nat.testBit_lt_two_pow h2]; rfl
      · rw [Nat.testBit_two_pow_add_gt (by omega)]
        exact h3 f (by omega)
    | false =>
      refine ⟨y, by simp, by rw [Nat.pow_succ]; omega, fun f hf => ?_⟩
      by_cases c : f = n
      · subst c
        rw [hp, Nat.testBit_lt_two_pow h2]
      · exact h3 f (by omega)
theorem and_lt {i j n : Nat} (hi : i < 2 ^ n) : i &&& j < 2 ^ n := Nat.lt_of_le_of_lt Nat.and_le_left hi
theorem xor_val {n i j : Nat} (hi : i < 2 ^ n) (hj : j < 2 ^ n) : (i : Int) + j - 2 * Builtin.bitAnd i j = ofB n (odd [i, j]) := by
  rw [PySem.W.os_band]
  have h1 := ofB_sym (P := i.testBit) (Q := j.testBit) n
  rw [ofB_nat hi, ofB_nat hj] at h1
  have h2 : ofB n (fun f => i.testBit f && j.testBit f) = ((i &&& j : Nat) : Int) := by
    rw [← ofB_nat (and_lt (j := j) hi)]
    exact ofB_congr fun f _ => (Nat.testBit_and ..).symm
  rw [h2] at h1
  rw [h1]
  exact ofB_congr fun f _ => (odd_two i j f).symm
theorem few_more {n few f : Nat} (h1 : few < 2 ^ n) (h2 : f < n) (h3 : few.testBit f = false) : few + 2 ^ f < 2 ^ n := by
  have e := ofB_or (P := few.testBit) (Q := fun k => decide (k = f)) (n := n) fun k hk z => by
    have : k = f := by simpa using z.2
    subst this
    rw [h3] at z
    exact absurd z.1 (by simp)
  rw [ofB_nat h1, ofB_one f n h2] at e
  have := (ofB_lt (fun k => few.testBit k || decide (k = f)) n).2
  rw [← e] at this
  omega

/-! ### draws and picks in place -/
theorem call_draw {b : D} (hb : IsBag b) {below : Int} (h1 : 1 ≤ below) (h2 : below < 18446744073709551616) {u : Ar} {av : AV} {r : Sl} (hu : evA [u] (some b :: r) = some (.ok [av] (some b :: r))) (hr : resolves (some b :: r) [av] = some [.int below]) (hv : av.noPt = true) (hl : lents (some b :: r) [av] = []) :
    ∃ v b', IsBag b' ∧ 0 ≤ v ∧ v < below ∧ mCall M__law_draw [.nm 0, u] (some b :: r) = some (.ok (.int v) (some b' :: r)) := by
  obtain ⟨v, b', e1, hb', v0, v1⟩ := draw_ok hb h1 h2
  refine ⟨v, b', hb', v0, v1, ?_⟩
  have hl2 : lents (some b :: r) [.nm 0, av] = [0] := by rw [ev_lentsn, ev_slot0, hl]; simp [hb.top]
  rw [mCall_is (l := [.nm 0, av]) (e' := some b :: r) (ds := [b, .int below]) (evA_nm rfl hu) (by rw [ev_resn, ev_slot0, Option.bind_some, hr]; rfl) (by rw [hl2]; simp) (by simp [hv]) e1 rfl]
  have ht : (slot (some b :: r) 0).any Ow.top = true := by rw [ev_slot0]; simp [hb.top]
  rw [ev_backRn, if_pos ht]
  cases av with
  | nm i =>
    have : (slot (some b :: r) i).any Ow.top ≠ true := fun z => by rw [ev_lentsn, if_pos z] at hl; cases hl
    rw [ev_backRn, if_neg this, ev_backR0]; rfl
  | pt _ _ => cases hv
  | v d => rw [ev_backRv, ev_backR0]; rfl
theorem call_pickv {b b1 : D} (hb1 : IsBag b1) {is : List Int} (hne : is ≠ []) (hlen : is.length < 16777216) {m : ME} {b0 : D} {r : Sl} (hs : slot (some b0 :: r) 0 = some b0) (hm : m (some b0 :: r) = some (.ok (.lst true (is.map D.int)) (some b1 :: r))) :
    ∃ v b', v ∈ is ∧ IsBag b' ∧ mCall M__law_pick [.nm 0, .vl m] (some b0 :: r) = some (.ok (.int v) (some b' :: r)) := by
  obtain ⟨d, b', hd, e1, hb'⟩ := pick_ok hb1 (o := false) (l := is.map D.int) (by simpa using hne) (low_ints _) (by rw [List.length_map]; exact hlen)
  obtain ⟨v, hv, rfl⟩ := List.mem_map.mp hd
  refine ⟨v, b', hv, hb', ?_⟩
  have ha := evA_vl (us := []) (l := []) hm evA0
  rw [ev_set7, ev_frzi] at ha
  have ht : (slot (some b1 :: r) 0).any Ow.top = true := by rw [ev_slot0]; simp [hb1.top]
  rw [mCall_is (l := [.nm 0, .v (.lst false (is.map D.int))]) (e' := some b1 :: r) (ds := [b1, .lst false (is.map D.int)]) (evA_nm hs ha) rfl (by rw [ev_lentsn, if_pos ht]; simp) rfl e1 rfl]
  rw [ev_backRn, if_pos ht, ev_backRv, ev_backR0]; rfl
end W_losesone_k03_whole_letter_products

set_option Elab.async false
set_option autoImplicit false
set_option linter.all false
set_option maxRecDepth 100000
namespace W_losesone_k03_whole_letter_products
open PySem PySem.Spec PyProof.Rows L2 Ow

/-! ### a letter of the law's own -/
theorem flats_ints : ∀ l : List Int, flats (l.map D.int) = true
  | [] => by unfold flats; rfl
  | x :: l => by rw [List.map_cons]; unfold flats; rw [flats_ints l]; unfold flat; rfl
theorem lst0 (e : Sl) : evA [.vl (mB dLst [.vl (mC (.int 0))])] e = some (.ok [.v (.lst false [.int 0])] e) := by simp
section
variable (N : Int) (Pw R : List D) (F : Option D) (wh w few : Int) (x8 x9 x10 x11 x12 x13 : Option D)
theorem few_step {b : D} (hb : IsBag b) {is : List Int} (hlen : is.length ≤ 1000)
    (hc : mLc (.nm 13) [.vl (mB (dSl false true) [.nm 2, .nm 1])] gSeq [13] (mB dEqA [.vl (mB dAnd [.nm 7, .nm 13]), .vl (mC (.int 0))]) (mNm 13) [some b, some (.int N), some (.lst true Pw), some (.lst true R), F, some (.int wh), some (.int w), some (.int few), x8, x9, x10, x11, x12, x13] =
      some (.ok (.lst true (is.map D.int)) [some b, some (.int N), some (.lst true Pw), some (.lst true R), F, some (.int wh), some (.int w), some (.int few), x8, x9, x10, x11, x12, none])) :
    ∃ v b', (v ∈ is ∨ v = 0) ∧ IsBag b' ∧ B__law_own_letter_1 [some b, some (.int N), some (.lst true Pw), some (.lst true R), F, some (.int wh), some (.int w), some (.int few), x8, x9, x10, x11, x12, x13] =
      some (.nx [some b', some (.int N), some (.lst true Pw), some (.lst true R), F, some (.int wh), some (.int w), some (.int (few + v)), x8, x9, x10, x11, x12, none]) := by
  have ha := evA_vl (us := [.vl (mB dLst [.vl (mC (.int 0))])]) (l := [.v (.lst false [.int 0])]) hc (lst0 _)
  rw [ev_set7, ev_frzi] at ha
  have hd : dAdd [.lst false (is.map D.int), .lst false [.int 0]] = some (.lst true ((is ++ [0]).map D.int)) := by
    show (if flats (is.map D.int) && flats [D.int 0] && decide ((is.map D.int).length + 1 ≤ 16777216) then some (D.lst true (is.map D.int ++ [.int 0])) else none) = _
    have f2 : flats [D.int 0] = true := flats_ints [0]
    have f3 : (is.map D.int).length + 1 ≤ 16777216 := by rw [List.length_map]; omega
    rw [flats_ints, f2, decide_eq_true f3, List.map_append]
    rfl
  have hm := mB_ok (g := dAdd) ha rfl hd
  -- the bag's slot is the first
  have hp : ∃ v b', v ∈ is ++ [0] ∧ IsBag b' ∧ mCall M__law_pick [.nm 0, .vl (mB dAdd [.vl (mLc (.nm 13) [.vl (mB (dSl false true) [.nm 2, .nm 1])] gSeq [13] (mB dEqA [.vl (mB dAnd [.nm 7, .nm 13]), .vl (mC (.int 0))]) (mNm 13)), .vl (mB dLst [.vl (mC (.int 0))])])] [some b, some (.int N), some (.lst true Pw), some (.lst true R), F, some (.int wh), some (.int w), some (.int few), x8, x9, x10, x11, x12, x13] =
      some (.ok (.int v) [some b', some (.int N), some (.lst true Pw), some (.lst true R), F, some (.int wh), some (.int w), some (.int few), x8, x9, x10, x11, x12, none]) := by
    obtain ⟨d, b', hd, e1, hb'⟩ := pick_ok hb (o := false) (l := (is ++ [0]).map D.int) (by simp) (low_ints _) (by rw [List.length_map, List.length_append]; simp only [List.length_cons, List.length_nil]; omega)
    obtain ⟨v, hv, rfl⟩ := List.mem_map.mp hd
    refine ⟨v, b', hv, hb', ?_⟩
    have ha2 := evA_vl (us := []) (l := []) hm evA0
    rw [ev_set7, ev_frzi] at ha2
    generalize (is ++ [0]).map D.int = IS at *
    rw [mCall_is (l := [.nm 0, .v (.lst false IS)]) (e' := [some b, some (.int N), some (.lst true Pw), some (.lst true R), F, some (.int wh), some (.int w), some (.int few), x8, x9, x10, x11, x12, none]) (ds := [b, .lst false IS]) (evA_nm rfl ha2) rfl (by simp [hb.top]) rfl e1 rfl]
    simp [hb.top]
  obtain ⟨v, b', hv, hb', p⟩ := hp
  refine ⟨v, b', (List.mem_append.mp hv).imp id List.mem_singleton.mp, hb', ?_⟩
  unfold B__law_own_letter_1
  refine sSet_ok (d := .int (few + v)) (e' := [some b', some (.int N), some (.lst true Pw), some (.lst true R), F, some (.int wh), some (.int w), some (.int few), x8, x9, x10, x11, x12, none]) (mB_ok (l := [.nm 7, .v (.int v)]) (ds := [.int few, .int v]) (evA_nm rfl (evA_vl p evA0)) rfl rfl)
end
theorem and_zero (few f : Nat) : decide (Builtin.bitAnd (few : Int) ((2 ^ f : Nat) : Int) = 0) = !few.testBit f := by
  have h := and_bit few f
  have h0 : 0 ≤ Builtin.bitAnd (few : Int) ((2 ^ f : Nat) : Int) := by rw [PySem.W.os_band]; omega
  rw [← h]
  by_cases c : Builtin.bitAnd (few : Int) ((2 ^ f : Nat) : Int) = 0
  · rw [decide_eq_true c, c]; rfl
  · rw [decide_eq_false c, decide_eq_true (by omega)]; rfl
theorem few_comp (n few : Nat) (hn : n ≤ 64) (R : List D) (F : Option D) (b : D) (wh w : Int) (x8 x9 x10 x11 x12 x13 : Option D) :
    mLc (.nm 13) [.vl (mB (dSl false true) [.nm 2, .nm 1])] gSeq [13] (mB dEqA [.vl (mB dAnd [.nm 7, .nm 13]), .vl (mC (.int 0))]) (mNm 13) [some b, some (.int n), some (.lst true ((pows (n + 1)).map D.int)), some (.lst true R), F, some (.int wh), some (.int w), some (.int few), x8, x9, x10, x11, x12, x13] =
      some (.ok (.lst true ((((List.range n).filter fun f => !few.testBit f).map fun f : Nat => ((2 ^ f : Nat) : Int)).map D.int)) [some b, some (.int n), some (.lst true ((pows (n + 1)).map D.int)), some (.lst true R), F, some (.int wh), some (.int w), some (.int few), x8, x9, x10, x11, x12, none]) := by
  have hs : dSl false true [.lst true ((pows (n + 1)).map D.int), .int n] = some (.lst true ((pows n).map D.int)) := by
    show (if low ((pows (n + 1)).map D.int) then some (D.lst true (cut ((pows (n + 1)).map D.int) none (some (n : Int)))) else none) = _
    rw [low_ints, if_pos rfl, take_pows]
  have hlow := low_ints (pows n)
  have hpl : ((pows n).map D.int).length ≤ 16777216 := by rw [List.length_map]; unfold pows; rw [List.length_map, List.length_range]; omega
  have hset : settle (.lst true ((pows n).map D.int)) = .lst false ((pows n).map D.int) := by rw [ev_set7, ev_frzi]
  have hpn := pows_nat n
  generalize (pows (n + 1)).map D.int = P1 at *
  generalize hP0 : (pows n).map D.int = P0 at *
  refine mLc_ok (av := [.v (.lst false P0)]) (e' := [some b, some (.int n), some (.lst true P1), some (.lst true R), F, some (.int wh), some (.int w), some (.int few), x8, x9, x10, x11, x12, x13]) (ds := [.lst false P0]) (items := P0) ?_ rfl (by show (if low _ then _ else _) = _; rw [hlow]; rfl) hpl ?_
  · exact evA_B (l := [.nm 2, .nm 1]) (evA_nm rfl (evA_nm rfl evA0)) rfl hs hset evA0
  · have hp := lcL_pure (t := .nm 13) (c := mB dEqA [.vl (mB dAnd [.nm 7, .nm 13]), .vl (mC (.int 0))]) (y := mNm 13) (vs := [13]) (ok := fun e => resolves e [.v (.lst false P0)] = some [.lst false P0]) (e := [some b, some (.int n), some (.lst true P1), some (.lst true R), F, some (.int wh), some (.int w), some (.int few), x8, x9, x10, x11, x12, none])
      (fun d => match d with | .int h => decide (Builtin.bitAnd (few : Int) h = 0) | _ => false) (fun d => d) rfl (l := P0) fun d hd => by
        rw [hpn] at hd
        obtain ⟨f, _, rfl⟩ := List.mem_map.mp hd
        exact ⟨[some b, some (.int n), some (.lst true P1), some (.lst true R), F, some (.int wh), some (.int w), some (.int few), x8, x9, x10, x11, x12, some (.int ((2 ^ f : Nat) : Int))], [some b, some (.int n), some (.lst true P1), some (.lst true R), F, some (.int wh), some (.int w), some (.int few), x8, x9, x10, x11, x12, some (.int ((2 ^ f : Nat) : Int))], rfl, rfl, fun _ => rfl, fun _ => ⟨_, rfl, rfl⟩⟩
    refine hp.trans ?_
    rw [hpn, List.filter_map, List.map_map, List.map_map]
    have e1 : ((fun d => match d with | .int h => decide (Builtin.bitAnd (few : Int) h = 0) | _ => false) ∘ fun f : Nat => D.int ((2 ^ f : Nat) : Int)) = fun f => !few.testBit f := funext fun f => and_zero few f
    rw [e1]
    rfl
end W_losesone_k03_whole_letter_products

set_option Elab.async false
set_option autoImplicit false
set_option linter.all false
set_option maxRecDepth 100000
namespace W_losesone_k03_whole_letter_products
open PySem PySem.Spec PyProof.Rows L2 Ow

theorem atI_pows {n v : Nat} (h : v < n + 1) : atI ((pows (n + 1)).map D.int) (v : Int) = some (.int ((2 ^ v : Nat) : Int)) := by
  refine atI_at ?_
  rw [pows_nat, List.getElem?_map, List.getElem?_range h]
  rfl
/-- the loop that adds powers -/
theorem few_loop {b : D} (hb : IsBag b) {n few : Nat} (hn : n ≤ 64) (hf : few < 2 ^ n) (c : Nat) (R : List D) (F : Option D) (wh w : Int) (x8 x9 x10 x11 x12 x13 : Option D) {ok : Sl → Prop} (hok : ∀ e, ok e) : ∃ (few' : Nat) (b' : D) (y8 y13 : Option D), few' < 2 ^ n ∧ IsBag b' ∧
    forL (.nm 8) B__law_own_letter_1 ok ((List.range c).map fun k => .int (k : Nat)) [some b, some (.int n), some (.lst true ((pows (n + 1)).map D.int)), some (.lst true R), F, some (.int wh), some (.int w), some (.int few), x8, x9, x10, x11, x12, x13] =
      some (.nx [some b', some (.int n), some (.lst true ((pows (n + 1)).map D.int)), some (.lst true R), F, some (.int wh), some (.int w), some (.int few'), y8, x9, x10, x11, x12, y13]) := by
  obtain ⟨e', h1, few', b', y8, y13, h2, h3, rfl⟩ := forL_range (i := 8) (b := B__law_own_letter_1) (ok := ok) (e := [some b, some (.int n), some (.lst true ((pows (n + 1)).map D.int)), some (.lst true R), F, some (.int wh), some (.int w), some (.int few), x8, x9, x10, x11, x12, x13]) (f := fun k => (k : Int)) (n := c)
    (fun _ e => ∃ (few' : Nat) (b' : D) (y8 y13 : Option D), few' < 2 ^ n ∧ IsBag b' ∧ e = [some b', some (.int n), some (.lst true ((pows (n + 1)).map D.int)), some (.lst true R), F, some (.int wh), some (.int w), some (.int few'), y8, x9, x10, x11, x12, y13])
    ⟨few, b, x8, x13, hf, hb, rfl⟩ (fun _ e _ _ => hok e) (by
      rintro k e hk ⟨few1, b1, y8, y13, hf1, hb1, rfl⟩
      have hc := few_comp n few1 hn R F b1 wh w (some (.int k)) x9 x10 x11 x12 y13
      obtain ⟨v, b2, hv, hb2, hs⟩ := few_step n ((pows (n + 1)).map D.int) R F wh w few1 (some (.int k)) x9 x10 x11 x12 y13 hb1 (by rw [List.length_map]; exact Nat.le_trans (List.length_filter_le _ _) (by rw [List.length_range]; omega)) hc
      have hv2 : ∃ few2 : Nat, (few1 : Int) + v = few2 ∧ few2 < 2 ^ n := by
        rcases hv with hv | rfl
        · obtain ⟨f, hf, rfl⟩ := List.mem_map.mp hv
          obtain ⟨hf2, hf3⟩ := List.mem_filter.mp hf
          exact ⟨few1 + 2 ^ f, by omega, few_more hf1 (List.mem_range.mp hf2) (by simpa using hf3)⟩
        · exact ⟨few1, by omega, hf1⟩
      obtain ⟨few2, e2, hf2⟩ := hv2
      rw [e2] at hs
      exact ⟨_, hs, few2, b2, _, _, hf2, hb2, rfl⟩)
  exact ⟨few', b', y8, y13, h2, h3, h1⟩
def Good (n : Nat) (R : List D) (F : Option D) (r : Option SR) : Prop := ∃ (x : Nat) (b' : D) (t : Sl), x < 2 ^ n ∧ IsBag b' ∧ r = some (.rt (.int x) (some b' :: some (.int n) :: some (.lst true ((pows (n + 1)).map D.int)) :: some (.lst true R) :: F :: t))
theorem sub_step (wh few : Int) (w : Int) (e0 e1 e2 e3 e4 e8 e9 e10 e11 e12 e13 : Option D) : sRt (mIf (mB dLt [.nm 6, .vl (mC (.int 4))]) (mMv 7) (mB dSub [.nm 5, .nm 7])) [e0, e1, e2, e3, e4, some (.int wh), some (.int w), some (.int few), e8, e9, e10, e11, e12, e13] =
    some (.rt (.int (if w < 4 then few else wh - few)) [e0, e1, e2, e3, e4, some (.int wh), some (.int w), some (.int few), e8, e9, e10, e11, e12, e13]) := by
  by_cases c : w < 4 <;> simp [c]
theorem few_branch {b : D} (hb : IsBag b) {n : Nat} (hn : n ≤ 64) (h0 : 0 < n) (R : List D) (F : Option D) (w : Int) : Good n R F
    ((sSeq (sSet 7 (mB dIx [.nm 2, .vl (mCall M__law_draw [.nm 0, .nm 1])]))
      (sSeq (sFor (.nm 8) [.vl (mIf (mB dGt [.nm 6, .vl (mC (.int 2))]) (mCall M__law_draw [.nm 0, .vl (mC (.int 4))]) (mC (.int 0)))] gRng1 B__law_own_letter_1)
      (sRt (mIf (mB dLt [.nm 6, .vl (mC (.int 4))]) (mMv 7) (mB dSub [.nm 5, .nm 7]))))) [some b, some (.int n), some (.lst true ((pows (n + 1)).map D.int)), some (.lst true R), F, some (.int ((2 ^ n - 1 : Nat) : Int)), some (.int w), none, none, none, none, none, none, none]) := by
  obtain ⟨v, b1, hb1, v0, v1, p1⟩ := call_draw hb (below := n) (by omega) (by omega) (u := .nm 1) (av := .nm 1) (r := [some (.int n), some (.lst true ((pows (n + 1)).map D.int)), some (.lst true R), F, some (.int ((2 ^ n - 1 : Nat) : Int)), some (.int w), none, none, none, none, none, none, none]) rfl rfl rfl rfl
  obtain ⟨v, rfl⟩ := Int.eq_ofNat_of_zero_le v0
  have hv : v < n := by omega
  have hat := atI_pows (n := n) (v := v) (by omega)
  have hfew : 2 ^ v < 2 ^ n := Nat.pow_lt_pow_right (by decide) hv
  have q1 : sSet 7 (mB dIx [.nm 2, .vl (mCall M__law_draw [.nm 0, .nm 1])]) [some b, some (.int n), some (.lst true ((pows (n + 1)).map D.int)), some (.lst true R), F, some (.int ((2 ^ n - 1 : Nat) : Int)), some (.int w), none, none, none, none, none, none, none] =
      some (.nx [some b1, some (.int n), some (.lst true ((pows (n + 1)).map D.int)), some (.lst true R), F, some (.int ((2 ^ n - 1 : Nat) : Int)), some (.int w), some (.int ((2 ^ v : Nat) : Int)), none, none, none, none, none, none]) := by
    refine sSet_ok (e' := [some b1, some (.int n), some (.lst true ((pows (n + 1)).map D.int)), some (.lst true R), F, some (.int ((2 ^ n - 1 : Nat) : Int)), some (.int w), none, none, none, none, none, none, none]) (mB_ok (l := [.nm 2, .v (.int v)]) (ds := [.lst true ((pows (n + 1)).map D.int), .int v]) (evA_nm rfl (evA_vl p1 evA0)) rfl ?_)
    show (atI _ _).bind notTop = _
    rw [hat]; rfl
  have q2 : ∃ (c : Nat) (b2 : D), c ≤ 4 ∧ IsBag b2 ∧ evA [.vl (mIf (mB dGt [.nm 6, .vl (mC (.int 2))]) (mCall M__law_draw [.nm 0, .vl (mC (.int 4))]) (mC (.int 0)))] [some b1, some (.int n), some (.lst true ((pows (n + 1)).map D.int)), some (.lst true R), F, some (.int ((2 ^ n - 1 : Nat) : Int)), some (.int w), some (.int ((2 ^ v : Nat) : Int)), none, none, none, none, none, none] =
      some (.ok [.v (.int c)] [some b2, some (.int n), some (.lst true ((pows (n + 1)).map D.int)), some (.lst true R), F, some (.int ((2 ^ n - 1 : Nat) : Int)), some (.int w), some (.int ((2 ^ v : Nat) : Int)), none, none, none, none, none, none]) := by
    have ht : ∀ x : Sl, slot x 6 = some (.int w) → mB dGt [.nm 6, .vl (mC (.int 2))] x = some (.ok (.bl (decide (2 < w))) x) := fun x hx => mB_ok (l := [.nm 6, .v (.int 2)]) (ds := [.int w, .int 2]) (evA_nm hx (evA_vl (d := .int 2) rfl evA0)) (by rw [ev_resn, hx]; rfl) rfl
    by_cases c2 : 2 < w
    · obtain ⟨c, b2, hb2, c0, c1, p2⟩ := call_draw hb1 (below := 4) (by decide) (by decide) (u := .vl (mC (.int 4))) (av := .v (.int 4)) (r := [some (.int n), some (.lst true ((pows (n + 1)).map D.int)), some (.lst true R), F, some (.int ((2 ^ n - 1 : Nat) : Int)), some (.int w), some (.int ((2 ^ v : Nat) : Int)), none, none, none, none, none, none]) rfl rfl rfl rfl
      obtain ⟨c, rfl⟩ := Int.eq_ofNat_of_zero_le c0
      refine ⟨c, b2, by omega, hb2, evA_vl (d := .int c) ((mIf_t ((ht _ rfl).trans ?_)).trans p2) evA0⟩
      rw [decide_eq_true c2]
    · refine ⟨0, b1, by omega, hb1, evA_vl (d := .int 0) ((mIf_f ((ht _ rfl).trans ?_)).trans rfl) evA0⟩
      rw [decide_eq_false c2]
  obtain ⟨c, b2, hc, hb2, q2⟩ := q2
  obtain ⟨few', b3, y8, y13, hf3, hb3, q3⟩ := few_loop hb2 hn hfew c R F ((2 ^ n - 1 : Nat) : Int) w none none none none none none (ok := fun e => resolves e [.v (.int c)] = some [.int c]) (fun _ => rfl)
  have hg : gRng1 [.int c] = some ((List.range c).map fun k => .int (k : Nat)) := by
    show (if sml (c : Int) then some ((List.range (c : Int).toNat).map fun i => D.int (i : Nat)) else none) = _
    have : sml (c : Int) = true := by unfold sml; rw [decide_eq_true (by omega), decide_eq_true (by omega)]; rfl
    rw [if_pos this]; rfl
  have q4 := sub_step ((2 ^ n - 1 : Nat) : Int) few' w (some b3) (some (.int n)) (some (.lst true ((pows (n + 1)).map D.int))) (some (.lst true R)) F y8 none none none none y13
  have hx : ∃ x : Nat, (if w < 4 then (few' : Int) else ((2 ^ n - 1 : Nat) : Int) - few') = x ∧ x < 2 ^ n := by
    by_cases c4 : w < 4
    · exact ⟨few', by rw [if_pos c4], hf3⟩
    · exact ⟨2 ^ n - 1 - few', by rw [if_neg c4]; omega, by omega⟩
  obtain ⟨x, hx, hxl⟩ := hx
  rw [hx] at q4
  refine ⟨x, b3, [some (.int ((2 ^ n - 1 : Nat) : Int)), some (.int w), some (.int few'), y8, none, none, none, none, y13], hxl, hb3, ?_⟩
  refine (sSeq_nx q1).trans ?_
  refine (sSeq_nx ((sFor_ok q2 rfl hg).trans q3)).trans ?_
  exact q4
end W_losesone_k03_whole_letter_products

set_option Elab.async false
set_option autoImplicit false
set_option linter.all false
set_option maxRecDepth 100000
namespace W_losesone_k03_whole_letter_products
open PySem PySem.Spec PyProof.Rows L2 Ow

theorem call_pick3 {b : D} (hb : IsBag b) {R : List D} (hne : R ≠ []) (hlow : low R = true) (hlen : R.length < 16777216) (x1 x2 : Option D) (r : Sl) : ∃ d b', d ∈ R ∧ IsBag b' ∧
    mCall M__law_pick [.nm 0, .nm 3] (some b :: x1 :: x2 :: some (.lst true R) :: r) = some (.ok d (some b' :: x1 :: x2 :: some (.lst true R) :: r)) := by
  obtain ⟨d, b', hd, e1, hb'⟩ := pick_ok hb (o := true) hne hlow hlen
  refine ⟨d, b', hd, hb', ?_⟩
  rw [mCall_is (l := [.nm 0, .nm 3]) (e' := some b :: x1 :: x2 :: some (.lst true R) :: r) (ds := [b, .lst true R]) (by simp) (by simp) (by simp [hb.top]) rfl e1 rfl]
  simp [hb.top]
section
variable (b b1 b2 : D) (N wh w o p x q : Int) (Pw R : List D) (F : Option D)
theorem row_a (p1 : mCall M__law_pick [.nm 0, .nm 3] [some b, some (.int N), some (.lst true Pw), some (.lst true R), F, some (.int wh), some (.int w), none, none, none, none, none, none, none] = some (.ok (.int o) [some b1, some (.int N), some (.lst true Pw), some (.lst true R), F, some (.int wh), some (.int w), none, none, none, none, none, none, none]))
    (p2 : atI Pw (N - 1) = some (.int p)) : sPar [9, 10] [(mCall M__law_pick [.nm 0, .nm 3]), (mB dIx [.nm 2, .vl (mB dSub [.nm 1, .vl (mC (.int 1))])])] [some b, some (.int N), some (.lst true Pw), some (.lst true R), F, some (.int wh), some (.int w), none, none, none, none, none, none, none] =
    some (.nx [some b1, some (.int N), some (.lst true Pw), some (.lst true R), F, some (.int wh), some (.int w), none, none, some (.int o), some (.int p), none, none, none]) := by
  simp [p1, p2]
theorem row_5 (h : w = 5) : (sSeq (sIf (mB dEqA [.nm 6, .vl (mC (.int 5))]) (sRt (mMv 9)) sNx) (sSeq (sIf (mB dEqA [.nm 6, .vl (mC (.int 6))]) (sRt (mIf (mB dGe [.nm 9, .nm 10]) (mB dSub [.nm 9, .nm 10]) (mB dAdd [.nm 9, .nm 10]))) sNx)
    (sRt (mCall M__law_xor [.nm 9, .vl (mCall M__law_pick [.nm 0, .nm 3])])))) [some b1, some (.int N), some (.lst true Pw), some (.lst true R), F, some (.int wh), some (.int w), none, none, some (.int o), some (.int p), none, none, none] =
    some (.rt (.int o) [some b1, some (.int N), some (.lst true Pw), some (.lst true R), F, some (.int wh), some (.int w), none, none, some (.int o), some (.int p), none, none, none]) := by
  simp [h]
theorem row_6 (h : w = 6) : (sSeq (sIf (mB dEqA [.nm 6, .vl (mC (.int 5))]) (sRt (mMv 9)) sNx) (sSeq (sIf (mB dEqA [.nm 6, .vl (mC (.int 6))]) (sRt (mIf (mB dGe [.nm 9, .nm 10]) (mB dSub [.nm 9, .nm 10]) (mB dAdd [.nm 9, .nm 10]))) sNx)
    (sRt (mCall M__law_xor [.nm 9, .vl (mCall M__law_pick [.nm 0, .nm 3])])))) [some b1, some (.int N), some (.lst true Pw), some (.lst true R), F, some (.int wh), some (.int w), none, none, some (.int o), some (.int p), none, none, none] =
    some (.rt (.int (if p ≤ o then o - p else o + p)) [some b1, some (.int N), some (.lst true Pw), some (.lst true R), F, some (.int wh), some (.int w), none, none, some (.int o), some (.int p), none, none, none]) := by
  by_cases c : p ≤ o <;> simp [h, c]
theorem row_x (h5 : ¬ w = 5) (h6 : ¬ w = 6) (p1 : mCall M__law_pick [.nm 0, .nm 3] [some b1, some (.int N), some (.lst true Pw), some (.lst true R), F, some (.int wh), some (.int w), none, none, some (.int o), some (.int p), none, none, none] = some (.ok (.int q) [some b2, some (.int N), some (.lst true Pw), some (.lst true R), F, some (.int wh), some (.int w), none, none, some (.int o), some (.int p), none, none, none])) : (sSeq (sIf (mB dEqA [.nm 6, .vl (mC (.int 5))]) (sRt (mMv 9)) sNx) (sSeq (sIf (mB dEqA [.nm 6, .vl (mC (.int 6))]) (sRt (mIf (mB dGe [.nm 9, .nm 10]) (mB dSub [.nm 9, .nm 10]) (mB dAdd [.nm 9, .nm 10]))) sNx)
    (sRt (mCall M__law_xor [.nm 9, .vl (mCall M__law_pick [.nm 0, .nm 3])])))) [some b1, some (.int N), some (.lst true Pw), some (.lst true R), F, some (.int wh), some (.int w), none, none, some (.int o), some (.int p), none, none, none] =
    some (.rt (.int (o + q - 2 * Builtin.bitAnd o q)) [some b2, some (.int N), some (.lst true Pw), some (.lst true R), F, some (.int wh), some (.int w), none, none, some (.int o), some (.int p), none, none, none]) := by
  have c : mCall M__law_xor [.nm 9, .vl (mCall M__law_pick [.nm 0, .nm 3])] [some b1, some (.int N), some (.lst true Pw), some (.lst true R), F, some (.int wh), some (.int w), none, none, some (.int o), some (.int p), none, none, none] = some (.ok (.int (o + q - 2 * Builtin.bitAnd o q)) [some b2, some (.int N), some (.lst true Pw), some (.lst true R), F, some (.int wh), some (.int w), none, none, some (.int o), some (.int p), none, none, none]) := by
    rw [mCall_is (l := [.nm 9, .v (.int q)]) (e' := [some b2, some (.int N), some (.lst true Pw), some (.lst true R), F, some (.int wh), some (.int w), none, none, some (.int o), some (.int p), none, none, none]) (ds := [.int o, .int q]) (evA_nm rfl (evA_vl p1 evA0)) rfl (by simp) rfl (xor_ok o q) rfl]
    simp
  simp [h5, h6, c]
end
theorem row_branch {b : D} (hb : IsBag b) {n : Nat} (hn : n ≤ 64) (h0 : 0 < n) {row : List Nat} (hne : row ≠ []) (hrl : row.length ≤ 1000) (hr : ∀ x ∈ row, x < 2 ^ n) (F : Option D) (w : Int) : Good n (natsD row) F
    ((sSeq (sPar [9, 10] [(mCall M__law_pick [.nm 0, .nm 3]), (mB dIx [.nm 2, .vl (mB dSub [.nm 1, .vl (mC (.int 1))])])])
      (sSeq (sIf (mB dEqA [.nm 6, .vl (mC (.int 5))]) (sRt (mMv 9)) sNx) (sSeq (sIf (mB dEqA [.nm 6, .vl (mC (.int 6))]) (sRt (mIf (mB dGe [.nm 9, .nm 10]) (mB dSub [.nm 9, .nm 10]) (mB dAdd [.nm 9, .nm 10]))) sNx)
    (sRt (mCall M__law_xor [.nm 9, .vl (mCall M__law_pick [.nm 0, .nm 3])]))))) [some b, some (.int n), some (.lst true ((pows (n + 1)).map D.int)), some (.lst true (natsD row)), F, some (.int ((2 ^ n - 1 : Nat) : Int)), some (.int w), none, none, none, none, none, none, none]) := by
  have hne2 : natsD row ≠ [] := by unfold natsD; simpa using hne
  have hlen : (natsD row).length < 16777216 := by unfold natsD; rw [List.length_map]; omega
  obtain ⟨d1, b1, hd1, hb1, p1⟩ := call_pick3 hb hne2 (low_nats row) hlen (some (.int n)) (some (.lst true ((pows (n + 1)).map D.int))) [F, some (.int ((2 ^ n - 1 : Nat) : Int)), some (.int w), none, none, none, none, none, none, none]
  obtain ⟨o, ho, rfl⟩ := List.mem_map.mp hd1
  have hol := hr o ho
  have hat := atI_pows (n := n) (v := n - 1) (by omega)
  have e1 : ((n - 1 : Nat) : Int) = (n : Int) - 1 := by omega
  rw [e1] at hat
  have q1 := row_a b b1 n ((2 ^ n - 1 : Nat) : Int) w o ((2 ^ (n - 1) : Nat) : Int) ((pows (n + 1)).map D.int) (natsD row) F p1 hat
  have hpow : 2 ^ n = 2 * 2 ^ (n - 1) := by
    obtain ⟨m, rfl⟩ : ∃ m, n = m + 1 := ⟨n - 1, by omega⟩
    rw [Nat.pow_succ, Nat.add_sub_cancel]; omega
  by_cases h5 : w = 5
  · exact ⟨o, b1, _, hol, hb1, (sSeq_nx q1).trans (row_5 b1 n _ w o _ _ _ F h5)⟩
  · by_cases h6 : w = 6
    · have q2 := row_6 b1 n ((2 ^ n - 1 : Nat) : Int) w o ((2 ^ (n - 1) : Nat) : Int) ((pows (n + 1)).map D.int) (natsD row) F h6
      have hx : ∃ x : Nat, (if ((2 ^ (n - 1) : Nat) : Int) ≤ (o : Int) then (o : Int) - ((2 ^ (n - 1) : Nat) : Int) else (o : Int) + ((2 ^ (n - 1) : Nat) : Int)) = x ∧ x < 2 ^ n := by
        by_cases c : ((2 ^ (n - 1) : Nat) : Int) ≤ (o : Int)
        · exact ⟨o - 2 ^ (n - 1), by rw [if_pos c]; omega, by omega⟩
        · exact ⟨o + 2 ^ (n - 1), by rw [if_neg c]; omega, by omega⟩
      obtain ⟨x, hx, hxl⟩ := hx
      rw [hx] at q2
      exact ⟨x, b1, _, hxl, hb1, (sSeq_nx q1).trans q2⟩
    · obtain ⟨d2, b2, hd2, hb2, p2⟩ := call_pick3 hb1 hne2 (low_nats row) hlen (some (.int n)) (some (.lst true ((pows (n + 1)).map D.int))) [F, some (.int ((2 ^ n - 1 : Nat) : Int)), some (.int w), none, none, some (.int o), some (.int ((2 ^ (n - 1) : Nat) : Int)), none, none, none]
      obtain ⟨q, hq, rfl⟩ := List.mem_map.mp hd2
      have q2 := row_x b1 b2 n ((2 ^ n - 1 : Nat) : Int) w o ((2 ^ (n - 1) : Nat) : Int) q ((pows (n + 1)).map D.int) (natsD row) F h5 h6 p2
      rw [xor_val hol (hr q hq)] at q2
      obtain ⟨x, hx, hxl, _⟩ := ofB_is (odd [o, q]) n
      rw [hx] at q2
      exact ⟨x, b2, _, hxl, hb2, (sSeq_nx q1).trans q2⟩
section
variable (b b1 b2 b3 : D) (N wh w h l d p : Int) (Pw R : List D) (F : Option D)
theorem free_step (p1 : mCall M__law_draw [.nm 0, .vl (mB dPow [.vl (mC (.int 2)), .vl (mC (.int 20))])] [some b, some (.int N), some (.lst true Pw), some (.lst true R), F, some (.int wh), some (.int w), none, none, none, none, none, none, none] = some (.ok (.int h) [some b1, some (.int N), some (.lst true Pw), some (.lst true R), F, some (.int wh), some (.int w), none, none, none, none, none, none, none]))
    (p2 : mCall M__law_draw [.nm 0, .vl (mB dPow [.vl (mC (.int 2)), .vl (mC (.int 20))])] [some b1, some (.int N), some (.lst true Pw), some (.lst true R), F, some (.int wh), some (.int w), none, none, none, none, none, none, none] = some (.ok (.int l) [some b2, some (.int N), some (.lst true Pw), some (.lst true R), F, some (.int wh), some (.int w), none, none, none, none, none, none, none]))
    (p3 : mCall M__law_draw [.nm 0, .vl (mB dPow [.vl (mC (.int 2)), .vl (mC (.int 20))])] [some b2, some (.int N), some (.lst true Pw), some (.lst true R), F, some (.int wh), some (.int w), none, none, none, none, some (.int h), some (.int l), none] = some (.ok (.int d) [some b3, some (.int N), some (.lst true Pw), some (.lst true R), F, some (.int wh), some (.int w), none, none, none, none, some (.int h), some (.int l), none]))
    (f1 : fitsMul h 1048576 = true) (f2 : fitsMul (h * 1048576 + l) 1048576 = true) (hp : 0 < p) (hat : atI Pw N = some (.int p)) :
    (sSeq (sPar [11, 12] [(mCall M__law_draw [.nm 0, .vl (mB dPow [.vl (mC (.int 2)), .vl (mC (.int 20))])]), (mCall M__law_draw [.nm 0, .vl (mB dPow [.vl (mC (.int 2)), .vl (mC (.int 20))])])])
  (sRt (mB dMod [.vl (mB dInt [.vl (mB dAdd [.vl (mB dMulA [.vl (mB dAdd [.vl (mB dMulA [.nm 11, .vl (mB dPow [.vl (mC (.int 2)), .vl (mC (.int 20))])]), .nm 12]), .vl (mB dPow [.vl (mC (.int 2)), .vl (mC (.int 20))])]), .vl (mCall M__law_draw [.nm 0, .vl (mB dPow [.vl (mC (.int 2)), .vl (mC (.int 20))])])])]), .vl (mB dIx [.nm 2, .nm 1])]))) [some b, some (.int N), some (.lst true Pw), some (.lst true R), F, some (.int wh), some (.int w), none, none, none, none, none, none, none] =
    some (.rt (.int (((h * 1048576 + l) * 1048576 + d) % p)) [some b3, some (.int N), some (.lst true Pw), some (.lst true R), F, some (.int wh), some (.int w), none, none, none, none, some (.int h), some (.int l), none]) := by
  simp [p1, p2, p3, f1, f2, hp, hat]
end
theorem free_branch {b : D} (hb : IsBag b) {n : Nat} (hn : n ≤ 64) (R : List D) (F : Option D) (w : Int) : Good n R F
    ((sSeq (sPar [11, 12] [(mCall M__law_draw [.nm 0, .vl (mB dPow [.vl (mC (.int 2)), .vl (mC (.int 20))])]), (mCall M__law_draw [.nm 0, .vl (mB dPow [.vl (mC (.int 2)), .vl (mC (.int 20))])])])
  (sRt (mB dMod [.vl (mB dInt [.vl (mB dAdd [.vl (mB dMulA [.vl (mB dAdd [.vl (mB dMulA [.nm 11, .vl (mB dPow [.vl (mC (.int 2)), .vl (mC (.int 20))])]), .nm 12]), .vl (mB dPow [.vl (mC (.int 2)), .vl (mC (.int 20))])]), .vl (mCall M__law_draw [.nm 0, .vl (mB dPow [.vl (mC (.int 2)), .vl (mC (.int 20))])])])]), .vl (mB dIx [.nm 2, .nm 1])]))) [some b, some (.int n), some (.lst true ((pows (n + 1)).map D.int)), some (.lst true R), F, some (.int ((2 ^ n - 1 : Nat) : Int)), some (.int w), none, none, none, none, none, none, none]) := by
  have hu : ∀ e : Sl, evA [.vl (mB dPow [.vl (mC (.int 2)), .vl (mC (.int 20))])] e = some (.ok [.v (.int 1048576)] e) := fun e => by simp
  obtain ⟨h, b1, hb1, h0, h1, p1⟩ := call_draw hb (below := 1048576) (by decide) (by decide) (u := .vl (mB dPow [.vl (mC (.int 2)), .vl (mC (.int 20))])) (av := .v (.int 1048576)) (r := [some (.int n), some (.lst true ((pows (n + 1)).map D.int)), some (.lst true R), F, some (.int ((2 ^ n - 1 : Nat) : Int)), some (.int w), none, none, none, none, none, none, none]) (hu _) rfl rfl rfl
  obtain ⟨l, b2, hb2, l0, l1, p2⟩ := call_draw hb1 (below := 1048576) (by decide) (by decide) (u := .vl (mB dPow [.vl (mC (.int 2)), .vl (mC (.int 20))])) (av := .v (.int 1048576)) (r := [some (.int n), some (.lst true ((pows (n + 1)).map D.int)), some (.lst true R), F, some (.int ((2 ^ n - 1 : Nat) : Int)), some (.int w), none, none, none, none, none, none, none]) (hu _) rfl rfl rfl
  obtain ⟨d, b3, hb3, d0, d1, p3⟩ := call_draw hb2 (below := 1048576) (by decide) (by decide) (u := .vl (mB dPow [.vl (mC (.int 2)), .vl (mC (.int 20))])) (av := .v (.int 1048576)) (r := [some (.int n), some (.lst true ((pows (n + 1)).map D.int)), some (.lst true R), F, some (.int ((2 ^ n - 1 : Nat) : Int)), some (.int w), none, none, none, none, some (.int h), some (.int l), none]) (hu _) rfl rfl rfl
  have hp : (0 : Int) < ((2 ^ n : Nat) : Int) := by have := Nat.two_pow_pos n; omega
  have q := free_step b b1 b2 b3 n ((2 ^ n - 1 : Nat) : Int) w h l d ((2 ^ n : Nat) : Int) ((pows (n + 1)).map D.int) R F p1 p2 p3 (fitsMul_r (by decide) (by decide)) (fitsMul_r (by decide) (by decide)) hp (atI_pows (by omega))
  obtain ⟨x, hx⟩ := Int.eq_ofNat_of_zero_le (Int.emod_nonneg ((h * 1048576 + l) * 1048576 + d) (Int.ne_of_gt hp))
  have hl := Int.emod_lt_of_pos ((h * 1048576 + l) * 1048576 + d) hp
  rw [hx] at q hl
  exact ⟨x, b3, _, by omega, hb3, q⟩
end W_losesone_k03_whole_letter_products

set_option Elab.async false
set_option autoImplicit false
set_option linter.all false
set_option maxRecDepth 100000
namespace W_losesone_k03_whole_letter_products
open PySem PySem.Spec PyProof.Rows L2 Ow

theorem whole_is {n : Nat} {e : Sl} {P : List D} (h1 : slot e 1 = some (.int n)) (h2 : slot e 2 = some (.lst true P)) (hat : atI P (n : Int) = some (.int ((2 ^ n : Nat) : Int))) : mB dSub [.vl (mB dIx [.nm 2, .nm 1]), .vl (mC (.int 1))] e = some (.ok (.int ((2 ^ n - 1 : Nat) : Int)) e) := by
  have hp := Nat.two_pow_pos n
  have hi : mB dIx [.nm 2, .nm 1] e = some (.ok (.int ((2 ^ n : Nat) : Int)) e) := mB_ok (l := [.nm 2, .nm 1]) (ds := [.lst true P, .int n]) (evA_nm h2 (evA_nm h1 evA0)) (by rw [ev_resn, ev_resn, h1, h2]; rfl) (by show (atI _ _).bind notTop = _; rw [hat]; rfl)
  refine mB_ok (l := [.v (.int ((2 ^ n : Nat) : Int)), .v (.int 1)]) (ds := [.int ((2 ^ n : Nat) : Int), .int 1]) (evA_vl hi (evA_vl (d := .int 1) rfl evA0)) rfl ?_
  rw [ev_sub]
  have : ((2 ^ n : Nat) : Int) - 1 = ((2 ^ n - 1 : Nat) : Int) := by omega
  rw [this]
theorem pick_lst (e : Sl) : mB dLst [.vl (mC (.int 2)), .vl (mC (.int 3)), .vl (mC (.int 3)), .vl (mC (.int 4)), .vl (mC (.int 9)), .vl (mC (.int 9)), .vl (mC (.int 9))] e = some (.ok (.lst true (([2, 3, 3, 4, 9, 9, 9] : List Int).map D.int)) e) :=
  mB_ok (l := [.v (.int 2), .v (.int 3), .v (.int 3), .v (.int 4), .v (.int 9), .v (.int 9), .v (.int 9)]) (ds := [.int 2, .int 3, .int 3, .int 4, .int 9, .int 9, .int 9])
    (evA_vl (d := .int 2) rfl (evA_vl (d := .int 3) rfl (evA_vl (d := .int 3) rfl (evA_vl (d := .int 4) rfl (evA_vl (d := .int 9) rfl (evA_vl (d := .int 9) rfl (evA_vl (d := .int 9) rfl evA0))))))) rfl rfl
theorem stage1 {b : D} (hb : IsBag b) {n : Nat} (hn : n ≤ 64) (R : List D) (fr : Bool) : ∃ (w : Int) (b1 : D), IsBag b1 ∧
    sPar [5, 6] [(mB dSub [.vl (mB dIx [.nm 2, .nm 1]), .vl (mC (.int 1))]), (mIf (mTr (mNm 4)) (mCall M__law_pick [.nm 0, .vl (mB dLst [.vl (mC (.int 2)), .vl (mC (.int 3)), .vl (mC (.int 3)), .vl (mC (.int 4)), .vl (mC (.int 9)), .vl (mC (.int 9)), .vl (mC (.int 9))])]) (mCall M__law_draw [.nm 0, .vl (mC (.int 10))]))]
      [some b, some (.int n), some (.lst true ((pows (n + 1)).map D.int)), some (.lst true R), some (.bl fr), none, none, none, none, none, none, none, none, none] =
    some (.nx [some b1, some (.int n), some (.lst true ((pows (n + 1)).map D.int)), some (.lst true R), some (.bl fr), some (.int ((2 ^ n - 1 : Nat) : Int)), some (.int w), none, none, none, none, none, none, none]) := by
  have q1 := whole_is (n := n) (e := [some b, some (.int n), some (.lst true ((pows (n + 1)).map D.int)), some (.lst true R), some (.bl fr), none, none, none, none, none, none, none, none, none]) rfl rfl (atI_pows (by omega))
  have q2 : ∃ (w : Int) (b1 : D), IsBag b1 ∧ mIf (mTr (mNm 4)) (mCall M__law_pick [.nm 0, .vl (mB dLst [.vl (mC (.int 2)), .vl (mC (.int 3)), .vl (mC (.int 3)), .vl (mC (.int 4)), .vl (mC (.int 9)), .vl (mC (.int 9)), .vl (mC (.int 9))])]) (mCall M__law_draw [.nm 0, .vl (mC (.int 10))])
      [some b, some (.int n), some (.lst true ((pows (n + 1)).map D.int)), some (.lst true R), some (.bl fr), none, none, none, none, none, none, none, none, none] =
      some (.ok (.int w) [some b1, some (.int n), some (.lst true ((pows (n + 1)).map D.int)), some (.lst true R), some (.bl fr), none, none, none, none, none, none, none, none, none]) := by
    generalize (pows (n + 1)).map D.int = P
    generalize (n : Int) = N
    cases fr with
    | true =>
      have hL := pick_lst (some b :: [some (.int N), some (.lst true P), some (.lst true R), some (.bl true), none, none, none, none, none, none, none, none, none])
      obtain ⟨v, b', _, hb', p⟩ := call_pickv (b := b) (b0 := b) (b1 := b) hb (is := [2, 3, 3, 4, 9, 9, 9]) (by decide) (by decide) (m := mB dLst [.vl (mC (.int 2)), .vl (mC (.int 3)), .vl (mC (.int 3)), .vl (mC (.int 4)), .vl (mC (.int 9)), .vl (mC (.int 9)), .vl (mC (.int 9))]) (r := [some (.int N), some (.lst true P), some (.lst true R), some (.bl true), none, none, none, none, none, none, none, none, none]) rfl hL
      exact ⟨v, b', hb', (mIf_t rfl).trans p⟩
    | false =>
      obtain ⟨v, b', hb', _, _, p⟩ := call_draw hb (below := 10) (by decide) (by decide) (u := .vl (mC (.int 10))) (av := .v (.int 10)) (r := [some (.int N), some (.lst true P), some (.lst true R), some (.bl false), none, none, none, none, none, none, none, none, none]) rfl rfl rfl rfl
      exact ⟨v, b', hb', (mIf_f rfl).trans p⟩
  obtain ⟨w, b1, hb1, q2⟩ := q2
  refine ⟨w, b1, hb1, ?_⟩
  rw [ev_sPar, ev_evO, q1, Option.bind_some]
  show (Option.bind ((evO [_] _).bind _) _) = _
  rw [ev_evO, q2]
  rfl
theorem ne_nil (row : List Nat) : dNeA [.lst true (natsD row), .lst false []] = some (.bl (!row.isEmpty)) := by
  have h1 : noDcts (natsD row) = true := by
    unfold natsD
    induction row with
    | nil => rfl
    | cons x l ih => simpa [noDcts, noDct] using ih
  have h2 : PyData.canLayAll0 (pys (natsD row)) = true := by
    unfold natsD
    clear h1
    induction row with
    | nil => rfl
    | cons x l ih => simpa [pys, py, PyData.canLayAll0, PyData.canLay0] using ih
  have h3 : PyData.depthAll (pys (natsD row)) = 0 := by
    unfold natsD
    clear h1 h2
    induction row with
    | nil => rfl
    | cons x l ih => simpa [pys, py, PyData.depthAll, PyData.depth] using ih
  have h4 : PyData.eqvAll (pys (natsD row)) [] = row.isEmpty := by cases row <;> rfl
  have h5 : SeqAt.shaped (.list (pys (natsD row))) = true := by
    unfold SeqAt.shaped PyData.canLay0 PyData.depth
    rw [h2, h3]
    rfl
  show (if noDcts (natsD row) && true && SeqAt.shaped (.list (pys (natsD row))) && true then some (D.bl (!PyData.eqvAll (pys (natsD row)) [])) else none) = _
  rw [h1, h4, h5]
  rfl
section
variable (b : D) (N wh w : Int) (P : List D) (row : List Nat) (F x7 x8 x9 x10 x11 x12 x13 : Option D)
theorem t_zero : mOr (mB dEqA [.nm 1, .vl (mC (.int 0))]) (mB dEqA [.nm 6, .vl (mC (.int 0))]) [some b, some (.int N), some (.lst true P), some (.lst true (natsD row)), F, some (.int wh), some (.int w), x7, x8, x9, x10, x11, x12, x13] = some (.ok (.bl (decide (N = 0 ∨ w = 0))) [some b, some (.int N), some (.lst true P), some (.lst true (natsD row)), F, some (.int wh), some (.int w), x7, x8, x9, x10, x11, x12, x13]) := by
  by_cases h : N = 0
  · simp [h]
  · by_cases h2 : w = 0 <;> simp [h, h2]
theorem t_row : mAnd (mB dNeA [.nm 3, .vl (mB dLst [])]) (mB dLt [.nm 6, .vl (mC (.int 8))]) [some b, some (.int N), some (.lst true P), some (.lst true (natsD row)), F, some (.int wh), some (.int w), x7, x8, x9, x10, x11, x12, x13] = some (.ok (.bl (decide (row ≠ [] ∧ w < 8))) [some b, some (.int N), some (.lst true P), some (.lst true (natsD row)), F, some (.int wh), some (.int w), x7, x8, x9, x10, x11, x12, x13]) := by
  have h := ne_nil row
  cases row with
  | nil => simp at h ⊢; simp [h]
  | cons x l => simp at h ⊢; simp [h]
end
theorem own_letter_ok {b : D} (hb : IsBag b) {n : Nat} (hn : n ≤ 64) {row : List Nat} (hrl : row.length ≤ 1000) (hr : ∀ x ∈ row, x < 2 ^ n) (fr : Bool) : ∃ (x : Nat) (b' : D), x < 2 ^ n ∧ IsBag b' ∧
    M__law_own_letter [b, .int n, .lst true ((pows (n + 1)).map D.int), .lst true (natsD row), .bl fr] = some (.ok (.int x) [some b', some (.int n), some (.lst true ((pows (n + 1)).map D.int)), some (.lst true (natsD row)), some (.bl fr)]) := by
  have hp := Nat.two_pow_pos n
  suffices h : Good n (natsD row) (some (.bl fr)) (S__law_own_letter [some b, some (.int n), some (.lst true ((pows (n + 1)).map D.int)), some (.lst true (natsD row)), some (.bl fr), none, none, none, none, none, none, none, none, none]) by
    obtain ⟨x, b', t, hx, hb', e⟩ := h
    exact ⟨x, b', hx, hb', mF_rt (ds := [b, .int n, .lst true ((pows (n + 1)).map D.int), .lst true (natsD row), .bl fr]) (e := some b' :: some (.int n) :: some (.lst true ((pows (n + 1)).map D.int)) :: some (.lst true (natsD row)) :: some (.bl fr) :: t) rfl e⟩
  obtain ⟨w, b1, hb1, q1⟩ := stage1 hb hn (natsD row) fr
  unfold S__law_own_letter
  rw [sSeq_nx q1]
  have q2 := t_zero b1 n ((2 ^ n - 1 : Nat) : Int) w ((pows (n + 1)).map D.int) row (some (.bl fr)) none none none none none none none
  by_cases c1 : (n : Int) = 0 ∨ w = 0
  · rw [decide_eq_true c1] at q2
    exact ⟨0, b1, _, hp, hb1, sSeq_rt ((sIf_t q2).trans rfl)⟩
  · rw [decide_eq_false c1] at q2
    rw [sSeq_nx ((sIf_f q2).trans rfl)]
    have hn0 : 0 < n := by omega
    have q3 : ∀ (k : Int) (x : Sl), slot x 6 = some (.int w) → mB dEqA [.nm 6, .vl (mC (.int k))] x = some (.ok (.bl (decide (w = k))) x) := fun k x hx => mB_ok (l := [.nm 6, .v (.int k)]) (ds := [.int w, .int k]) (evA_nm hx (evA_vl (d := .int k) rfl evA0)) (by rw [ev_resn, hx]; rfl) rfl
    have q4 : ∀ (k : Int) (x : Sl), slot x 6 = some (.int w) → mB dLt [.nm 6, .vl (mC (.int k))] x = some (.ok (.bl (decide (w < k))) x) := fun k x hx => mB_ok (l := [.nm 6, .v (.int k)]) (ds := [.int w, .int k]) (evA_nm hx (evA_vl (d := .int k) rfl evA0)) (by rw [ev_resn, hx]; rfl) rfl
    by_cases c2 : w = 1
    · have := q3 1 [some b1, some (.int n), some (.lst true ((pows (n + 1)).map D.int)), some (.lst true (natsD row)), some (.bl fr), some (.int ((2 ^ n - 1 : Nat) : Int)), some (.int w), none, none, none, none, none, none, none] rfl
      rw [decide_eq_true c2] at this
      exact ⟨2 ^ n - 1, b1, _, by omega, hb1, sSeq_rt ((sIf_t this).trans rfl)⟩
    · have := q3 1 [some b1, some (.int n), some (.lst true ((pows (n + 1)).map D.int)), some (.lst true (natsD row)), some (.bl fr), some (.int ((2 ^ n - 1 : Nat) : Int)), some (.int w), none, none, none, none, none, none, none] rfl
      rw [decide_eq_false c2] at this
      rw [sSeq_nx ((sIf_f this).trans rfl)]
      have q5 := q4 5 [some b1, some (.int n), some (.lst true ((pows (n + 1)).map D.int)), some (.lst true (natsD row)), some (.bl fr), some (.int ((2 ^ n - 1 : Nat) : Int)), some (.int w), none, none, none, none, none, none, none] rfl
      by_cases c3 : w < 5
      · rw [decide_eq_true c3] at q5
        obtain ⟨x, b', t, hx, hb', e⟩ := few_branch hb1 hn hn0 (natsD row) (some (.bl fr)) w
        exact ⟨x, b', t, hx, hb', sSeq_rt ((sIf_t q5).trans e)⟩
      · rw [decide_eq_false c3] at q5
        rw [sSeq_nx ((sIf_f q5).trans rfl)]
        have q6 := t_row b1 n ((2 ^ n - 1 : Nat) : Int) w ((pows (n + 1)).map D.int) row (some (.bl fr)) none none none none none none none
        by_cases c4 : row ≠ [] ∧ w < 8
        · rw [decide_eq_true c4] at q6
          obtain ⟨x, b', t, hx, hb', e⟩ := row_branch hb1 hn hn0 c4.1 hrl hr (some (.bl fr)) w
          exact ⟨x, b', t, hx, hb', sSeq_rt ((sIf_t q6).trans e)⟩
        · rw [decide_eq_false c4] at q6
          rw [sSeq_nx ((sIf_f q6).trans rfl)]
          exact free_branch hb1 hn (natsD row) (some (.bl fr)) w
end W_losesone_k03_whole_letter_products

set_option Elab.async false
set_option autoImplicit false
set_option linter.all false
set_option maxRecDepth 100000
namespace W_losesone_k03_whole_letter_products
open PySem PySem.Spec PyProof.Rows L2 Ow

/-! ### words -/
inductive Wd where
  | leaf (k : Nat)
  | tn (w : Wd)
  | tm (a b : Wd)
def wd : Wd → D
  | .leaf k => .int k
  | .tn w => .tup [.str "turned", wd w]
  | .tm a b => .tup [.str "times", wd a, wd b]
def dep : Wd → Nat
  | .leaf _ => 0
  | .tn w => dep w + 1
  | .tm a b => 1 + max (dep a) (dep b)
def lvs : Wd → List Nat
  | .leaf k => [k]
  | .tn w => lvs w
  | .tm a b => lvs a ++ lvs b
theorem wd_top (w : Wd) : Ow.top (wd w) = false := by cases w <;> rfl
def lsW (R : List Nat) (w : Wd) : List Nat := (lvs w).map fun k => R.getD k 0
noncomputable def xW (n : Nat) (R : List Nat) (w : Wd) : Nat := (ofB n (odd (lsW R w))).toNat
theorem xW_is (n : Nat) (R : List Nat) (w : Wd) : ofB n (odd (lsW R w)) = (xW n R w : Int) ∧ xW n R w < 2 ^ n ∧ ∀ f, f < n → (xW n R w).testBit f = odd (lsW R w) f := by
  obtain ⟨x, h1, h2, h3⟩ := ofB_is (odd (lsW R w)) n
  have : xW n R w = x := by unfold xW; rw [h1]; rfl
  rw [this]
  exact ⟨h1, h2, h3⟩
theorem cnt_app (a b : List Nat) (f : Nat) : cnt (a ++ b) f = cnt a f + cnt b f := by unfold cnt; rw [List.countP_append]; omega
theorem cnt_nn (a : List Nat) (f : Nat) : 0 ≤ cnt a f := by unfold cnt; omega
theorem odd_app (a b : List Nat) (f : Nat) : odd (a ++ b) f = (odd a f != odd b f) := by
  unfold odd
  rw [cnt_app]
  by_cases h1 : cnt a f % 2 = 1 <;> by_cases h2 : cnt b f % 2 = 1
  · rw [decide_eq_true h1, decide_eq_true h2, decide_eq_false (by omega)]; rfl
  · rw [decide_eq_true h1, decide_eq_false h2, decide_eq_true (by omega)]; rfl
  · rw [decide_eq_false h1, decide_eq_true h2, decide_eq_true (by omega)]; rfl
  · rw [decide_eq_false h1, decide_eq_false h2, decide_eq_false (by omega)]; rfl
theorem half_app (a b : List Nat) (f : Nat) : cnt (a ++ b) f / 2 = cnt a f / 2 + cnt b f / 2 + if (odd a f && odd b f) = true then 1 else 0 := by
  unfold odd
  rw [cnt_app]
  by_cases h1 : cnt a f % 2 = 1 <;> by_cases h2 : cnt b f % 2 = 1
  · rw [decide_eq_true h1, decide_eq_true h2, if_pos (by decide)]; omega
  · rw [decide_eq_true h1, decide_eq_false h2, if_neg (by decide)]; omega
  · rw [decide_eq_false h1, decide_eq_true h2, if_neg (by decide)]; omega
  · rw [decide_eq_false h1, decide_eq_false h2, if_neg (by decide)]; omega
theorem lsW_tm (R : List Nat) (a b : Wd) : lsW R (.tm a b) = lsW R a ++ lsW R b := by unfold lsW lvs; rw [List.map_append]; cases a <;> cases b <;> rfl
theorem lsW_tn (R : List Nat) (a : Wd) : lsW R (.tn a) = lsW R a := rfl
theorem xW_leaf {n k : Nat} {R : List Nat} (hk : k < R.length) (hR : ∀ x ∈ R, x < 2 ^ n) : xW n R (.leaf k) = R.getD k 0 := by
  have hx : R.getD k 0 < 2 ^ n := by
    rw [List.getD_eq_getElem?_getD, List.getElem?_eq_getElem hk]
    exact hR _ (List.getElem_mem hk)
  have h1 : ofB n (odd (lsW R (.leaf k))) = ofB n (R.getD k 0).testBit := ofB_congr fun f _ => by
    show odd [R.getD k 0] f = _
    unfold odd cnt
    generalize R.getD k 0 = y
    cases h : y.testBit f <;> simp [h]
  unfold xW
  rw [h1, ofB_nat hx]
  rfl
theorem xW_tm (n : Nat) (R : List Nat) (a b : Wd) : (pairR n (xW n R a) (xW n R b)).p = (xW n R (.tm a b) : Int) := by
  obtain ⟨_, a2, a3⟩ := xW_is n R a
  obtain ⟨_, b2, b3⟩ := xW_is n R b
  rw [pairR_p a2 b2, ← (xW_is n R (.tm a b)).1]
  refine ofB_congr fun f hf => ?_
  rw [a3 f hf, b3 f hf, lsW_tm, odd_app]
noncomputable def sW (n : Nat) (R : List Nat) : Wd → Int
  | .leaf _ => 1
  | .tn w => if xW n R w = 0 then sW n R w else -sW n R w
  | .tm a b => sW n R a * sW n R b * ownS n (xW n R a) (xW n R b)
theorem sW_one (n : Nat) (R : List Nat) : ∀ w : Wd, (sW n R w).natAbs ≤ 1
  | .leaf _ => Nat.le_refl 1
  | .tn w => by
    have := sW_one n R w
    unfold sW
    split
    · exact this
    · rw [Int.natAbs_neg]; exact this
  | .tm a b => by
    have h1 := sW_one n R a
    have h2 := sW_one n R b
    have h3 := ownS_one n (xW n R a) (xW n R b)
    unfold sW
    rw [Int.natAbs_mul, Int.natAbs_mul]
    exact Nat.le_trans (Nat.mul_le_mul (Nat.mul_le_mul h1 h2) h3) (Nat.le_refl 1)
theorem fits_one {i j : Int} (h : i.natAbs ≤ 1) : fitsMul i j = true := fitsMul_l (by omega) (by omega)
end W_losesone_k03_whole_letter_products

set_option Elab.async false
set_option autoImplicit false
set_option linter.all false
set_option maxRecDepth 100000
namespace W_losesone_k03_whole_letter_products
open PySem PySem.Spec PyProof.Rows L2 Ow

theorem kit_ii : kitB "int" "int" = some true := by decide +kernel
theorem kit_ti : kitB "tuple" "int" = some false := by decide +kernel
theorem kit_it : kitB "int" "tuple" = some false := by decide +kernel
theorem isi_ii {n : Int} : dIsi "int" [.int n] = some (.bl true) := by rw [ev_isi]; show (kitB "int" "int").map D.bl = _; rw [kit_ii]; rfl
theorem isi_ti {l : List D} : dIsi "int" [.tup l] = some (.bl false) := by rw [ev_isi]; show (kitB "tuple" "int").map D.bl = _; rw [kit_ti]; rfl
theorem isi_it {n : Int} : dIsi "tuple" [.int n] = some (.bl false) := by rw [ev_isi]; show (kitB "int" "tuple").map D.bl = _; rw [kit_it]; rfl
theorem isi_tt {l : List D} : dIsi "tuple" [.tup l] = some (.bl true) := by rw [ev_isi]; show (kitB "tuple" "tuple").map D.bl = _; rw [kit_tt]; rfl
theorem str_tt : ((("turned" : Str) = ("turned" : Str)) : Prop) := rfl
theorem str_mt : ¬ ((("times" : Str) = ("turned" : Str)) : Prop) := by decide

section
variable (F : MF) (R : List D) (DN : D) (w a b : D) (s x t y z v k : Int) (x3 x4 x5 x6 x7 x8 : Option D)
theorem ws_call1 (hd : Ow.top w = false) (hDN : Ow.top DN = true) (q : D) (hF : F [w, .tup R, DN] = some (.ok q [some w, some (.tup R), some DN])) (tl : List D) (c : D) :
    mCall F [.vl (mB dIx [.nm 0, .vl (mC (.int 1))]), .nm 1, .nm 2] [some (.tup (c :: w :: tl)), some (.tup R), some DN, x3, x4, x5, x6, x7, x8] = some (.ok q [some (.tup (c :: w :: tl)), some (.tup R), some DN, x3, x4, x5, x6, x7, x8]) := by
  have hs : settle w = w := by cases w <;> first | rfl | (rename_i o l; cases o <;> first | rfl | cases hd)
  rw [mCall_is (l := [.v w, .nm 1, .nm 2]) (e' := [some (.tup (c :: w :: tl)), some (.tup R), some DN, x3, x4, x5, x6, x7, x8]) (ds := [w, .tup R, DN]) (by simp [hd, hs]) rfl (by simp [hDN]) rfl hF rfl]
  simp [hDN]
theorem ws_call2 (hd : Ow.top w = false) (hDN : Ow.top DN = true) (q : D) (hF : F [w, .tup R, DN] = some (.ok q [some w, some (.tup R), some DN])) (tl : List D) (c c2 : D) :
    mCall F [.vl (mB dIx [.nm 0, .vl (mC (.int 2))]), .nm 1, .nm 2] [some (.tup (c :: c2 :: w :: tl)), some (.tup R), some DN, x3, x4, x5, x6, x7, x8] = some (.ok q [some (.tup (c :: c2 :: w :: tl)), some (.tup R), some DN, x3, x4, x5, x6, x7, x8]) := by
  have hs : settle w = w := by cases w <;> first | rfl | (rename_i o l; cases o <;> first | rfl | cases hd)
  rw [mCall_is (l := [.v w, .nm 1, .nm 2]) (e' := [some (.tup (c :: c2 :: w :: tl)), some (.tup R), some DN, x3, x4, x5, x6, x7, x8]) (ds := [w, .tup R, DN]) (by simp [hd, hs]) rfl (by simp [hDN]) rfl hF rfl]
  simp [hDN]
theorem ws_leaf (hat : atI R k = some (.int v)) : S__law_word_sign F [some (.int k), some (.tup R), some DN, none, none, none, none, none, none] = some (.rt (.tup [.int 1, .int v]) [some (.int k), some (.tup R), some DN, none, none, none, none, none, none]) := by
  unfold S__law_word_sign
  simp [-ev_isi, isi_ii, hat]
theorem ws_tn (hd : Ow.top w = false) (hDN : Ow.top DN = true) (hF : F [w, .tup R, DN] = some (.ok (.tup [.int s, .int x]) [some w, some (.tup R), some DN])) :
    S__law_word_sign F [some (.tup [.str "turned", w]), some (.tup R), some DN, none, none, none, none, none, none] = some (.rt (.tup [.int (if x = 0 then s else -s), .int x]) [some (.tup [.str "turned", w]), some (.tup R), some DN, some (.int s), some (.int x), none, none, none, none]) := by
  have c1 := ws_call1 F R DN w none none none none none none hd hDN _ hF [] (.str "turned")
  unfold S__law_word_sign
  by_cases h : x = 0 <;> simp [-ev_isi, isi_ti, c1, h]
theorem ws_tm (ha : Ow.top a = false) (hb : Ow.top b = false) {DL : List D} (hF1 : F [a, .tup R, .lst true DL] = some (.ok (.tup [.int s, .int x]) [some a, some (.tup R), some (.lst true DL)])) (hF2 : F [b, .tup R, .lst true DL] = some (.ok (.tup [.int t, .int y]) [some b, some (.tup R), some (.lst true DL)]))
    (hs : M__law_own_sign [.int x, .int y, .lst true DL] = some (.ok (.int v) [none, none, some (.lst true DL)])) (hx : M__law_xor [.int x, .int y] = some (.ok (.int z) [some (.int x), some (.int y)])) (f1 : fitsMul s t = true) (f2 : fitsMul (s * t) v = true) :
    S__law_word_sign F [some (.tup [.str "times", a, b]), some (.tup R), some (.lst true DL), none, none, none, none, none, none] = some (.rt (.tup [.int (s * t * v), .int z]) [some (.tup [.str "times", a, b]), some (.tup R), some (.lst true DL), none, none, some (.int s), some (.int x), some (.int t), some (.int y)]) := by
  have c1 := ws_call1 F R (.lst true DL) a none none none none none none ha rfl _ hF1 [b] (.str "times")
  have c2 := ws_call2 F R (.lst true DL) b none none (some (.int s)) (some (.int x)) none none hb rfl _ hF2 [] (.str "times") a
  have c3 : mCall M__law_own_sign [.nm 6, .nm 8, .nm 2] [some (.tup [.str "times", a, b]), some (.tup R), some (.lst true DL), none, none, some (.int s), some (.int x), some (.int t), some (.int y)] = some (.ok (.int v) [some (.tup [.str "times", a, b]), some (.tup R), some (.lst true DL), none, none, some (.int s), some (.int x), some (.int t), some (.int y)]) := by
    rw [mCall_is (l := [.nm 6, .nm 8, .nm 2]) (e' := [some (.tup [.str "times", a, b]), some (.tup R), some (.lst true DL), none, none, some (.int s), some (.int x), some (.int t), some (.int y)]) (ds := [.int x, .int y, .lst true DL]) rfl rfl (by simp) rfl hs rfl]
    simp
  have c4 : mCall M__law_xor [.nm 6, .nm 8] [some (.tup [.str "times", a, b]), some (.tup R), some (.lst true DL), none, none, some (.int s), some (.int x), some (.int t), some (.int y)] = some (.ok (.int z) [some (.tup [.str "times", a, b]), some (.tup R), some (.lst true DL), none, none, some (.int s), some (.int x), some (.int t), some (.int y)]) := by
    rw [mCall_is (l := [.nm 6, .nm 8]) (e' := [some (.tup [.str "times", a, b]), some (.tup R), some (.lst true DL), none, none, some (.int s), some (.int x), some (.int t), some (.int y)]) (ds := [.int x, .int y]) rfl rfl (by simp) rfl hx rfl]
    simp
  unfold S__law_word_sign
  simp [-ev_isi, isi_ti, c1, c2, c3, c4, str_mt, f1, f2]
end
theorem atI_nats {R : List Nat} {k : Nat} (h : k < R.length) : atI (natsD R) (k : Int) = some (.int ((R.getD k 0 : Nat) : Int)) := by
  refine atI_at ?_
  unfold natsD
  rw [List.getElem?_map, List.getD_eq_getElem?_getD, List.getElem?_eq_getElem h]
  rfl
theorem ws_done {g : Nat} {a b c d : D} {t : Sl} (h : S__law_word_sign (M__law_word_sign g) [some a, some b, some c, none, none, none, none, none, none] = some (.rt d (some a :: some b :: some c :: t))) : M__law_word_sign (g + 1) [a, b, c] = some (.ok d [some a, some b, some c]) :=
  mF_rt (n := 3) (l := 9) (fx := FX [0, 1, 2]) (s := S__law_word_sign (M__law_word_sign g)) (ds := [a, b, c]) (e := some a :: some b :: some c :: t) rfl h
theorem word_sign_ok {n : Nat} {R : List Nat} (hR : ∀ x ∈ R, x < 2 ^ n) : ∀ (w : Wd) (g : Nat), dep w < g → (∀ k ∈ lvs w, k < R.length) →
    M__law_word_sign g [wd w, .tup (natsD R), .lst true (dpows n)] = some (.ok (.tup [.int (sW n R w), .int (xW n R w)]) [some (wd w), some (.tup (natsD R)), some (.lst true (dpows n))])
  | .leaf k, g + 1, _, hl => by
    have hk := hl k (by simp [lvs])
    have := ws_leaf (M__law_word_sign g) (natsD R) (.lst true (dpows n)) _ _ (atI_nats hk)
    rw [xW_leaf hk hR]
    exact ws_done this
  | .tn w, g + 1, hg, hl => by
    have ih := word_sign_ok hR w g (by unfold dep at hg; omega) hl
    have := ws_tn (M__law_word_sign g) (natsD R) (.lst true (dpows n)) (wd w) _ _ (wd_top w) rfl ih
    have e : (if ((xW n R w : Nat) : Int) = 0 then sW n R w else -sW n R w) = sW n R (.tn w) := by
      show _ = if xW n R w = 0 then _ else _
      by_cases h : xW n R w = 0
      · rw [if_pos h, if_pos (by omega)]
      · rw [if_neg h, if_neg (by omega)]
    rw [e] at this
    exact ws_done this
  | .tm a b, g + 1, hg, hl => by
    have i1 := word_sign_ok hR a g (by unfold dep at hg; omega) fun k hk => hl k (by unfold lvs; exact List.mem_append_left _ hk)
    have i2 := word_sign_ok hR b g (by unfold dep at hg; omega) fun k hk => hl k (by unfold lvs; exact List.mem_append_right _ hk)
    obtain ⟨_, a2, a3⟩ := xW_is n R a
    obtain ⟨_, b2, b3⟩ := xW_is n R b
    have hx := xor_ok (xW n R a) (xW n R b)
    rw [xor_val a2 b2] at hx
    have e : ofB n (odd [xW n R a, xW n R b]) = (xW n R (.tm a b) : Int) := by
      rw [← (xW_is n R (.tm a b)).1]
      refine ofB_congr fun f hf => ?_
      rw [odd_two, a3 f hf, b3 f hf, lsW_tm, odd_app]
    rw [e] at hx
    have := ws_tm (M__law_word_sign g) (natsD R) (wd a) (wd b) _ _ _ _ _ _ (wd_top a) (wd_top b) i1 i2 (sign_ok n _ _) hx (fits_one (sW_one n R a)) (fits_one (by rw [Int.natAbs_mul]; exact Nat.le_trans (Nat.mul_le_mul (sW_one n R a) (sW_one n R b)) (Nat.le_refl 1)))
    exact ws_done this
end W_losesone_k03_whole_letter_products

set_option Elab.async false
set_option autoImplicit false
set_option linter.all false
set_option maxRecDepth 100000
namespace W_losesone_k03_whole_letter_products
open PySem PySem.Spec PyProof.Rows L2 Ow

def exD (m : Nat) (f : Nat → Int) : List D := (List.range m).map fun k => .int (f k)
theorem exD_ints (m : Nat) (f : Nat → Int) : exD m f = ((List.range m).map f).map D.int := by unfold exD; rw [List.map_map]; rfl
theorem exD_len (m : Nat) (f : Nat → Int) : (exD m f).length = m := by unfold exD; simp
theorem low_ex (m : Nat) (f : Nat → Int) : low (exD m f) = true := by rw [exD_ints]; exact low_ints _
theorem frz_ex (m : Nat) (f : Nat → Int) : freezes (exD m f) = exD m f := by rw [exD_ints]; exact ev_frzi _
theorem exD_congr {m : Nat} {f g : Nat → Int} (h : ∀ k, k < m → f k = g k) : exD m f = exD m g := by
  unfold exD
  refine List.map_congr_left fun k hk => ?_
  rw [h k (List.mem_range.mp hk)]
theorem rep_ex (m : Nat) : (List.replicate m [D.int 0]).flatten = exD m fun _ => 0 := by
  unfold exD
  induction m with
  | zero => rfl
  | succ m ih =>
    rw [List.range_succ, List.map_append, ← ih, List.replicate_succ', List.flatten_append]; rfl
theorem zeros {m : Nat} (hm : m ≤ 1000) : dMulA [.tup [.int 0], .int m] = some (.tup (exD m fun _ => 0)) := by
  rw [← rep_ex]
  show (if _ then none else _) = _
  rw [if_neg (by simp; omega)]
  rfl
section
variable (F : MF) (R EA EB Z LT : List D) (w a b : D) (s x t y z v k m sg p : Int)
theorem wl_call1 (hd : Ow.top w = false) (q : D) (hF : F [w, .tup R, .int m] = some (.ok q [some w, some (.tup R), some (.int m)])) (tl : List D) (c : D) (r : Sl) :
    mCall F [.vl (mB dIx [.nm 0, .vl (mC (.int 1))]), .nm 1, .nm 2] (some (.tup (c :: w :: tl)) :: some (.tup R) :: some (.int m) :: r) = some (.ok q (some (.tup (c :: w :: tl)) :: some (.tup R) :: some (.int m) :: r)) := by
  have hs : settle w = w := by cases w <;> first | rfl | (rename_i o l; cases o <;> first | rfl | cases hd)
  rw [mCall_is (l := [.v w, .nm 1, .nm 2]) (e' := some (.tup (c :: w :: tl)) :: some (.tup R) :: some (.int m) :: r) (ds := [w, .tup R, .int m]) (by simp [hd, hs]) (by simp) (by simp) rfl hF rfl]
  simp
theorem wl_call2 (hd : Ow.top w = false) (q : D) (hF : F [w, .tup R, .int m] = some (.ok q [some w, some (.tup R), some (.int m)])) (tl : List D) (c c2 : D) (r : Sl) :
    mCall F [.vl (mB dIx [.nm 0, .vl (mC (.int 2))]), .nm 1, .nm 2] (some (.tup (c :: c2 :: w :: tl)) :: some (.tup R) :: some (.int m) :: r) = some (.ok q (some (.tup (c :: c2 :: w :: tl)) :: some (.tup R) :: some (.int m) :: r)) := by
  have hs : settle w = w := by cases w <;> first | rfl | (rename_i o l; cases o <;> first | rfl | cases hd)
  rw [mCall_is (l := [.v w, .nm 1, .nm 2]) (e' := some (.tup (c :: c2 :: w :: tl)) :: some (.tup R) :: some (.int m) :: r) (ds := [w, .tup R, .int m]) (by simp [hd, hs]) (by simp) (by simp) rfl hF rfl]
  simp
theorem wl_leaf (hat : atI R k = some (.int v)) (hz : dMulA [.tup [.int 0], .int m] = some (.tup Z)) : S_letter_word F [some (.int k), some (.tup R), some (.int m), none, none, none, none, none, none, none, none, none] =
    some (.rt (.tup [.int 1, .int v, .tup Z]) [some (.int k), some (.tup R), some (.int m), none, none, none, none, none, none, none, none, none]) := by
  unfold S_letter_word
  simp [-ev_isi, isi_it, hat, hz]
theorem wl_tn (hd : Ow.top w = false) (hF : F [w, .tup R, .int m] = some (.ok (.tup [.int s, .int x, .tup Z]) [some w, some (.tup R), some (.int m)])) :
    S_letter_word F [some (.tup [.str "turned", w]), some (.tup R), some (.int m), none, none, none, none, none, none, none, none, none] =
      some (.rt (.tup [.int (if x = 0 then s else -s), .int x, .tup Z]) [some (.tup [.str "turned", w]), some (.tup R), some (.int m), some (.int s), some (.int x), some (.tup Z), none, none, none, none, none, none]) := by
  have c1 := wl_call1 F R w m hd _ hF [] (.str "turned") [none, none, none, none, none, none, none, none, none]
  unfold S_letter_word
  by_cases h : x = 0 <;> simp [-ev_isi, isi_tt, c1, h]
theorem wl_bump (W : D) (L : List D) (f : Int) (j : Nat) (x3 x4 x6 x7 x8 x10 x11 : Option D) (hat : atI L f = some (.int v)) (hix : ixN L.length f = some j) :
    B_letter_word_1' F [some W, some (.tup R), some (.int m), x3, x4, some (.lst true L), x6, x7, x8, some (.int f), x10, x11] =
      some (.nx [some W, some (.tup R), some (.int m), x3, x4, some (.lst true (L.set j (.int (v + 1)))), x6, x7, x8, some (.int f), x10, x11]) := by
  unfold B_letter_word_1'
  simp [hat, hix]
end
theorem ex_set {m f : Nat} (h : Nat → Int) (hf : f < m) : (exD m h).set f (.int (h f + 1)) = exD m fun k => h k + if k = f then 1 else 0 := by
  unfold exD
  refine List.ext_getElem (by simp) fun i h1 h2 => ?_
  rw [List.getElem_set]
  simp only [List.getElem_map, List.getElem_range]
  by_cases e : f = i
  · subst e; rw [if_pos rfl, if_pos rfl]
  · rw [if_neg e, if_neg (by omega), Int.add_zero]
theorem ex_at {m f : Nat} (h : Nat → Int) (hf : f < m) : atI (exD m h) (f : Int) = some (.int (h f)) := by
  refine atI_at ?_
  unfold exD
  rw [List.getElem?_map, List.getElem?_range hf]; rfl
theorem ix_nat {l f : Nat} (hf : f < l) : ixN l (f : Int) = some f := by
  unfold ixN
  rw [if_pos (by omega), if_pos (by omega)]
  simp
theorem bump_loop (F : MF) (R : List D) (W : D) (m : Nat) (M : Int) (x3 x4 x6 x7 x8 x10 x11 : Option D) {ok : Sl → Prop} (hok : ∀ h x9, ok [some W, some (.tup R), some (.int M), x3, x4, some (.lst true (exD m h)), x6, x7, x8, x9, x10, x11]) : ∀ (fs : List Nat) (h : Nat → Int) (x9 : Option D), (∀ f ∈ fs, f < m) → ∃ y9,
    forL (.nm 9) (B_letter_word_1' F) ok (natsD fs) [some W, some (.tup R), some (.int M), x3, x4, some (.lst true (exD m h)), x6, x7, x8, x9, x10, x11] =
      some (.nx [some W, some (.tup R), some (.int M), x3, x4, some (.lst true (exD m fun k => h k + (fs.count k : Nat))), x6, x7, x8, y9, x10, x11])
  | [], h, x9, _ => ⟨x9, by
      have : (exD m fun k => h k + (([] : List Nat).count k : Nat)) = exD m h := exD_congr fun k _ => by simp
      rw [this]
      exact forL_nil (hok h x9)⟩
  | f :: fs, h, x9, hf => by
    have hfm := hf f List.mem_cons_self
    have hb := wl_bump F R (h f) M W (exD m h) f f x3 x4 x6 x7 x8 x10 x11 (ex_at h hfm) (by rw [exD_len]; exact ix_nat hfm)
    rw [ex_set h hfm] at hb
    obtain ⟨y9, ih⟩ := bump_loop F R W m M x3 x4 x6 x7 x8 x10 x11 hok fs (fun k => h k + if k = f then 1 else 0) (some (.int f)) fun k hk => hf k (List.mem_cons_of_mem _ hk)
    refine ⟨y9, ?_⟩
    have e : (exD m fun k => h k + ((f :: fs).count k : Nat)) = exD m fun k => (h k + if k = f then 1 else 0) + (fs.count k : Nat) := exD_congr fun k _ => by
      rw [List.count_cons]
      by_cases e : k = f
      · subst e; simp; omega
      · have : ¬ f = k := fun h => e h.symm
        simp [e, this]
    rw [e, ← ih]
    exact forL_nx (hok h x9) rfl hb
theorem count_rng (P : Nat → Bool) (k : Nat) : ∀ n : Nat, ((List.range n).filter P).count k = if k < n ∧ P k = true then 1 else 0
  | 0 => by simp
  | n + 1 => by
    rw [List.range_succ, List.filter_append, List.count_append, count_rng P k n]
    by_cases hp : P n = true
    · rw [List.filter_cons, if_pos hp, List.filter_nil, List.count_cons, List.count_nil]
      by_cases e : k = n
      · subst e; simp [hp]
      · have : ¬ n = k := fun h => e h.symm
        have q : k < n + 1 ↔ k < n := by omega
        simp [this, q]
    · rw [List.filter_cons, if_neg hp, List.filter_nil, List.count_nil, Nat.add_zero]
      by_cases e : k = n
      · subst e; simp [hp]
      · have q : k < n + 1 ↔ k < n := by omega
        simp [q]
theorem cnt_high {n k : Nat} (hk : n ≤ k) : ∀ {ls : List Nat}, (∀ x ∈ ls, x < 2 ^ n) → cnt ls k = 0
  | [], _ => rfl
  | x :: ls, h => by
    have ih := cnt_high hk (ls := ls) fun y hy => h y (List.mem_cons_of_mem _ hy)
    have hx : x.testBit k = false := Nat.testBit_lt_two_pow (Nat.lt_of_lt_of_le (h x List.mem_cons_self) (Nat.pow_le_pow_right (by omega) hk))
    unfold cnt at ih ⊢
    rw [List.countP_cons, hx]
    simpa using ih
end W_losesone_k03_whole_letter_products

set_option Elab.async false
set_option autoImplicit false
set_option linter.all false
set_option maxRecDepth 100000
namespace W_losesone_k03_whole_letter_products
open PySem PySem.Spec PyProof.Rows L2 Ow

section
variable (F : MF) (R : List D) (a b : D) (s x t y m sg p : Int)
theorem wl_zip (W : D) (k : Nat) (hk : k ≤ 1000) (fa fb : Nat → Int) (x3 x4 x8 : Option D) (s x t y : Int) :
    mLc (.tp [(.nm 10), (.nm 11)]) [.vl (mB dIx [.nm 6, .vl (mC (.int 2))]), .vl (mB dIx [.nm 7, .vl (mC (.int 2))])] gZip [10, 11] (mC (.bl true)) (mB dAdd [.nm 10, .nm 11])
      [some W, some (.tup R), some (.int m), x3, x4, none, some (.tup [.int s, .int x, .tup (exD k fa)]), some (.tup [.int t, .int y, .tup (exD k fb)]), x8, none, none, none] =
    some (.ok (.lst true (exD k fun f => fa f + fb f)) [some W, some (.tup R), some (.int m), x3, x4, none, some (.tup [.int s, .int x, .tup (exD k fa)]), some (.tup [.int t, .int y, .tup (exD k fb)]), x8, none, none, none]) := by
  have hz : zipD (exD k fa) (exD k fb) = (List.range k).map fun f => .tup [.int (fa f), .int (fb f)] := zipD_range k _ _
  generalize exD k fa = EA at hz ⊢
  generalize exD k fb = EB at hz ⊢
  refine mLc_ok (av := [.v (.tup EA), .v (.tup EB)]) (e' := [some W, some (.tup R), some (.int m), x3, x4, none, some (.tup [.int s, .int x, .tup EA]), some (.tup [.int t, .int y, .tup EB]), x8, none, none, none]) (ds := [.tup EA, .tup EB]) (items := zipD EA EB) (by simp) rfl rfl (by rw [hz]; simp; omega) ?_
  rw [hz]
  have hp := lcL_pure (t := .tp [.nm 10, .nm 11]) (c := mC (.bl true)) (y := mB dAdd [.nm 10, .nm 11]) (vs := [10, 11]) (ok := fun e => resolves e [.v (.tup EA), .v (.tup EB)] = some [.tup EA, .tup EB]) (e := [some W, some (.tup R), some (.int m), x3, x4, none, some (.tup [.int s, .int x, .tup EA]), some (.tup [.int t, .int y, .tup EB]), x8, none, none, none])
    (fun _ => true) (fun d => match d with | .tup [.int u, .int v] => .int (u + v) | d => d) rfl (l := (List.range k).map fun f => .tup [.int (fa f), .int (fb f)]) fun d hd => by
      obtain ⟨f, _, rfl⟩ := List.mem_map.mp hd
      exact ⟨[some W, some (.tup R), some (.int m), x3, x4, none, some (.tup [.int s, .int x, .tup EA]), some (.tup [.int t, .int y, .tup EB]), x8, none, some (.int (fa f)), some (.int (fb f))], [some W, some (.tup R), some (.int m), x3, x4, none, some (.tup [.int s, .int x, .tup EA]), some (.tup [.int t, .int y, .tup EB]), x8, none, some (.int (fa f)), some (.int (fb f))], rfl, rfl, fun _ => rfl, fun _ => ⟨_, rfl, rfl⟩⟩
  refine hp.trans ?_
  rw [List.filter_eq_self.mpr (fun _ _ => rfl), List.map_map]
  rfl
end
section
variable (F : MF) (R LT : List D) (a b : D) (s x t y sg p : Int)
theorem wl_tm {n m : Nat} (hm : m ≤ 100) (fs : List Nat) (hfs : ∀ f ∈ fs, f < m) (fa fb : Nat → Int) (ha : Ow.top a = false) (hb : Ow.top b = false)
    (hF1 : F [a, .tup R, .int m] = some (.ok (.tup [.int s, .int x, .tup (exD m fa)]) [some a, some (.tup R), some (.int m)]))
    (hF2 : F [b, .tup R, .int m] = some (.ok (.tup [.int t, .int y, .tup (exD m fb)]) [some b, some (.tup R), some (.int m)]))
    (hp : M_letter_pair [.int x, .int y, .int m] = some (.ok (.tup [.int sg, .int p, .tup (natsD fs)]) [none, none, some (.int m)])) (f1 : fitsMul sg s = true) (f2 : fitsMul (sg * s) t = true) : ∃ tl : Sl,
    S_letter_word F [some (.tup [.str "times", a, b]), some (.tup R), some (.int m), none, none, none, none, none, none, none, none, none] =
      some (.rt (.tup [.int (sg * s * t), .int p, .tup (exD m fun k => fa k + fb k + (fs.count k : Nat))]) (some (.tup [.str "times", a, b]) :: some (.tup R) :: some (.int m) :: tl)) := by
  have c1 := wl_call1 F R a m ha _ hF1 [b] (.str "times") [none, none, none, none, none, none, none, none, none]
  have c2 := wl_call2 F R b m hb _ hF2 [] (.str "times") a [none, none, none, none, none, none, none, none, none]
  have c4 := wl_zip R m (.tup [.str "times", a, b]) m (by omega) fa fb (some (.int sg)) (some (.int p)) (some (.tup (natsD fs))) s x t y
  obtain ⟨y9, c5⟩ := bump_loop F R (.tup [.str "times", a, b]) m m (some (.int sg)) (some (.int p)) (some (.tup [.int s, .int x, .tup (exD m fa)])) (some (.tup [.int t, .int y, .tup (exD m fb)])) (some (.tup (natsD fs))) none none (ok := fun e => resolves e [.nm 8] = some [.tup (natsD fs)]) (fun h x9 => rfl) fs (fun k => fa k + fb k) none hfs
  have hlow := low_ex m fun k => fa k + fb k + (fs.count k : Nat)
  generalize (exD m fun k => fa k + fb k + (fs.count k : Nat)) = E5 at c5 hlow ⊢
  generalize (exD m fun k => fa k + fb k) = E4 at c4 c5
  generalize exD m fa = EA at *
  generalize exD m fb = EB at *
  generalize natsD fs = LT at *
  generalize (m : Int) = M at *
  have c3 : mCall M_letter_pair [.vl (mB dIx [.nm 6, .vl (mC (.int 1))]), .vl (mB dIx [.nm 7, .vl (mC (.int 1))]), .nm 2] [some (.tup [.str "times", a, b]), some (.tup R), some (.int M), none, none, none, some (.tup [.int s, .int x, .tup EA]), some (.tup [.int t, .int y, .tup EB]), none, none, none, none] =
      some (.ok (.tup [.int sg, .int p, .tup LT]) [some (.tup [.str "times", a, b]), some (.tup R), some (.int M), none, none, none, some (.tup [.int s, .int x, .tup EA]), some (.tup [.int t, .int y, .tup EB]), none, none, none, none]) := by
    rw [mCall_is (l := [.v (.int x), .v (.int y), .nm 2]) (e' := [some (.tup [.str "times", a, b]), some (.tup R), some (.int M), none, none, none, some (.tup [.int s, .int x, .tup EA]), some (.tup [.int t, .int y, .tup EB]), none, none, none, none]) (ds := [.int x, .int y, .int M]) (by simp) rfl (by simp) rfl hp rfl]
    simp
  refine ⟨[some (.int sg), some (.int p), some (.lst true E5), some (.tup [.int s, .int x, .tup EA]), some (.tup [.int t, .int y, .tup EB]), some (.tup LT), y9, none, none], ?_⟩
  unfold S_letter_word
  refine (sSeq_nx (e' := [some (.tup [.str "times", a, b]), some (.tup R), some (.int M), none, none, none, none, none, none, none, none, none]) (by simp [-ev_isi, isi_tt])).trans ?_
  refine (sSeq_nx (e' := [some (.tup [.str "times", a, b]), some (.tup R), some (.int M), none, none, none, none, none, none, none, none, none]) (by simp [str_mt])).trans ?_
  refine (sSeq_nx (e' := [some (.tup [.str "times", a, b]), some (.tup R), some (.int M), none, none, none, some (.tup [.int s, .int x, .tup EA]), some (.tup [.int t, .int y, .tup EB]), none, none, none, none]) (by simp [c1, c2])).trans ?_
  refine (sSeq_nx (e' := [some (.tup [.str "times", a, b]), some (.tup R), some (.int M), some (.int sg), some (.int p), none, some (.tup [.int s, .int x, .tup EA]), some (.tup [.int t, .int y, .tup EB]), some (.tup LT), none, none, none]) (by simp [c3])).trans ?_
  refine (sSeq_nx (sSet_ok c4)).trans ?_
  refine (sSeq_nx ((sFor_ok (av := [.nm 8]) (e' := [some (.tup [.str "times", a, b]), some (.tup R), some (.int M), some (.int sg), some (.int p), some (.lst true E4), some (.tup [.int s, .int x, .tup EA]), some (.tup [.int t, .int y, .tup EB]), some (.tup LT), none, none, none]) (ds := [.tup LT]) (items := LT) rfl rfl rfl).trans c5)).trans ?_
  simp [f1, f2]
  simp [dTuple, hlow]
end
theorem wl_done {g : Nat} {a b c d : D} {t : Sl} (h : S_letter_word (M_letter_word g) [some a, some b, some c, none, none, none, none, none, none, none, none, none] = some (.rt d (some a :: some b :: some c :: t))) : M_letter_word (g + 1) [a, b, c] = some (.ok d [some a, some b, some c]) :=
  mF_rt (n := 3) (l := 12) (fx := FX [0, 1, 2]) (s := S_letter_word (M_letter_word g)) (ds := [a, b, c]) (e := some a :: some b :: some c :: t) rfl h
theorem lsW_lt {n : Nat} {R : List Nat} (hR : ∀ x ∈ R, x < 2 ^ n) (w : Wd) : ∀ x ∈ lsW R w, x < 2 ^ n := by
  intro x hx
  obtain ⟨k, _, rfl⟩ := List.mem_map.mp hx
  rw [List.getD_eq_getElem?_getD]
  by_cases h : k < R.length
  · rw [List.getElem?_eq_getElem h]; exact hR _ (List.getElem_mem h)
  · rw [List.getElem?_eq_none (by omega)]; exact Nat.two_pow_pos n
noncomputable def wDue (n m : Nat) (R : List Nat) (w : Wd) : D := .tup [.int (sW n R w), .int (xW n R w), .tup (exD m fun k => cnt (lsW R w) k / 2)]
theorem letter_word_ok {n m : Nat} {R : List Nat} (hnm : n ≤ m) (hm : m ≤ 100) (hR : ∀ x ∈ R, x < 2 ^ n) : ∀ (w : Wd) (g : Nat), dep w < g → (∀ k ∈ lvs w, k < R.length) →
    M_letter_word g [wd w, .tup (natsD R), .int m] = some (.ok (wDue n m R w) [some (wd w), some (.tup (natsD R)), some (.int m)])
  | .leaf k, g + 1, _, hl => by
    have hk := hl k (by simp [lvs])
    have := wl_leaf (M_letter_word g) (natsD R) _ _ _ _ (atI_nats hk) (zeros (m := m) (by omega))
    have e : wDue n m R (.leaf k) = .tup [.int 1, .int (R.getD k 0 : Nat), .tup (exD m fun _ => 0)] := by
      unfold wDue
      rw [xW_leaf hk hR]
      have : (exD m fun f => cnt (lsW R (.leaf k)) f / 2) = exD m fun _ => 0 := exD_congr fun f _ => by
        show cnt [R.getD k 0] f / 2 = 0
        unfold cnt
        have : [R.getD k 0].countP (·.testBit f) ≤ 1 := List.countP_le_length
        omega
      rw [this]
      rfl
    rw [e]
    exact wl_done this
  | .tn w, g + 1, hg, hl => by
    have ih := letter_word_ok hnm hm hR w g (by unfold dep at hg; omega) hl
    have := wl_tn (M_letter_word g) (natsD R) _ (wd w) _ _ _ (wd_top w) ih
    have e : (if ((xW n R w : Nat) : Int) = 0 then sW n R w else -sW n R w) = sW n R (.tn w) := by
      show _ = if xW n R w = 0 then _ else _
      by_cases h : xW n R w = 0
      · rw [if_pos h, if_pos (by omega)]
      · rw [if_neg h, if_neg (by omega)]
    rw [e] at this
    exact wl_done this
  | .tm a b, g + 1, hg, hl => by
    have i1 := letter_word_ok hnm hm hR a g (by unfold dep at hg; omega) fun k hk => hl k (by unfold lvs; exact List.mem_append_left _ hk)
    have i2 := letter_word_ok hnm hm hR b g (by unfold dep at hg; omega) fun k hk => hl k (by unfold lvs; exact List.mem_append_right _ hk)
    obtain ⟨_, a2, a3⟩ := xW_is n R a
    obtain ⟨_, b2, b3⟩ := xW_is n R b
    obtain ⟨q, rfl⟩ : ∃ q, m = n + q := ⟨m - n, by omega⟩
    have hpr := pairR_more a2 b2 q
    have hp := pair_ok (n + q) (xW n R a) (xW n R b) hm
    have e1 : pairD (n + q) (xW n R a) (xW n R b) = .tup [.int (ownS n (xW n R a) (xW n R b)), .int (xW n R (.tm a b)), .tup (natsD ((List.range n).filter fun f => (xW n R a).testBit f && (xW n R b).testBit f))] := by
      unfold pairD
      rw [hpr, pairR_s a2 b2, xW_tm, pairR_l a2 b2, lotB_rev]
      unfold natsD
      rw [List.map_map]
      rfl
    rw [e1] at hp
    obtain ⟨tl, h⟩ := wl_tm (n := n) (M_letter_word g) (natsD R) (wd a) (wd b) _ _ _ _ _ _ hm _ (fun f hf => by have := List.mem_range.mp (List.mem_filter.mp hf).1; omega) _ _ (wd_top a) (wd_top b) i1 i2 hp (fits_one (ownS_one n _ _)) (fits_one (by rw [Int.natAbs_mul]; exact Nat.le_trans (Nat.mul_le_mul (ownS_one n _ _) (sW_one n R a)) (Nat.le_refl 1)))
    have e2 : wDue n (n + q) R (.tm a b) = .tup [.int (ownS n (xW n R a) (xW n R b) * sW n R a * sW n R b), .int (xW n R (.tm a b)), .tup (exD (n + q) fun k => cnt (lsW R a) k / 2 + cnt (lsW R b) k / 2 + (((List.range n).filter fun f => (xW n R a).testBit f && (xW n R b).testBit f).count k : Nat))] := by
      unfold wDue
      have es : sW n R (.tm a b) = ownS n (xW n R a) (xW n R b) * sW n R a * sW n R b := by
        show sW n R a * sW n R b * ownS n (xW n R a) (xW n R b) = _
        rw [Int.mul_comm, Int.mul_assoc]
      have ee : (exD (n + q) fun k => cnt (lsW R (.tm a b)) k / 2) = exD (n + q) fun k => cnt (lsW R a) k / 2 + cnt (lsW R b) k / 2 + (((List.range n).filter fun f => (xW n R a).testBit f && (xW n R b).testBit f).count k : Nat) := exD_congr fun k _ => by
        rw [lsW_tm, half_app, count_rng]
        by_cases hk : k < n
        · rw [a3 k hk, b3 k hk]
          by_cases c : (odd (lsW R a) k && odd (lsW R b) k) = true
          · rw [if_pos c, if_pos ⟨hk, c⟩]; rfl
          · rw [if_neg c, if_neg (fun h => c h.2)]; rfl
        · have c0 : odd (lsW R a) k = false := by unfold odd; rw [cnt_high (by omega) (lsW_lt hR a)]; rfl
          rw [c0, if_neg (by simp), if_neg (fun h => hk h.1)]; rfl
      rw [es, ee]
    rw [e2]
    exact wl_done h
end W_losesone_k03_whole_letter_products

set_option Elab.async false
set_option autoImplicit false
set_option linter.all false
set_option maxRecDepth 100000
namespace W_losesone_k03_whole_letter_products
open PySem PySem.Spec PyProof.Rows L2 Ow

theorem settle_wd (w : Wd) : settle (wd w) = wd w := by cases w <;> rfl
def tns : Nat → Wd → Wd
  | 0, w => w
  | k + 1, w => tns k (.tn w)
theorem tns_lvs : ∀ (k : Nat) (w : Wd), lvs (tns k w) = lvs w
  | 0, _ => rfl
  | k + 1, w => tns_lvs k (.tn w)
theorem tns_dep : ∀ (k : Nat) (w : Wd), dep (tns k w) = dep w + k
  | 0, _ => rfl
  | k + 1, w => by
    show dep (tns k (.tn w)) = _
    rw [tns_dep k (.tn w)]
    show dep w + 1 + k = _
    omega
theorem about_loop {b P rm d4 d5 : Option D} {ok : Sl → Prop} (hok : ∀ x3 x6, ok [b, P, rm, x3, d4, d5, x6]) : ∀ (items : List D) (w : Wd) (x6 : Option D), ∃ y6,
    forL (.nm 6) B__law_about_1 ok items [b, P, rm, some (wd w), d4, d5, x6] = some (.nx [b, P, rm, some (wd (tns items.length w)), d4, d5, y6])
  | [], w, x6 => ⟨x6, forL_nil (hok _ _)⟩
  | d :: l, w, x6 => by
    obtain ⟨y6, ih⟩ := about_loop hok l (.tn w) (some d)
    refine ⟨y6, (forL_nx (hok _ _) rfl ?_).trans ih⟩
    unfold B__law_about_1
    have h1 := wd_top w
    have h2 := settle_wd w
    show _ = some (SR.nx [b, P, rm, some (.tup [.str "turned", wd w]), d4, d5, some d])
    generalize wd w = W at *
    simp [h1, h2]
def rgN (n : Nat) : List D := (List.range n).map fun i : Nat => .int (i : Int)
theorem rgN_len (n : Nat) : (rgN n).length = n := by unfold rgN; simp
theorem rng_nat {n : Nat} (h : n ≤ 1000) : gRng1 [.int n] = some (rgN n) := by
  have : sml (n : Int) = true := by unfold sml; simp; omega
  show (if sml (n : Int) then some ((List.range (n : Int).toNat).map fun i : Nat => D.int (i : Int)) else none) = _
  rw [this]
  rfl
theorem dMin_nat (i j : Nat) : dMin2 [.int i, .int j] = some (.int ((min i j : Nat) : Int)) := by
  show some (D.int (if (j : Int) < i then (j : Int) else i)) = _
  by_cases h : j < i
  · rw [if_pos (by omega), Nat.min_eq_right (by omega)]
  · rw [if_neg (by omega), Nat.min_eq_left (by omega)]
theorem pick8 (b b1 : D) (r : Sl) (v : Int) (hc : mCall M__law_draw [.nm 0, .vl (mC (.int 21))] (some b :: r) = some (.ok (.int v) (some b1 :: r))) :
    mB dLst [.vl (mC (.int 0)), .vl (mC (.int 0)), .vl (mC (.int 0)), .vl (mC (.int 1)), .vl (mC (.int 1)), .vl (mC (.int 2)), .vl (mC (.int 3)), .vl (mCall M__law_draw [.nm 0, .vl (mC (.int 21))])] (some b :: r) = some (.ok (.lst true (([0, 0, 0, 1, 1, 2, 3, v] : List Int).map D.int)) (some b1 :: r)) :=
  mB_ok (l := [.v (.int 0), .v (.int 0), .v (.int 0), .v (.int 1), .v (.int 1), .v (.int 2), .v (.int 3), .v (.int v)]) (ds := [.int 0, .int 0, .int 0, .int 1, .int 1, .int 2, .int 3, .int v])
    (evA_vl (d := .int 0) rfl (evA_vl (d := .int 0) rfl (evA_vl (d := .int 0) rfl (evA_vl (d := .int 1) rfl (evA_vl (d := .int 1) rfl (evA_vl (d := .int 2) rfl (evA_vl (d := .int 3) rfl (evA_vl (d := .int v) hc evA0)))))))) rfl rfl
theorem about_ok {b : D} (hb : IsBag b) (w : Wd) {room : Nat} (hr : room ≤ 1000) : ∃ (w' : Wd) (b' : D), lvs w' = lvs w ∧ dep w ≤ dep w' ∧ dep w' ≤ dep w + room ∧ IsBag b' ∧
    M__law_about [b, .tup [wd w, .int (dep w : Nat)], .int room] = some (.ok (.tup [wd w', .int (dep w' : Nat)]) [some b', some (.tup [wd w, .int (dep w : Nat)]), some (.int room)]) := by
  have q : ∃ (v : Nat) (b' : D), v ≤ room ∧ IsBag b' ∧ mB dMin2 [.nm 2, .vl (mIf (mB dGt [.nm 2, .vl (mC (.int 0))]) (mCall M__law_pick [.nm 0, .vl (mB dLst [.vl (mC (.int 0)), .vl (mC (.int 0)), .vl (mC (.int 0)), .vl (mC (.int 1)), .vl (mC (.int 1)), .vl (mC (.int 2)), .vl (mC (.int 3)), .vl (mCall M__law_draw [.nm 0, .vl (mC (.int 21))])])]) (mC (.int 0)))]
      [some b, some (.tup [wd w, .int (dep w : Nat)]), some (.int room), some (wd w), some (.int (dep w : Nat)), none, none] = some (.ok (.int v) [some b', some (.tup [wd w, .int (dep w : Nat)]), some (.int room), some (wd w), some (.int (dep w : Nat)), none, none]) := by
    have hc : mB dGt [.nm 2, .vl (mC (.int 0))] [some b, some (.tup [wd w, .int (dep w : Nat)]), some (.int room), some (wd w), some (.int (dep w : Nat)), none, none] = some (.ok (.bl (decide ((0 : Int) < room))) [some b, some (.tup [wd w, .int (dep w : Nat)]), some (.int room), some (wd w), some (.int (dep w : Nat)), none, none]) := rfl
    by_cases h0 : (0 : Int) < room
    · rw [decide_eq_true h0] at hc
      obtain ⟨v, b1, hb1, v0, v1, p⟩ := call_draw hb (below := 21) (by decide) (by decide) (u := .vl (mC (.int 21))) (av := .v (.int 21)) (r := [some (.tup [wd w, .int (dep w : Nat)]), some (.int room), some (wd w), some (.int (dep w : Nat)), none, none]) rfl rfl rfl rfl
      obtain ⟨x, b2, hx, hb2, p2⟩ := call_pickv (b := b) (b0 := b) (b1 := b1) hb1 (is := [0, 0, 0, 1, 1, 2, 3, v]) (by simp) (by show (8 : Nat) < 16777216; decide) (r := [some (.tup [wd w, .int (dep w : Nat)]), some (.int room), some (wd w), some (.int (dep w : Nat)), none, none]) rfl (pick8 b b1 _ v p)
      have x0 : 0 ≤ x := by
        simp only [List.mem_cons, List.not_mem_nil, or_false] at hx
        omega
      obtain ⟨x, rfl⟩ := Int.eq_ofNat_of_zero_le x0
      refine ⟨min room x, b2, Nat.min_le_left _ _, hb2, ?_⟩
      refine mB_ok (l := [.nm 2, .v (.int x)]) (ds := [.int room, .int x]) (evA_nm rfl (evA_vl ((mIf_t hc).trans p2) evA0)) rfl ?_
      rw [dMin_nat]
    · rw [decide_eq_false h0] at hc
      refine ⟨0, b, Nat.zero_le _, hb, ?_⟩
      refine mB_ok (l := [.nm 2, .v (.int 0)]) (ds := [.int room, .int 0]) (evA_nm rfl (evA_vl (d := .int 0) (e1 := [some b, some (.tup [wd w, .int (dep w : Nat)]), some (.int room), some (wd w), some (.int (dep w : Nat)), none, none]) ((mIf_f hc).trans rfl) evA0)) rfl ?_
      have := dMin_nat room 0
      rw [Nat.min_zero] at this
      exact this
  obtain ⟨v, b1, hv, hb1, q⟩ := q
  obtain ⟨y6, hl⟩ := about_loop (b := some b1) (P := some (.tup [wd w, .int (dep w : Nat)])) (rm := some (.int room)) (d4 := some (.int (dep w : Nat))) (d5 := some (.int v)) (ok := fun e => resolves e [.nm 5] = some [.int v]) (fun _ _ => rfl) (rgN v) w none
  rw [rgN_len] at hl
  refine ⟨tns v w, b1, tns_lvs v w, by rw [tns_dep]; omega, by rw [tns_dep]; omega, hb1, ?_⟩
  refine mF_rt (n := 3) (l := 7) (fx := FX [0, 1, 2]) (s := S__law_about) (ds := [b, .tup [wd w, .int (dep w : Nat)], .int room]) (e := [some b1, some (.tup [wd w, .int (dep w : Nat)]), some (.int room), some (wd (tns v w)), some (.int (dep w : Nat)), some (.int v), y6]) rfl ?_
  show S__law_about [some b, some (.tup [wd w, .int (dep w : Nat)]), some (.int room), none, none, none, none] = _
  unfold S__law_about
  refine (sSeq_nx (e' := [some b, some (.tup [wd w, .int (dep w : Nat)]), some (.int room), some (wd w), some (.int (dep w : Nat)), none, none]) (by simp)).trans ?_
  refine (sSeq_nx (sSet_ok q)).trans ?_
  refine (sSeq_nx ((sFor_ok (av := [.nm 5]) (e' := [some b1, some (.tup [wd w, .int (dep w : Nat)]), some (.int room), some (wd w), some (.int (dep w : Nat)), some (.int v), none]) (ds := [.int v]) (items := rgN v) rfl rfl (rng_nat (by omega))).trans hl)).trans ?_
  have e : (((dep (tns v w) : Nat)) : Int) = (dep w : Int) + v := by rw [tns_dep]; omega
  rw [e]
  have h1 := wd_top (tns v w)
  have h2 := settle_wd (tns v w)
  generalize wd (tns v w) = W at *
  simp [h1, h2]
end W_losesone_k03_whole_letter_products

set_option Elab.async false
set_option autoImplicit false
set_option linter.all false
set_option maxRecDepth 100000
namespace W_losesone_k03_whole_letter_products
open PySem PySem.Spec PyProof.Rows L2 Ow

/-- tuples only -/
def AllT (l : List D) : Prop := ∀ d ∈ l, ∃ t, d = .tup t
theorem AllT.cons {d : D} {l : List D} (h : AllT (d :: l)) : (∃ t, d = .tup t) ∧ AllT l := ⟨h d List.mem_cons_self, fun x hx => h x (List.mem_cons_of_mem _ hx)⟩
theorem AllT.frz : ∀ {l : List D}, AllT l → freezes l = l
  | [], _ => ev_frz0
  | d :: l, h => by
    obtain ⟨⟨t, rfl⟩, h2⟩ := h.cons
    rw [ev_frz, ev_freeze4, AllT.frz h2]
theorem AllT.flats : ∀ {l : List D}, AllT l → Ow.flats l = true
  | [], _ => by unfold Ow.flats; rfl
  | d :: l, h => by
    obtain ⟨⟨t, rfl⟩, h2⟩ := h.cons
    unfold Ow.flats flat
    rw [AllT.flats h2]; rfl
theorem AllT.low : ∀ {l : List D}, AllT l → Ow.low l = true
  | [], _ => rfl
  | d :: l, h => by
    obtain ⟨⟨t, rfl⟩, h2⟩ := h.cons
    rw [ev_low, AllT.low h2]; rfl
theorem AllT.app {l r : List D} (h1 : AllT l) (h2 : AllT r) : AllT (l ++ r) := fun d hd => (List.mem_append.mp hd).elim (h1 d) (h2 d)
theorem AllT.take {l : List D} (h : AllT l) (n : Nat) : AllT (l.take n) := fun d hd => h d (List.mem_of_mem_take hd)
theorem AllT.drop {l : List D} (h : AllT l) (n : Nat) : AllT (l.drop n) := fun d hd => h d (List.mem_of_mem_drop hd)
theorem cut_hi {l : List D} {n : Nat} (h : n ≤ l.length) : cut l none (some (n : Int)) = l.take n := by
  unfold cut
  rw [HT.sIx_none, HT.sIx_nat, List.drop_zero, Nat.min_eq_left h]; rfl
theorem cut_lo {l : List D} {n : Nat} (h : n ≤ l.length) : cut l (some (n : Int)) none = l.drop n := by
  unfold cut
  rw [HT.sIx_none, HT.sIx_nat, Nat.min_eq_left h]
  exact List.take_of_length_le (by simp)
theorem sl_hi {l : List D} {n : Nat} (hl : AllT l) (h : n ≤ l.length) : dSl false true [.lst true l, .int n] = some (.lst true (l.take n)) := by
  show (if Ow.low l then some (D.lst true (cut l none (some (n : Int)))) else none) = _
  rw [hl.low, if_pos rfl, cut_hi h]
theorem sl_lo {l : List D} {n : Nat} (hl : AllT l) (h : n ≤ l.length) : dSl true false [.lst true l, .int n] = some (.lst true (l.drop n)) := by
  show (if Ow.low l then some (D.lst true (cut l (some (n : Int)) none)) else none) = _
  rw [hl.low, if_pos rfl, cut_lo h]
theorem add_lst {l r : List D} {o o' : Bool} (h1 : AllT l) (h2 : AllT r) (hn : l.length + r.length ≤ 16777216) : dAdd [.lst o l, .lst o' r] = some (.lst true (l ++ r)) := by
  show (if Ow.flats l && Ow.flats r && decide (l.length + r.length ≤ 16777216) then some (D.lst true (l ++ r)) else none) = _
  rw [h1.flats, h2.flats, decide_eq_true hn]; rfl
theorem popAt_ok {l : List D} {n : Nat} {d : D} (h : l[n]? = some d) (ht : Ow.top d = false) (hl : l.length ≤ 1000) : gPopAt l [.int n] = some (d, l.eraseIdx n) := by
  obtain ⟨hn, _⟩ := List.getElem?_eq_some_iff.mp h
  show (if 16777216 < l.length then none else (ixN l.length (n : Int)).bind fun k => (l[k]?).bind fun d => if Ow.top d then none else some (d, l.eraseIdx k)) = _
  rw [if_neg (by omega), ix_nat hn, Option.bind_some, h, Option.bind_some, ht]
  rfl
section
variable (b b1 b2 : D) (L : Option D) (p : Bool) (RS RS' PS PS' pt : List D) (many v c : Int) (x3 x6 x7 x8 x9 x10 x11 x12 x13 : Option D)
theorem ow_room {e : Sl} {k : Int} {m : ME} (h2 : slot e 2 = some (.bl p)) (hm : m e = some (.ok (.int k) e)) : mIf (mTr (mNm 2)) (mC (.int 0)) m e = some (.ok (.int (if p then 0 else k)) e) := by
  have h : mTr (mNm 2) e = some (.ok (.bl p) e) := by simp [h2]
  cases p with
  | true => exact (mIf_t h).trans rfl
  | false => exact (mIf_f h).trans hm
theorem ow_b1 (hb1 : Ow.top b1 = true)
    (p1 : mCall M__law_draw [.nm 0, .vl (mB dLen [.nm 3])] [some b, L, some (.bl p), some (.lst true RS), some (.lst true PS), some (.int many), x6, x7, x8, x9, x10, x11, x12, x13] = some (.ok (.int v) [some b1, L, some (.bl p), some (.lst true RS), some (.lst true PS), some (.int many), x6, x7, x8, x9, x10, x11, x12, x13]))
    (hp : gPopAt RS [.int v] = some (.int c, RS'))
    (ha : M__law_about [b1, .tup [.int c, .int 0], .int (if p then 0 else 21 - many)] = some (.ok (.tup pt) [some b2, some (.tup [.int c, .int 0]), some (.int (if p then 0 else 21 - many))]))
    (hg : gAppend PS [.tup pt] = some (.non, PS')) :
    B__law_own_word_1 [some b, L, some (.bl p), some (.lst true RS), some (.lst true PS), some (.int many), x6, x7, x8, x9, x10, x11, x12, x13] = some (.nx [some b2, L, some (.bl p), some (.lst true RS'), some (.lst true PS'), some (.int many), x6, some (.int c), x8, x9, x10, x11, x12, x13]) := by
  have q1 : sSet 7 (mMut gPopAt 3 [.vl (mCall M__law_draw [.nm 0, .vl (mB dLen [.nm 3])])]) [some b, L, some (.bl p), some (.lst true RS), some (.lst true PS), some (.int many), x6, x7, x8, x9, x10, x11, x12, x13] = some (.nx [some b1, L, some (.bl p), some (.lst true RS'), some (.lst true PS), some (.int many), x6, some (.int c), x8, x9, x10, x11, x12, x13]) :=
    sSet_ok (mMut_ok (l0 := RS) (l := RS) (as := [.v (.int v)]) (ds := [.int v]) rfl (evA_vl (d := .int v) p1 evA0) rfl rfl hp)
  have hr := ow_room p (e := [some b1, L, some (.bl p), some (.lst true RS'), some (.lst true PS), some (.int many), x6, some (.int c), x8, x9, x10, x11, x12, x13]) (k := 21 - many) (m := mB dSub [.vl (mC (.int 21)), .nm 5]) rfl rfl
  generalize (if p then 0 else 21 - many) = room at ha hr
  have q2 : mCall M__law_about [.nm 0, .vl (mB dTupl [.vl (mNm 7), .vl (mC (.int 0))]), .vl (mIf (mTr (mNm 2)) (mC (.int 0)) (mB dSub [.vl (mC (.int 21)), .nm 5]))] [some b1, L, some (.bl p), some (.lst true RS'), some (.lst true PS), some (.int many), x6, some (.int c), x8, x9, x10, x11, x12, x13] =
      some (.ok (.tup pt) [some b2, L, some (.bl p), some (.lst true RS'), some (.lst true PS), some (.int many), x6, some (.int c), x8, x9, x10, x11, x12, x13]) := by
    rw [mCall_is (l := [.nm 0, .v (.tup [.int c, .int 0]), .v (.int room)]) (e' := [some b1, L, some (.bl p), some (.lst true RS'), some (.lst true PS), some (.int many), x6, some (.int c), x8, x9, x10, x11, x12, x13]) (ds := [b1, .tup [.int c, .int 0], .int room]) (evA_nm rfl (evA_vl (d := .tup [.int c, .int 0]) rfl (evA_vl (d := .int room) hr evA0))) rfl (by simp [hb1]) rfl ha rfl]
    simp [hb1]
  unfold B__law_own_word_1
  refine (sSeq_nx q1).trans ?_
  exact sDo_ok (mMut_ok (l0 := PS) (l := PS) (as := [.v (.tup pt)]) (ds := [.tup pt]) rfl (evA_vl (d := .tup pt) q2 evA0) rfl rfl hg)
end
section
variable (b b1 b2 : D) (L : Option D) (p : Bool) (PS pt : List D) (many : Int) (W1 W2 : D) (d1 d2 dm : Int) (left a : Nat) (x3 x6 x7 x9 x10 x11 x12 x13 : Option D)
theorem ow_b2 (hb1 : Ow.top b1 = true)
    (p1 : mCall M__law_draw [.nm 0, .nm 8] [some b, L, some (.bl p), x3, some (.lst true PS), some (.int many), x6, x7, some (.int left), x9, x10, x11, x12, x13] = some (.ok (.int a) [some b1, L, some (.bl p), x3, some (.lst true PS), some (.int many), x6, x7, some (.int left), x9, x10, x11, x12, x13]))
    (t1 : atI PS (a : Int) = some (.tup [W1, .int d1])) (t2 : atI PS ((a : Int) + 1) = some (.tup [W2, .int d2])) (w1 : Ow.top W1 = false) (w2 : Ow.top W2 = false) (s1 : settle W1 = W1) (s2 : settle W2 = W2)
    (hm : dMax2 [.int d1, .int d2] = some (.int dm))
    (ha : M__law_about [b1, .tup [.tup [.str "times", W1, W2], .int (1 + dm)], .int (if p then 0 else 21 - left - (1 + dm))] = some (.ok (.tup pt) [some b2, some (.tup [.tup [.str "times", W1, W2], .int (1 + dm)]), some (.int (if p then 0 else 21 - left - (1 + dm)))]))
    (hT : AllT PS) (hlen : a + 2 ≤ PS.length) (hl : PS.length ≤ 1000) :
    B__law_own_word_2 [some b, L, some (.bl p), x3, some (.lst true PS), some (.int many), x6, x7, some (.int left), x9, x10, x11, x12, x13] =
      some (.nx [some b2, L, some (.bl p), x3, some (.lst true (PS.take a ++ [.tup pt] ++ PS.drop (a + 2))), some (.int many), x6, x7, some (.int left), some (.int a), some (.tup [W1, .int d1]), some (.tup [W2, .int d2]), some (.int (1 + dm)), some (.tup pt)]) := by
  have hr := ow_room p (e := [some b1, L, some (.bl p), x3, some (.lst true PS), some (.int many), x6, x7, some (.int left), some (.int a), some (.tup [W1, .int d1]), some (.tup [W2, .int d2]), some (.int (1 + dm)), x13]) (k := 21 - left - (1 + dm)) (m := mB dSub [.vl (mB dSub [.vl (mC (.int 21)), .nm 8]), .nm 12]) rfl rfl
  generalize (if p then 0 else 21 - left - (1 + dm)) = room at ha hr
  have q2 : mCall M__law_about [.nm 0, .vl (mB dTupl [.vl (mB dTupl [.vl (mC (.str "times")), .vl (mB dIx [.nm 10, .vl (mC (.int 0))]), .vl (mB dIx [.nm 11, .vl (mC (.int 0))])]), .vl (mNm 12)]), .vl (mIf (mTr (mNm 2)) (mC (.int 0)) (mB dSub [.vl (mB dSub [.vl (mC (.int 21)), .nm 8]), .nm 12]))]
      [some b1, L, some (.bl p), x3, some (.lst true PS), some (.int many), x6, x7, some (.int left), some (.int a), some (.tup [W1, .int d1]), some (.tup [W2, .int d2]), some (.int (1 + dm)), x13] =
      some (.ok (.tup pt) [some b2, L, some (.bl p), x3, some (.lst true PS), some (.int many), x6, x7, some (.int left), some (.int a), some (.tup [W1, .int d1]), some (.tup [W2, .int d2]), some (.int (1 + dm)), x13]) := by
    rw [mCall_is (l := [.nm 0, .v (.tup [.tup [.str "times", W1, W2], .int (1 + dm)]), .v (.int room)]) (e' := [some b1, L, some (.bl p), x3, some (.lst true PS), some (.int many), x6, x7, some (.int left), some (.int a), some (.tup [W1, .int d1]), some (.tup [W2, .int d2]), some (.int (1 + dm)), x13]) (ds := [b1, .tup [.tup [.str "times", W1, W2], .int (1 + dm)], .int room])
      (evA_nm rfl (evA_vl (d := .tup [.tup [.str "times", W1, W2], .int (1 + dm)]) (by simp [w1, w2, s1, s2]) (evA_vl (d := .int room) hr evA0))) rfl (by simp [hb1]) rfl ha rfl]
    simp [hb1]
  unfold B__law_own_word_2
  refine (sSeq_nx (sSet_ok p1)).trans ?_
  refine (sSeq_nx (e' := [some b1, L, some (.bl p), x3, some (.lst true PS), some (.int many), x6, x7, some (.int left), some (.int a), some (.tup [W1, .int d1]), some (.tup [W2, .int d2]), x12, x13]) (by simp [t1, t2])).trans ?_
  refine (sSeq_nx (e' := [some b1, L, some (.bl p), x3, some (.lst true PS), some (.int many), x6, x7, some (.int left), some (.int a), some (.tup [W1, .int d1]), some (.tup [W2, .int d2]), some (.int (1 + dm)), x13]) (by simp [hm])).trans ?_
  refine (sSeq_nx (sSet_ok q2)).trans ?_
  refine (sSet_ok (e' := [some b2, L, some (.bl p), x3, some (.lst true PS), some (.int many), x6, x7, some (.int left), some (.int a), some (.tup [W1, .int d1]), some (.tup [W2, .int d2]), some (.int (1 + dm)), some (.tup pt)]) (d := .lst true (PS.take a ++ [.tup pt] ++ PS.drop (a + 2))) ?_).trans rfl
  have hT1 : AllT [.tup pt] := fun d hd => ⟨pt, List.mem_singleton.mp hd⟩
  have u1 : mB (dSl false true) [.nm 4, .nm 9] [some b2, L, some (.bl p), x3, some (.lst true PS), some (.int many), x6, x7, some (.int left), some (.int a), some (.tup [W1, .int d1]), some (.tup [W2, .int d2]), some (.int (1 + dm)), some (.tup pt)] = some (.ok (.lst true (PS.take a)) [some b2, L, some (.bl p), x3, some (.lst true PS), some (.int many), x6, x7, some (.int left), some (.int a), some (.tup [W1, .int d1]), some (.tup [W2, .int d2]), some (.int (1 + dm)), some (.tup pt)]) :=
    mB_ok (l := [.nm 4, .nm 9]) (ds := [.lst true PS, .int a]) rfl rfl (sl_hi hT (by omega))
  have u2 : mB dLst [.vl (mNm 13)] [some b2, L, some (.bl p), x3, some (.lst true PS), some (.int many), x6, x7, some (.int left), some (.int a), some (.tup [W1, .int d1]), some (.tup [W2, .int d2]), some (.int (1 + dm)), some (.tup pt)] = some (.ok (.lst true [.tup pt]) [some b2, L, some (.bl p), x3, some (.lst true PS), some (.int many), x6, x7, some (.int left), some (.int a), some (.tup [W1, .int d1]), some (.tup [W2, .int d2]), some (.int (1 + dm)), some (.tup pt)]) := by
    simp
  have u3 : mB (dSl true false) [.nm 4, .vl (mB dAdd [.nm 9, .vl (mC (.int 2))])] [some b2, L, some (.bl p), x3, some (.lst true PS), some (.int many), x6, x7, some (.int left), some (.int a), some (.tup [W1, .int d1]), some (.tup [W2, .int d2]), some (.int (1 + dm)), some (.tup pt)] = some (.ok (.lst true (PS.drop (a + 2))) [some b2, L, some (.bl p), x3, some (.lst true PS), some (.int many), x6, x7, some (.int left), some (.int a), some (.tup [W1, .int d1]), some (.tup [W2, .int d2]), some (.int (1 + dm)), some (.tup pt)]) :=
    mB_ok (l := [.nm 4, .v (.int ((a : Int) + 2))]) (ds := [.lst true PS, .int ((a : Int) + 2)]) (evA_nm rfl (evA_vl (d := .int ((a : Int) + 2)) rfl evA0)) rfl (sl_lo (n := a + 2) hT hlen)
  have v1 := evA_vl (us := []) (l := []) u2 evA0
  rw [ev_set7, hT1.frz] at v1
  have v2 := evA_vl u1 v1
  rw [ev_set7, (hT.take a).frz] at v2
  have v3 := mB_ok v2 rfl (add_lst (hT.take a) hT1 (by simp; omega))
  have v4 := evA_vl (us := []) (l := []) u3 evA0
  rw [ev_set7, (hT.drop _).frz] at v4
  have v5 := evA_vl v3 v4
  rw [ev_set7, ((hT.take a).app hT1).frz] at v5
  exact mB_ok v5 rfl (add_lst ((hT.take a).app hT1) (hT.drop _) (by simp; omega))
end
end W_losesone_k03_whole_letter_products

set_option Elab.async false
set_option autoImplicit false
set_option linter.all false
set_option maxRecDepth 100000
namespace W_losesone_k03_whole_letter_products
open PySem PySem.Spec PyProof.Rows L2 Ow

def partW (w : Wd) : D := .tup [wd w, .int (dep w : Nat)]
def partsD (ws : List Wd) : List D := ws.map partW
theorem partsT (ws : List Wd) : AllT (partsD ws) := fun d hd => by
  obtain ⟨w, _, rfl⟩ := List.mem_map.mp hd
  exact ⟨_, rfl⟩
theorem nats_erase (rs : List Nat) (v : Nat) : (natsD rs).eraseIdx v = natsD (rs.eraseIdx v) := by
  unfold natsD
  induction rs generalizing v with
  | nil => rfl
  | cons x l ih => cases v with
    | zero => rfl
    | succ v => simp only [List.map_cons, List.eraseIdx_cons_succ, ih]
theorem erase_perm : ∀ (l : List Nat) (v : Nat) (h : v < l.length), (l[v] :: l.eraseIdx v).Perm l
  | x :: l, 0, _ => List.Perm.refl _
  | x :: l, v + 1, h => by
    have hv : v < l.length := Nat.lt_of_succ_lt_succ h
    have ih := erase_perm l v hv
    show (l[v] :: x :: l.eraseIdx v).Perm (x :: l)
    exact (List.Perm.swap _ _ _).trans (ih.cons x)
  | [], _, h => by cases h
theorem own_loop1 {L : Option D} {p : Bool} {many room : Nat} (hroom : (if p then (0 : Int) else 21 - (many : Int)) = (room : Nat)) (hr : room ≤ 21 - many) {x8 x9 x10 x11 x12 x13 : Option D} {ok : Sl → Prop}
    (hok : ∀ b x3 x4 x6 x7, ok [b, L, some (.bl p), x3, x4, some (.int many), x6, x7, x8, x9, x10, x11, x12, x13]) : ∀ (items : List D) (rs : List Nat) (ws : List Wd) (b : D) (x6 x7 : Option D), IsBag b → rs.length = items.length → ws.length + rs.length ≤ 100 → (∀ w ∈ ws, dep w ≤ 21 - many) → ∃ b' ws' y6 y7,
    forL (.nm 6) B__law_own_word_1 ok items [some b, L, some (.bl p), some (.lst true (natsD rs)), some (.lst true (partsD ws)), some (.int many), x6, x7, x8, x9, x10, x11, x12, x13] =
      some (.nx [some b', L, some (.bl p), some (.lst true []), some (.lst true (partsD ws')), some (.int many), y6, y7, x8, x9, x10, x11, x12, x13]) ∧ IsBag b' ∧ ws'.length = ws.length + rs.length ∧ (∀ w ∈ ws', dep w ≤ 21 - many) ∧ (ws'.flatMap lvs).Perm (ws.flatMap lvs ++ rs)
  | [], [], ws, b, x6, x7, hb, _, _, hd => ⟨b, ws, x6, x7, forL_nil (hok _ _ _ _ _), hb, rfl, hd, by rw [List.append_nil]⟩
  | it :: items, rs, ws, b, x6, x7, hb, hl, hw, hd => by
    have hl' : rs.length = items.length + 1 := hl
    have hu : evA [.vl (mB dLen [.nm 3])] [some b, L, some (.bl p), some (.lst true (natsD rs)), some (.lst true (partsD ws)), some (.int many), some it, x7, x8, x9, x10, x11, x12, x13] = some (.ok [.v (.int rs.length)] [some b, L, some (.bl p), some (.lst true (natsD rs)), some (.lst true (partsD ws)), some (.int many), some it, x7, x8, x9, x10, x11, x12, x13]) := by
      have : (natsD rs).length = rs.length := by unfold natsD; rw [List.length_map]
      rw [← this]
      exact evA_vl (d := .int ((natsD rs).length : Nat)) rfl evA0
    obtain ⟨v, b1, hb1, v0, v1, p1⟩ := call_draw hb (below := (rs.length : Int)) (by omega) (by omega) (u := .vl (mB dLen [.nm 3])) (av := .v (.int rs.length)) (r := [L, some (.bl p), some (.lst true (natsD rs)), some (.lst true (partsD ws)), some (.int many), some it, x7, x8, x9, x10, x11, x12, x13]) hu rfl rfl rfl
    obtain ⟨v, rfl⟩ := Int.eq_ofNat_of_zero_le v0
    have hv : v < rs.length := by omega
    have hget : (natsD rs)[v]? = some (.int (rs[v] : Nat)) := by
      unfold natsD
      rw [List.getElem?_map, List.getElem?_eq_getElem hv]; rfl
    have hpop := popAt_ok hget rfl (by unfold natsD; rw [List.length_map]; omega)
    rw [nats_erase] at hpop
    obtain ⟨w', b2, e1, e2, e3, hb2, ha⟩ := about_ok hb1 (.leaf rs[v]) (room := room) (by omega)
    have hg : gAppend (partsD ws) [partW w'] = some (.non, partsD ws ++ [partW w']) := append_ok rfl (by unfold partsD; rw [List.length_map]; omega)
    have hb := ow_b1 b b1 b2 L p (natsD rs) (natsD (rs.eraseIdx v)) (partsD ws) (partsD ws ++ [partW w']) [wd w', .int (dep w' : Nat)] many v (rs[v] : Nat) (some it) x7 x8 x9 x10 x11 x12 x13 hb1.top p1 hpop (by rw [hroom]; exact ha) hg
    have e4 : partsD ws ++ [partW w'] = partsD (ws ++ [w']) := by unfold partsD; rw [List.map_append]; rfl
    rw [e4] at hb
    have el : (rs.eraseIdx v).length = items.length := by rw [List.length_eraseIdx, if_pos hv]; omega
    obtain ⟨b', ws', y6, y7, h1, h2, h3, h4, h5⟩ := own_loop1 hroom hr hok items (rs.eraseIdx v) (ws ++ [w']) b2 (some it) (some (.int (rs[v] : Nat))) hb2 el (by rw [el, List.length_append, List.length_singleton]; omega) (by
      intro w hw'
      rcases List.mem_append.mp hw' with h | h
      · exact hd w h
      · rw [List.mem_singleton.mp h]
        have : dep (.leaf rs[v]) = 0 := rfl
        omega)
    refine ⟨b', ws', y6, y7, (forL_nx (hok _ _ _ _ _) rfl hb).trans h1, h2, by rw [h3, el, List.length_append, List.length_singleton]; omega, h4, h5.trans ?_⟩
    rw [List.flatMap_append, List.append_assoc]
    refine List.Perm.append_left _ ?_
    have : [w'].flatMap lvs = [rs[v]] := by
      show lvs w' ++ [] = _
      rw [e1]; rfl
    rw [this]
    exact erase_perm rs v hv
  | [], _ :: _, _, _, _, _, _, h, _, _ => by cases h
def dsc : Nat → List D
  | 0 => []
  | k + 1 => .int (k + 1 : Nat) :: dsc k
theorem dsc_is : ∀ k : Nat, (rgD 1 ((k + 1 : Nat) : Int)).reverse = dsc k := by
  have h : ∀ k : Nat, ((List.range k).map fun i : Nat => D.int (1 + (i : Int))).reverse = dsc k := by
    intro k
    induction k with
    | zero => rfl
    | succ k ih =>
      rw [List.range_succ, List.map_append, List.reverse_append, ih]
      show D.int (1 + (k : Int)) :: dsc k = _
      have : 1 + (k : Int) = ((k + 1 : Nat) : Int) := by omega
      rw [this]
      rfl
  intro k
  unfold rgD
  rw [show (((k + 1 : Nat) : Int) - 1).toNat = k by omega]
  exact h k
theorem dMax_nat (i j : Nat) : dMax2 [.int i, .int j] = some (.int ((max i j : Nat) : Int)) := by
  show some (D.int (if (j : Int) > i then (j : Int) else i)) = _
  by_cases h : i < j
  · rw [if_pos (by omega), Nat.max_eq_right (by omega)]
  · rw [if_neg (by omega), Nat.max_eq_left (by omega)]
theorem own_loop2 {L x3 : Option D} {p : Bool} {many : Int} {x6 x7 : Option D} {ok : Sl → Prop}
    (hok : ∀ b x4 x8 x9 x10 x11 x12 x13, ok [b, L, some (.bl p), x3, x4, some (.int many), x6, x7, x8, x9, x10, x11, x12, x13]) : ∀ (k : Nat) (ws : List Wd) (b : D) (x8 x9 x10 x11 x12 x13 : Option D), IsBag b → ws.length = k + 1 → k ≤ 20 → (∀ w ∈ ws, dep w ≤ 20 - k) → ∃ b' w' y8 y9 y10 y11 y12 y13,
    forL (.nm 8) B__law_own_word_2 ok (dsc k) [some b, L, some (.bl p), x3, some (.lst true (partsD ws)), some (.int many), x6, x7, x8, x9, x10, x11, x12, x13] =
      some (.nx [some b', L, some (.bl p), x3, some (.lst true [partW w']), some (.int many), x6, x7, y8, y9, y10, y11, y12, y13]) ∧ IsBag b' ∧ dep w' ≤ 20 ∧ lvs w' = ws.flatMap lvs
  | 0, [w], b, x8, x9, x10, x11, x12, x13, hb, _, _, hd => ⟨b, w, x8, x9, x10, x11, x12, x13, forL_nil (hok _ _ _ _ _ _ _ _), hb, hd w List.mem_cons_self, by simp⟩
  | 0, [], _, _, _, _, _, _, _, _, h, _, _ => by cases h
  | 0, _ :: _ :: _, _, _, _, _, _, _, _, _, h, _, _ => by simp at h
  | k + 1, ws, b, x8, x9, x10, x11, x12, x13, hb, hl, hk, hd => by
    obtain ⟨v, b1, hb1, v0, v1, p1⟩ := call_draw hb (below := ((k + 1 : Nat) : Int)) (by omega) (by omega) (u := .nm 8) (av := .nm 8) (r := [L, some (.bl p), x3, some (.lst true (partsD ws)), some (.int many), x6, x7, some (.int (k + 1 : Nat)), x9, x10, x11, x12, x13]) rfl rfl rfl rfl
    obtain ⟨a, rfl⟩ := Int.eq_ofNat_of_zero_le v0
    have ha : a + 1 < ws.length := by omega
    have h1 := hd ws[a] (List.getElem_mem _)
    have h2 := hd ws[a + 1] (List.getElem_mem _)
    have t1 : atI (partsD ws) (a : Int) = some (partW ws[a]) := atI_at (by unfold partsD; rw [List.getElem?_map, List.getElem?_eq_getElem (by omega)]; rfl)
    have t2 : atI (partsD ws) ((a : Int) + 1) = some (partW ws[a + 1]) := atI_at (n := a + 1) (by unfold partsD; rw [List.getElem?_map, List.getElem?_eq_getElem (by omega)]; rfl)
    have hdep : dep (.tm ws[a] ws[a + 1]) = 1 + max (dep ws[a]) (dep ws[a + 1]) := rfl
    obtain ⟨room, hroom, hrl⟩ : ∃ room : Nat, (if p then (0 : Int) else 21 - ((k + 1 : Nat) : Int) - (1 + ((max (dep ws[a]) (dep ws[a + 1]) : Nat) : Int))) = (room : Nat) ∧ room ≤ 21 - (k + 1) - dep (.tm ws[a] ws[a + 1]) := by
      have hm : max (dep ws[a]) (dep ws[a + 1]) ≤ 20 - (k + 1) := Nat.max_le.mpr ⟨h1, h2⟩
      cases p with
      | true => exact ⟨0, rfl, Nat.zero_le _⟩
      | false => exact ⟨21 - (k + 1) - (1 + max (dep ws[a]) (dep ws[a + 1])), by rw [if_neg (by decide)]; omega, by rw [hdep]; omega⟩
    obtain ⟨w', b2, e1, e2, e3, hb2, hab⟩ := about_ok hb1 (.tm ws[a] ws[a + 1]) (room := room) (by omega)
    have ed : ((dep (.tm ws[a] ws[a + 1]) : Nat) : Int) = 1 + ((max (dep ws[a]) (dep ws[a + 1]) : Nat) : Int) := by rw [hdep]; omega
    rw [ed] at hab
    have hbd := ow_b2 b b1 b2 L p (partsD ws) [wd w', .int (dep w' : Nat)] many (wd ws[a]) (wd ws[a + 1]) _ _ _ (k + 1) a x3 x6 x7 x9 x10 x11 x12 x13 hb1.top p1 t1 t2 (wd_top _) (wd_top _) (settle_wd _) (settle_wd _) (dMax_nat _ _) (by rw [hroom]; exact hab) (partsT ws) (by unfold partsD; rw [List.length_map]; omega) (by unfold partsD; rw [List.length_map]; omega)
    have e4 : (partsD ws).take a ++ [.tup [wd w', .int (dep w' : Nat)]] ++ (partsD ws).drop (a + 2) = partsD (ws.take a ++ [w'] ++ ws.drop (a + 2)) := by
      unfold partsD
      rw [List.map_append, List.map_append, List.map_take, List.map_drop]; rfl
    rw [e4] at hbd
    obtain ⟨b', w2, y8, y9, y10, y11, y12, y13, g1, g2, g3, g4⟩ := own_loop2 hok k (ws.take a ++ [w'] ++ ws.drop (a + 2)) b2 _ _ _ _ _ _ hb2 (by simp; omega) (by omega) (by
      intro w hw
      rcases List.mem_append.mp hw with h | h
      · rcases List.mem_append.mp h with h | h
        · have := hd w (List.mem_of_mem_take h); omega
        · rw [List.mem_singleton.mp h]
          have hm : max (dep ws[a]) (dep ws[a + 1]) ≤ 20 - (k + 1) := Nat.max_le.mpr ⟨h1, h2⟩
          rw [hdep] at e3 hrl
          omega
      · have := hd w (List.mem_of_mem_drop h); omega)
    refine ⟨b', w2, y8, y9, y10, y11, y12, y13, (forL_nx (hok _ _ _ _ _ _ _ _) rfl hbd).trans g1, g2, g3, g4.trans ?_⟩
    have e5 : ws.flatMap lvs = (ws.take a ++ [ws[a], ws[a + 1]] ++ ws.drop (a + 2)).flatMap lvs := by
      congr 1
      rw [List.append_assoc]
      conv => lhs; rw [← List.take_append_drop a ws]
      congr 1
      rw [List.drop_eq_getElem_cons (by omega : a < ws.length), List.drop_eq_getElem_cons ha]
      rfl
    rw [e5]
    simp only [List.flatMap_append]
    congr 2
    show lvs w' ++ [] = lvs ws[a] ++ (lvs ws[a + 1] ++ [])
    rw [e1, List.append_nil, List.append_nil]
    rfl
theorem own_word_ok {b : D} (hb : IsBag b) {letters : List Nat} (hne : letters ≠ []) (hl : letters.length ≤ 20) (p : Bool) : ∃ (w : Wd) (b' : D), IsBag b' ∧ dep w ≤ 20 ∧ (lvs w).Perm letters ∧
    M__law_own_word [b, .lst true (natsD letters), .bl p] = some (.ok (wd w) [some b', some (.lst true (natsD letters)), some (.bl p)]) := by
  obtain ⟨k, hk⟩ : ∃ k, letters.length = k + 1 := by
    cases letters with
    | nil => exact absurd rfl hne
    | cons x l => exact ⟨l.length, rfl⟩
  obtain ⟨room, hroom, hrl⟩ : ∃ room : Nat, (if p then (0 : Int) else 21 - ((letters.length : Nat) : Int)) = (room : Nat) ∧ room ≤ 21 - letters.length := by
    cases p with
    | true => exact ⟨0, rfl, Nat.zero_le _⟩
    | false => exact ⟨21 - letters.length, by rw [if_neg (by decide)]; omega, Nat.le_refl _⟩
  obtain ⟨b1, ws, y6, y7, l1, hb1, hwl, hwd, hwp⟩ := own_loop1 (L := some (.lst true (natsD letters))) (p := p) (many := letters.length) hroom hrl (x8 := none) (x9 := none) (x10 := none) (x11 := none) (x12 := none) (x13 := none) (ok := fun e => resolves e [.nm 5] = some [.int (letters.length : Nat)]) (fun _ _ _ _ _ => rfl) (rgN letters.length) letters [] b none none hb (rgN_len _).symm (by simp; omega) (fun w hw => by cases hw)
  have hitems : (dLstRg2 [.int 1, .int ((k + 1 : Nat) : Int)]) = some (.lst true (rgD 1 ((k + 1 : Nat) : Int))) := by
    have h1 : rgOk 1 ((k + 1 : Nat) : Int) = true := by unfold rgOk sml; simp; omega
    show (if rgOk 1 ((k + 1 : Nat) : Int) then some (D.lst true (rgD 1 ((k + 1 : Nat) : Int))) else none) = _
    rw [h1]; rfl
  have hrg : rgD 1 ((k + 1 : Nat) : Int) = ((List.range (((k + 1 : Nat) : Int) - 1).toNat).map fun i : Nat => (1 + (i : Int))).map D.int := by unfold rgD; rw [List.map_map]; rfl
  have hfrz : freezes (rgD 1 ((k + 1 : Nat) : Int)) = rgD 1 ((k + 1 : Nat) : Int) := by rw [hrg]; exact ev_frzi _
  have hlow : Ow.low (rgD 1 ((k + 1 : Nat) : Int)) = true := by rw [hrg]; exact low_ints _
  have hdsc := dsc_is k
  generalize rgD 1 ((k + 1 : Nat) : Int) = RG at hitems hfrz hlow hdsc
  obtain ⟨b2, w', y8, y9, y10, y11, y12, y13, l2, hb2, hd2, hlv⟩ := own_loop2 (L := some (.lst true (natsD letters))) (x3 := some (.lst true [])) (p := p) (many := (letters.length : Nat)) (x6 := y6) (x7 := y7) (ok := fun e => resolves e [.v (.lst false RG)] = some [.lst false RG]) (fun _ _ _ _ _ _ _ _ => rfl) k ws b1 none none none none none none hb1 (by rw [hwl, hk]; simp) (by omega) (fun w hw => by have := hwd w hw; omega)
  refine ⟨w', b2, hb2, hd2, by rw [hlv]; simpa using hwp, ?_⟩
  refine mF_rt (n := 3) (l := 14) (fx := FX [0, 1, 2]) (s := S__law_own_word) (ds := [b, .lst true (natsD letters), .bl p]) (e := [some b2, some (.lst true (natsD letters)), some (.bl p), some (.lst true []), some (.lst true [partW w']), some (.int (letters.length : Nat)), y6, y7, y8, y9, y10, y11, y12, y13]) rfl ?_
  show S__law_own_word [some b, some (.lst true (natsD letters)), some (.bl p), none, none, none, none, none, none, none, none, none, none, none] = _
  unfold S__law_own_word
  have hL : mB dList [.nm 1] [some b, some (.lst true (natsD letters)), some (.bl p), none, none, none, none, none, none, none, none, none, none, none] = some (.ok (.lst true (natsD letters)) [some b, some (.lst true (natsD letters)), some (.bl p), none, none, none, none, none, none, none, none, none, none, none]) :=
    mB_ok (l := [.nm 1]) (ds := [.lst true (natsD letters)]) rfl rfl (by show (if Ow.low _ then _ else _) = _; rw [low_nats]; rfl)
  have hN : (natsD letters).length = letters.length := by unfold natsD; rw [List.length_map]
  refine (sSeq_nx (e' := [some b, some (.lst true (natsD letters)), some (.bl p), some (.lst true (natsD letters)), some (.lst true (partsD [])), some (.int (letters.length : Nat)), none, none, none, none, none, none, none, none]) ?_).trans ?_
  · rw [ev_sPar, ev_evO, hL, ← hN]
    rfl
  · refine (sSeq_nx ((sFor_ok (av := [.nm 5]) (e' := [some b, some (.lst true (natsD letters)), some (.bl p), some (.lst true (natsD letters)), some (.lst true (partsD [])), some (.int (letters.length : Nat)), none, none, none, none, none, none, none, none]) (ds := [.int (letters.length : Nat)]) (items := rgN letters.length) rfl rfl (rng_nat (by omega))).trans l1)).trans ?_
    refine (sSeq_nx ((sFor_ok (av := [.v (.lst false RG)]) (e' := [some b1, some (.lst true (natsD letters)), some (.bl p), some (.lst true []), some (.lst true (partsD ws)), some (.int (letters.length : Nat)), y6, y7, none, none, none, none, none, none]) (ds := [.lst false RG]) (items := dsc k) ?_ rfl ?_).trans l2)).trans ?_
    · have h1 : mB dLstRg2 [.vl (mC (.int 1)), .nm 5] [some b1, some (.lst true (natsD letters)), some (.bl p), some (.lst true []), some (.lst true (partsD ws)), some (.int (letters.length : Nat)), y6, y7, none, none, none, none, none, none] = some (.ok (.lst true RG) [some b1, some (.lst true (natsD letters)), some (.bl p), some (.lst true []), some (.lst true (partsD ws)), some (.int (letters.length : Nat)), y6, y7, none, none, none, none, none, none]) :=
        mB_ok (l := [.v (.int 1), .nm 5]) (ds := [.int 1, .int ((k + 1 : Nat) : Int)]) (evA_vl (d := .int 1) rfl (evA_nm rfl evA0)) (by rw [hk]; rfl) hitems
      have h2 := evA_vl (us := []) (l := []) h1 evA0
      rw [ev_set7, hfrz] at h2
      exact h2
    · show (if Ow.low RG then some RG.reverse else none) = _
      rw [hlow, if_pos rfl, hdsc]
    · have h1 := wd_top w'
      have h2 := settle_wd w'
      unfold partW
      generalize wd w' = W at *
      simp [h1, h2]
end W_losesone_k03_whole_letter_products

set_option Elab.async false
set_option autoImplicit false
set_option linter.all false
set_option maxRecDepth 100000
namespace W_losesone_k03_whole_letter_products
open PySem PySem.Spec PyProof.Rows L2 Ow

theorem freeze_wd (w : Wd) : freeze (wd w) = wd w := by
  cases w with
  | leaf k => exact ev_freeze1
  | tn w => exact ev_freeze4
  | tm a b => exact ev_freeze4
theorem word_right_of (W : D) (R l : List D) (fl : Int) (t : Str) (w1 : Ow.top W = false) (w2 : settle W = W) (w3 : freeze W = W) (e0 : dRepr [.lst false [W, .tup R]] = some (.str t))
    (e1 : M_letter_word 60 [W, .tup R, .int fl] = some (.ok (.tup l) [some W, some (.tup R), some (.int fl)])) (e2 : M__law_is_told [.tup l, .tup l] = some (.ok (.bl true) [some (.tup l), some (.tup l)])) :
    M__law_is_word_right [W, .tup R, .int fl, .tup l] = some (.ok (.bl true) [some W, some (.tup R), some (.int fl), some (.tup l)]) := by
  generalize hF : M_letter_word 60 = F at e1
  have r0 : ∀ x : Option D, mB dRepr [.vl (mB dLst [.vl (mNm 0), .vl (mNm 1)])] [some W, some (.tup R), some (.int fl), some (.tup l), x] = some (.ok (.str t) [some W, some (.tup R), some (.int fl), some (.tup l), x]) := fun x => by
    have h1 : mB dLst [.vl (mNm 0), .vl (mNm 1)] [some W, some (.tup R), some (.int fl), some (.tup l), x] = some (.ok (.lst true [W, .tup R]) [some W, some (.tup R), some (.int fl), some (.tup l), x]) := by simp [w1, w2]
    have h2 := evA_vl (us := []) (l := []) h1 evA0
    rw [ev_set7, ev_frz, ev_frz, w3, ev_freeze4, ev_frz0] at h2
    exact mB_ok h2 rfl e0
  have c1 : mCall F [.nm 0, .nm 1, .nm 2] [some W, some (.tup R), some (.int fl), some (.tup l), some (.str t)] = some (.ok (.tup l) [some W, some (.tup R), some (.int fl), some (.tup l), some (.str t)]) := by
    rw [mCall_is (l := [.nm 0, .nm 1, .nm 2]) (e' := [some W, some (.tup R), some (.int fl), some (.tup l), some (.str t)]) (ds := [W, .tup R, .int fl]) rfl rfl (by simp [w1]) rfl e1 rfl]
    simp [w1]
  have c2 : mCallK F [2, 1, 0] [.nm 2, .nm 1, .nm 0] [some W, some (.tup R), some (.int fl), some (.tup l), some (.str t)] = some (.ok (.tup l) [some W, some (.tup R), some (.int fl), some (.tup l), some (.str t)]) := by
    rw [mCallK_is (l := [.nm 2, .nm 1, .nm 0]) (e' := [some W, some (.tup R), some (.int fl), some (.tup l), some (.str t)]) (ds := [W, .tup R, .int fl]) rfl rfl (by simp [permL, w1]) rfl e1 rfl]
    simp [permL, w1]
  have c3 : mCall M__law_is_told [.vl (mCall F [.nm 0, .nm 1, .nm 2]), .nm 3] [some W, some (.tup R), some (.int fl), some (.tup l), some (.str t)] = some (.ok (.bl true) [some W, some (.tup R), some (.int fl), some (.tup l), some (.str t)]) := by
    rw [mCall_is (l := [.v (.tup l), .nm 3]) (e' := [some W, some (.tup R), some (.int fl), some (.tup l), some (.str t)]) (ds := [.tup l, .tup l]) (evA_vl c1 (evA_nm rfl evA0)) rfl (by simp) rfl e2 rfl]
    simp
  have c4 : mCall M__law_is_told [.vl (mCallK F [2, 1, 0] [.nm 2, .nm 1, .nm 0]), .nm 3] [some W, some (.tup R), some (.int fl), some (.tup l), some (.str t)] = some (.ok (.bl true) [some W, some (.tup R), some (.int fl), some (.tup l), some (.str t)]) := by
    rw [mCall_is (l := [.v (.tup l), .nm 3]) (e' := [some W, some (.tup R), some (.int fl), some (.tup l), some (.str t)]) (ds := [.tup l, .tup l]) (evA_vl c2 (evA_nm rfl evA0)) rfl (by simp) rfl e2 rfl]
    simp
  refine mF_rt (n := 4) (l := 5) (fx := FX [0, 1, 2, 3]) (s := S__law_is_word_right) (ds := [W, .tup R, .int fl, .tup l]) (e := [some W, some (.tup R), some (.int fl), some (.tup l), some (.str t)]) rfl ?_
  show S__law_is_word_right [some W, some (.tup R), some (.int fl), some (.tup l), none] = _
  unfold S__law_is_word_right
  rw [hF]
  refine (sSeq_nx (sSet_ok (r0 none))).trans ?_
  refine (sSeq_nx (e' := [some W, some (.tup R), some (.int fl), some (.tup l), some (.str t)]) (by simp [c3])).trans ?_
  refine (sSeq_nx (e' := [some W, some (.tup R), some (.int fl), some (.tup l), some (.str t)]) (by simp [c4])).trans ?_
  refine sRt_ok ?_
  refine mB_ok (l := [.v (.str t), .nm 4]) (ds := [.str t, .str t]) (evA_vl (d := .str t) (r0 _) (evA_nm rfl evA0)) rfl ?_
  rw [ev_eqs, decide_eq_true rfl]
theorem Rp.turned : Rp 0 10 (.str "turned") := ⟨by unfold noDct; rfl, by unfold py PyData.showable; rfl, by unfold py PyData.depth; exact Nat.le_refl _, by unfold Ow.sz; decide +kernel⟩
theorem Rp.times : Rp 0 10 (.str "times") := ⟨by unfold noDct; rfl, by unfold py PyData.showable; rfl, by unfold py PyData.depth; exact Nat.le_refl _, by unfold Ow.sz; decide +kernel⟩
theorem lvs_pos : ∀ w : Wd, 1 ≤ (lvs w).length
  | .leaf _ => Nat.le_refl 1
  | .tn w => lvs_pos w
  | .tm a b => by
    have := lvs_pos a
    show 1 ≤ (lvs a ++ lvs b).length
    rw [List.length_append]; omega
theorem Rp.wd : ∀ w : Wd, (∀ k ∈ lvs w, k < 1000) → Rp (dep w) (90 * (lvs w).length * (dep w + 1)) (wd w)
  | .leaf k, h => (Rp.int (i := (k : Int)) (by have := h k List.mem_cons_self; omega)).more (Nat.le_refl _) (by show 70 ≤ 90 * 1 * (0 + 1); omega)
  | .tn w, h => by
    have ih := Rp.wd w h
    have h1 := (Rps.cons (Rp.turned.more (Nat.zero_le (dep w)) (Nat.le_refl _)) (Rps.cons ih (Rps.nil (s := 0)))).tup
    refine h1.more (Nat.le_refl _) ?_
    have hp := lvs_pos w
    show _ ≤ 90 * (lvs w).length * (dep w + 1 + 1)
    rw [Nat.mul_add (90 * (lvs w).length) (dep w + 1) 1]
    omega
  | .tm a b, h => by
    have i1 := Rp.wd a fun k hk => h k (List.mem_append_left _ hk)
    have i2 := Rp.wd b fun k hk => h k (List.mem_append_right _ hk)
    have ha : dep a ≤ max (dep a) (dep b) := Nat.le_max_left _ _
    have hb : dep b ≤ max (dep a) (dep b) := Nat.le_max_right _ _
    have hp := lvs_pos a
    have hq := lvs_pos b
    have g1 : 90 * (lvs a).length * (dep a + 1) ≤ 90 * (lvs a).length * (max (dep a) (dep b) + 1) := Nat.mul_le_mul_left _ (by omega)
    have g2 : 90 * (lvs b).length * (dep b + 1) ≤ 90 * (lvs b).length * (max (dep a) (dep b) + 1) := Nat.mul_le_mul_left _ (by omega)
    have h1 := (Rps.cons (Rp.times.more (Nat.zero_le _) (Nat.le_refl _)) (Rps.cons (i1.more ha g1) (Rps.cons (i2.more hb g2) (Rps.nil (s := 0))))).tup
    have hl : (lvs (.tm a b)).length = (lvs a).length + (lvs b).length := List.length_append
    have hd : dep (.tm a b) = max (dep a) (dep b) + 1 := Nat.add_comm _ _
    rw [hl, hd]
    refine h1.more (Nat.le_refl _) ?_
    generalize max (dep a) (dep b) + 1 = M
    have e : 90 * ((lvs a).length + (lvs b).length) * (M + 1) = 90 * (lvs a).length * M + 90 * (lvs b).length * M + (90 * (lvs a).length + 90 * (lvs b).length) := by
      rw [Nat.mul_add, Nat.mul_one, Nat.mul_add 90, Nat.add_mul]
    rw [e]
    omega
theorem cnt_le (ls : List Nat) (f : Nat) : cnt ls f ≤ ls.length := by
  unfold cnt
  have := List.countP_le_length (p := fun x : Nat => x.testBit f) (l := ls)
  omega
theorem due_repr {n m : Nat} {R : List Nat} (hm : m ≤ 200) (hn : n ≤ 61) (w : Wd) (hl : (lvs w).length ≤ 1000) : ∃ t, dRepr [wDue n m R w] = some (.str t) := by
  have h1 : (sW n R w).natAbs < 2 ^ 64 := Nat.lt_of_le_of_lt (sW_one n R w) (by decide)
  have hp : 2 ^ n ≤ 2 ^ 61 := Nat.pow_le_pow_right (by decide) hn
  have hx := (xW_is n R w).2.1
  have h2 : ((xW n R w : Nat) : Int).natAbs < 2 ^ 64 := by omega
  have h3 : Rps 0 (72 * 200) (exD m fun k => cnt (lsW R w) k / 2) := by
    rw [exD_ints]
    refine (Rps.ints fun x hx => ?_).more (Nat.le_refl _) (by simp; omega)
    obtain ⟨f, _, rfl⟩ := List.mem_map.mp hx
    have h5 := cnt_le (lsW R w) f
    have h6 := cnt_nn (lsW R w) f
    have h7 : (lsW R w).length = (lvs w).length := by unfold lsW; rw [List.length_map]
    omega
  have h4 := Rps.cons (k := 1) ((Rp.int h1).more (by omega) (Nat.le_refl _)) (Rps.cons ((Rp.int h2).more (by omega) (Nat.le_refl _)) (Rps.cons (h3.tup) (Rps.nil (s := 0))))
  exact h4.tup.repr rfl (by omega) (by omega)
theorem word_right {n m : Nat} {R : List Nat} (hm : m ≤ 61) (hnm : n ≤ m) (hR : ∀ x ∈ R, x < 2 ^ n) (hRl : R.length ≤ 100) (w : Wd) (hd : dep w ≤ 20) (hl : (lvs w).length ≤ 100) (hk : ∀ k ∈ lvs w, k < R.length) :
    M__law_is_word_right [wd w, .tup (natsD R), .int m, wDue n m R w] = some (.ok (.bl true) [some (wd w), some (.tup (natsD R)), some (.int m), some (wDue n m R w)]) := by
  have e1 := letter_word_ok hnm (by omega) hR w 60 (by omega) hk
  obtain ⟨t, ht⟩ := due_repr (n := n) (m := m) (R := R) (by omega) (by omega) w (by omega)
  have hp : 2 ^ n ≤ 2 ^ 61 := Nat.pow_le_pow_right (by decide) (by omega)
  have hw := (Rp.wd w fun k hk2 => by have := hk k hk2; omega).more (k' := 20) (s' := 189000) hd (by
    have g := Nat.mul_le_mul (Nat.mul_le_mul (Nat.le_refl 90) hl) (show dep w + 1 ≤ 21 by omega)
    omega)
  have hr : Rps 0 7200 (natsD R) := by
    rw [natsD_eq]
    refine (Rps.ints fun x hx => ?_).more (Nat.le_refl _) (by rw [List.length_map]; omega)
    obtain ⟨y, hy, rfl⟩ := List.mem_map.mp hx
    have := hR y hy
    omega
  obtain ⟨t0, ht0⟩ := (Rps.lst (o := false) (Rps.cons hw (Rps.cons (hr.tup.more (by omega) (Nat.le_refl _)) (Rps.nil (s := 0))))).repr rfl (by omega) (by omega)
  exact word_right_of (wd w) (natsD R) _ m t0 (wd_top w) (settle_wd w) (freeze_wd w) ht0 e1 (told_ok ht)
end W_losesone_k03_whole_letter_products

set_option Elab.async false
set_option autoImplicit false
set_option linter.all false
set_option maxRecDepth 100000
namespace W_losesone_k03_whole_letter_products
open PySem PySem.Spec PyProof.Rows L2 Ow

theorem wt_b1 {b : D} (hb : IsBag b) {sorts : Nat} (hs1 : 1 ≤ sorts) (hs2 : sorts ≤ 4) (u : Bool) (place : Nat) (ls : List Nat) (hlen : ls.length ≤ 100) (x1 x2 x3 x4 x5 x6 x11 : Option D) (r : Sl) : ∃ (b' : D) (c : Nat) (y11 : Option D), c < 4 ∧ IsBag b' ∧
    B__law_is_words_turn_right_1 (some b :: x1 :: x2 :: x3 :: x4 :: x5 :: x6 :: some (.lst true (natsD ls)) :: some (.int sorts) :: some (.bl u) :: some (.int place) :: x11 :: r) =
      some (.nx (some b' :: x1 :: x2 :: x3 :: x4 :: x5 :: x6 :: some (.lst true (natsD (ls ++ [if u then place else c]))) :: some (.int sorts) :: some (.bl u) :: some (.int place) :: y11 :: r)) := by
  obtain ⟨v1, b1, hb1, v10, v11, p1⟩ := call_draw hb (below := (sorts : Int)) (by omega) (by omega) (u := .nm 8) (av := .nm 8) (r := x1 :: x2 :: x3 :: x4 :: x5 :: x6 :: some (.lst true (natsD ls)) :: some (.int sorts) :: some (.bl u) :: some (.int place) :: x11 :: r) rfl rfl rfl rfl
  obtain ⟨v2, b2, hb2, v20, v21, p2⟩ := call_draw hb1 (below := (sorts : Int)) (by omega) (by omega) (u := .nm 8) (av := .nm 8) (r := x1 :: x2 :: x3 :: x4 :: x5 :: x6 :: some (.lst true (natsD ls)) :: some (.int sorts) :: some (.bl u) :: some (.int place) :: x11 :: r) rfl rfl rfl rfl
  have hL : mB dLst [.vl (mCall M__law_draw [.nm 0, .nm 8]), .vl (mB dSub [.vl (mC (.int 3)), .vl (mCall M__law_draw [.nm 0, .nm 8])])] (some b :: x1 :: x2 :: x3 :: x4 :: x5 :: x6 :: some (.lst true (natsD ls)) :: some (.int sorts) :: some (.bl u) :: some (.int place) :: x11 :: r) =
      some (.ok (.lst true (([v1, 3 - v2] : List Int).map D.int)) (some b2 :: x1 :: x2 :: x3 :: x4 :: x5 :: x6 :: some (.lst true (natsD ls)) :: some (.int sorts) :: some (.bl u) :: some (.int place) :: x11 :: r)) :=
    mB_ok (l := [.v (.int v1), .v (.int (3 - v2))]) (ds := [.int v1, .int (3 - v2)])
      (evA_vl (d := .int v1) p1 (evA_vl (d := .int (3 - v2)) (mB_ok (l := [.v (.int 3), .v (.int v2)]) (ds := [.int 3, .int v2]) (evA_vl (d := .int 3) rfl (evA_vl (d := .int v2) p2 evA0)) rfl rfl) evA0)) rfl rfl
  obtain ⟨v, b3, hv, hb3, p3⟩ := call_pickv (b := b) (b0 := b) (b1 := b2) hb2 (is := [v1, 3 - v2]) (by simp) (by show (2 : Nat) < 16777216; decide) (r := x1 :: x2 :: x3 :: x4 :: x5 :: x6 :: some (.lst true (natsD ls)) :: some (.int sorts) :: some (.bl u) :: some (.int place) :: x11 :: r) rfl hL
  have hv0 : 0 ≤ v ∧ v < 4 := by
    simp only [List.mem_cons, List.not_mem_nil, or_false] at hv
    omega
  obtain ⟨c, rfl⟩ := Int.eq_ofNat_of_zero_le hv0.1
  refine ⟨b3, c, some (.int c), by omega, hb3, ?_⟩
  unfold B__law_is_words_turn_right_1
  refine (sSeq_nx (e' := some b3 :: x1 :: x2 :: x3 :: x4 :: x5 :: x6 :: some (.lst true (natsD ls)) :: some (.int sorts) :: some (.bl u) :: some (.int place) :: some (.int c) :: r) (sSet_ok p3)).trans ?_
  have hI : mIf (mTr (mNm 9)) (mNm 10) (mNm 11) (some b3 :: x1 :: x2 :: x3 :: x4 :: x5 :: x6 :: some (.lst true (natsD ls)) :: some (.int sorts) :: some (.bl u) :: some (.int place) :: some (.int c) :: r) =
      some (.ok (.int ((if u then place else c : Nat) : Int)) (some b3 :: x1 :: x2 :: x3 :: x4 :: x5 :: x6 :: some (.lst true (natsD ls)) :: some (.int sorts) :: some (.bl u) :: some (.int place) :: some (.int c) :: r)) := by
    cases u <;> rfl
  have e4 : natsD (ls ++ [if u then place else c]) = natsD ls ++ [.int ((if u then place else c : Nat) : Int)] := by unfold natsD; rw [List.map_append]; rfl
  rw [e4]
  exact sDo_ok (mMut_ok (l0 := natsD ls) (l := natsD ls) (as := [.v (.int ((if u then place else c : Nat) : Int))]) (ds := [.int ((if u then place else c : Nat) : Int)]) rfl (evA_vl (d := .int ((if u then place else c : Nat) : Int)) hI evA0) rfl rfl (append_ok rfl (by unfold natsD; rw [List.length_map]; omega)))
theorem wt_loop1 {sorts : Nat} (hs1 : 1 ≤ sorts) (hs2 : sorts ≤ 4) (u : Bool) {x1 x2 x3 x4 x5 x6 : Option D} {r : Sl} {ok : Sl → Prop} (hok : ∀ e, ok e) : ∀ (k s : Nat) (ls : List Nat) (b : D) (x10 x11 : Option D), IsBag b → k + s ≤ 4 → ls.length = s → (∀ l ∈ ls, l < 4) → ∃ b' ls' y10 y11,
    forL (.nm 10) B__law_is_words_turn_right_1 ok ((List.range k).map fun i : Nat => .int ((s + i : Nat) : Int)) (some b :: x1 :: x2 :: x3 :: x4 :: x5 :: x6 :: some (.lst true (natsD ls)) :: some (.int sorts) :: some (.bl u) :: x10 :: x11 :: r) =
      some (.nx (some b' :: x1 :: x2 :: x3 :: x4 :: x5 :: x6 :: some (.lst true (natsD ls')) :: some (.int sorts) :: some (.bl u) :: y10 :: y11 :: r)) ∧ IsBag b' ∧ ls'.length = s + k ∧ ∀ l ∈ ls', l < 4
  | 0, s, ls, b, x10, x11, hb, _, hl, h4 => ⟨b, ls, x10, x11, forL_nil (hok _), hb, hl, h4⟩
  | k + 1, s, ls, b, x10, x11, hb, hk, hl, h4 => by
    obtain ⟨b1, c, y11, hc, hb1, q⟩ := wt_b1 hb hs1 hs2 u s ls (by omega) x1 x2 x3 x4 x5 x6 x11 r
    obtain ⟨b', ls', y10, z11, g1, g2, g3, g4⟩ := wt_loop1 hs1 hs2 u (x1 := x1) (x2 := x2) (x3 := x3) (x4 := x4) (x5 := x5) (x6 := x6) (r := r) hok k (s + 1) (ls ++ [if u then s else c]) b1 (some (.int s)) y11 hb1 (by omega) (by simp [hl]) (by
      intro l h
      rcases List.mem_append.mp h with h | h
      · exact h4 l h
      · rw [List.mem_singleton.mp h]; split <;> omega)
    refine ⟨b', ls', y10, z11, ?_, g2, by omega, g4⟩
    have e : ((List.range (k + 1)).map fun i : Nat => D.int ((s + i : Nat) : Int)) = .int (s : Int) :: (List.range k).map fun i : Nat => D.int ((s + 1 + i : Nat) : Int) := by
      rw [List.range_succ_eq_map, List.map_cons, List.map_map]
      congr 1
      refine List.map_congr_left fun i _ => ?_
      show D.int ((s + (i + 1) : Nat) : Int) = _
      rw [show s + (i + 1) = s + 1 + i by omega]
    rw [e]
    exact (forL_nx (hok _) rfl q).trans g1
/-- [row[letter] for letter in letters] -/
theorem wt_row {row ls : List Nat} (hls : ∀ l ∈ ls, l < row.length) (hl : ls.length ≤ 100) (x0 x1 x3 x4 x5 x6 x8 x9 x10 x11 : Option D) (r : Sl) : mLc (.nm 11) [.nm 7] gSeq [11] (mC (.bl true)) (mB dIx [.nm 2, .nm 11])
      (x0 :: x1 :: some (.lst true (natsD row)) :: x3 :: x4 :: x5 :: x6 :: some (.lst true (natsD ls)) :: x8 :: x9 :: x10 :: x11 :: r) =
    some (.ok (.lst true (natsD (ls.map fun k => row.getD k 0))) (x0 :: x1 :: some (.lst true (natsD row)) :: x3 :: x4 :: x5 :: x6 :: some (.lst true (natsD ls)) :: x8 :: x9 :: x10 :: none :: r)) := by
  have hll : (natsD ls).length ≤ 16777216 := by unfold natsD; rw [List.length_map]; omega
  refine mLc_ok (av := [.nm 7]) (e' := x0 :: x1 :: some (.lst true (natsD row)) :: x3 :: x4 :: x5 :: x6 :: some (.lst true (natsD ls)) :: x8 :: x9 :: x10 :: x11 :: r) (ds := [.lst true (natsD ls)]) (items := natsD ls) rfl rfl (by show (if Ow.low _ then _ else _) = _; rw [low_nats]; rfl) hll ?_
  have hp := lcL_pure (t := .nm 11) (c := mC (.bl true)) (y := mB dIx [.nm 2, .nm 11]) (vs := [11]) (ok := fun e => resolves e [.nm 7] = some [.lst true (natsD ls)]) (e := x0 :: x1 :: some (.lst true (natsD row)) :: x3 :: x4 :: x5 :: x6 :: some (.lst true (natsD ls)) :: x8 :: x9 :: x10 :: none :: r)
    (fun _ => true) (fun d => match d with | .int i => .int (row.getD i.toNat 0 : Nat) | d => d) rfl (l := natsD ls) fun d hd => by
      obtain ⟨k, hk, rfl⟩ := List.mem_map.mp hd
      refine ⟨x0 :: x1 :: some (.lst true (natsD row)) :: x3 :: x4 :: x5 :: x6 :: some (.lst true (natsD ls)) :: x8 :: x9 :: x10 :: some (.int k) :: r, x0 :: x1 :: some (.lst true (natsD row)) :: x3 :: x4 :: x5 :: x6 :: some (.lst true (natsD ls)) :: x8 :: x9 :: x10 :: some (.int k) :: r, rfl, rfl, fun _ => rfl, fun _ => ⟨x0 :: x1 :: some (.lst true (natsD row)) :: x3 :: x4 :: x5 :: x6 :: some (.lst true (natsD ls)) :: x8 :: x9 :: x10 :: some (.int k) :: r, ?_, rfl⟩⟩
      refine mB_ok (l := [.nm 2, .nm 11]) (ds := [.lst true (natsD row), .int k]) rfl rfl ?_
      rw [ev_ixl, atI_nats (hls k hk)]
      rfl
  refine hp.trans ?_
  rw [List.filter_eq_self.mpr (fun _ _ => rfl)]
  unfold natsD
  rw [List.map_map, List.map_map]
  rfl
/-- tuple([many // 2 for many in counts]) -/
theorem wt_half {n : Nat} {ls : List Nat} (hn : n ≤ 1000) (x0 x1 x2 x3 x4 x5 x6 x7 x8 x9 x10 x11 x12 x14 x15 x16 x17 x18 x19 : Option D) : mB dTuple [.vl (mLc (.nm 20) [.nm 13] gSeq [20] (mC (.bl true)) (mB dFdiv [.nm 20, .vl (mC (.int 2))]))]
      [x0, x1, x2, x3, x4, x5, x6, x7, x8, x9, x10, x11, x12, some (.lst true (cnts ls n)), x14, x15, x16, x17, x18, x19, none] =
    some (.ok (.tup (exD n fun f => cnt ls f / 2)) [x0, x1, x2, x3, x4, x5, x6, x7, x8, x9, x10, x11, x12, some (.lst true (cnts ls n)), x14, x15, x16, x17, x18, x19, none]) := by
  have hc : cnts ls n = exD n (cnt ls) := rfl
  have hlow := low_ex n (cnt ls)
  have h : mLc (.nm 20) [.nm 13] gSeq [20] (mC (.bl true)) (mB dFdiv [.nm 20, .vl (mC (.int 2))]) [x0, x1, x2, x3, x4, x5, x6, x7, x8, x9, x10, x11, x12, some (.lst true (cnts ls n)), x14, x15, x16, x17, x18, x19, none] =
      some (.ok (.lst true (exD n fun f => cnt ls f / 2)) [x0, x1, x2, x3, x4, x5, x6, x7, x8, x9, x10, x11, x12, some (.lst true (cnts ls n)), x14, x15, x16, x17, x18, x19, none]) := by
    refine mLc_ok (av := [.nm 13]) (e' := [x0, x1, x2, x3, x4, x5, x6, x7, x8, x9, x10, x11, x12, some (.lst true (cnts ls n)), x14, x15, x16, x17, x18, x19, none]) (ds := [.lst true (cnts ls n)]) (items := cnts ls n) rfl rfl (by show (if Ow.low _ then _ else _) = _; rw [hc, hlow]; rfl) (by rw [hc, exD_len]; omega) ?_
    have hp := lcL_pure (t := .nm 20) (c := mC (.bl true)) (y := mB dFdiv [.nm 20, .vl (mC (.int 2))]) (vs := [20]) (ok := fun e => resolves e [.nm 13] = some [.lst true (cnts ls n)]) (e := [x0, x1, x2, x3, x4, x5, x6, x7, x8, x9, x10, x11, x12, some (.lst true (cnts ls n)), x14, x15, x16, x17, x18, x19, none])
      (fun _ => true) (fun d => match d with | .int i => .int (i / 2) | d => d) rfl (l := cnts ls n) fun d hd => by
        obtain ⟨k, hk, rfl⟩ := List.mem_map.mp hd
        exact ⟨[x0, x1, x2, x3, x4, x5, x6, x7, x8, x9, x10, x11, x12, some (.lst true (cnts ls n)), x14, x15, x16, x17, x18, x19, some (.int (cnt ls k))], [x0, x1, x2, x3, x4, x5, x6, x7, x8, x9, x10, x11, x12, some (.lst true (cnts ls n)), x14, x15, x16, x17, x18, x19, some (.int (cnt ls k))], rfl, rfl, fun _ => rfl, fun _ => ⟨[x0, x1, x2, x3, x4, x5, x6, x7, x8, x9, x10, x11, x12, some (.lst true (cnts ls n)), x14, x15, x16, x17, x18, x19, some (.int (cnt ls k))], rfl, rfl⟩⟩
    refine hp.trans ?_
    rw [List.filter_eq_self.mpr (fun _ _ => rfl), hc]
    unfold exD
    rw [List.map_map]
    rfl
  have h2 := evA_vl (us := []) (l := []) h evA0
  rw [ev_set7, frz_ex] at h2
  refine mB_ok h2 rfl ?_
  show (if Ow.low _ then _ else _) = _
  rw [low_ex]; rfl
end W_losesone_k03_whole_letter_products

set_option Elab.async false
set_option autoImplicit false
set_option linter.all false
set_option maxRecDepth 100000
namespace W_losesone_k03_whole_letter_products
open PySem PySem.Spec PyProof.Rows L2 Ow

section
variable (b b1 b2 : D) (N M need turn sorts s x : Int) (R A A' P DN LS C EX EX2 SM Z : List D) (u : Bool) (W : D) (t : Str) (x10 x11 x16 x17 x18 x19 x20 : Option D)
theorem wt_b2 (hb1 : Ow.top b1 = true) (hb0 : Ow.top b = true) (w1 : Ow.top W = false) (w2 : settle W = W)
    (hw : M__law_own_word [b, .lst true LS, .bl (decide (turn = 0))] = some (.ok W [some b1, some (.lst true LS), some (.bl (decide (turn = 0)))]))
    (p2 : mB dTuple [.vl (mB (dSl false true) [.nm 2, .vl (mB dAdd [.nm 12, .vl (mCall M__law_draw [.nm 0, .vl (mB dSub [.vl (mC (.int 5)), .nm 12])])])])]
      [some b1, some (.int N), some (.lst true R), some (.lst true A), some (.lst true P), some (.lst true DN), some (.int M), some (.lst true LS), some (.int sorts), some (.bl u), x10, x11, some (.int need), some (.lst true C), some (.tup EX), some (.int turn), x16, x17, x18, x19, x20] =
      some (.ok (.tup SM) [some b2, some (.int N), some (.lst true R), some (.lst true A), some (.lst true P), some (.lst true DN), some (.int M), some (.lst true LS), some (.int sorts), some (.bl u), x10, x11, some (.int need), some (.lst true C), some (.tup EX), some (.int turn), x16, x17, x18, x19, x20]))
    (hs : M__law_word_sign 60 [W, .tup SM, .lst true DN] = some (.ok (.tup [.int s, .int x]) [some W, some (.tup SM), some (.lst true DN)]))
    (hp : M__law_own_place [.lst true C, .lst true P] = some (.ok (.int x) [some (.lst true C), some (.lst true P)]))
    (hg : gAppend A [.tup [.str "word", W, .tup SM, .int N, .tup [.int s, .int x, .tup EX]]] = some (.non, A'))
    (hz : dMulA [.tup [.int 0], .int M] = some (.tup Z)) (ha : dAdd [.tup EX, .tup Z] = some (.tup EX2))
    (r1 : M__law_is_word_right [W, .tup SM, .int N, .tup [.int s, .int x, .tup EX]] = some (.ok (.bl true) [some W, some (.tup SM), some (.int N), some (.tup [.int s, .int x, .tup EX])]))
    (r2 : M__law_is_word_right [W, .tup SM, .int (N + M), .tup [.int s, .int x, .tup EX2]] = some (.ok (.bl true) [some W, some (.tup SM), some (.int (N + M)), some (.tup [.int s, .int x, .tup EX2])])) :
    B__law_is_words_turn_right_2 [some b, some (.int N), some (.lst true R), some (.lst true A), some (.lst true P), some (.lst true DN), some (.int M), some (.lst true LS), some (.int sorts), some (.bl u), x10, x11, some (.int need), some (.lst true C), some (.tup EX), some (.int turn), x16, x17, x18, x19, x20] =
      some (.nx [some b2, some (.int N), some (.lst true R), some (.lst true A'), some (.lst true P), some (.lst true DN), some (.int M), some (.lst true LS), some (.int sorts), some (.bl u), x10, x11, some (.int need), some (.lst true C), some (.tup EX), some (.int turn), some W, some (.tup SM), some (.tup [.int s, .int x, .tup EX]), some (.tup [.int s, .int x, .tup EX2]), x20]) := by
  have c1 : mCall M__law_own_word [.nm 0, .nm 7, .vl (mB dEqA [.nm 15, .vl (mC (.int 0))])] [some b, some (.int N), some (.lst true R), some (.lst true A), some (.lst true P), some (.lst true DN), some (.int M), some (.lst true LS), some (.int sorts), some (.bl u), x10, x11, some (.int need), some (.lst true C), some (.tup EX), some (.int turn), x16, x17, x18, x19, x20] =
      some (.ok W [some b1, some (.int N), some (.lst true R), some (.lst true A), some (.lst true P), some (.lst true DN), some (.int M), some (.lst true LS), some (.int sorts), some (.bl u), x10, x11, some (.int need), some (.lst true C), some (.tup EX), some (.int turn), x16, x17, x18, x19, x20]) := by
    rw [mCall_is (l := [.nm 0, .nm 7, .v (.bl (decide (turn = 0)))]) (e' := [some b, some (.int N), some (.lst true R), some (.lst true A), some (.lst true P), some (.lst true DN), some (.int M), some (.lst true LS), some (.int sorts), some (.bl u), x10, x11, some (.int need), some (.lst true C), some (.tup EX), some (.int turn), x16, x17, x18, x19, x20]) (ds := [b, .lst true LS, .bl (decide (turn = 0))]) rfl rfl (by simp [hb0]) rfl hw rfl]
    simp [hb0]
  have c3 : mCall (M__law_word_sign 60) [.nm 16, .nm 17, .nm 5] [some b2, some (.int N), some (.lst true R), some (.lst true A), some (.lst true P), some (.lst true DN), some (.int M), some (.lst true LS), some (.int sorts), some (.bl u), x10, x11, some (.int need), some (.lst true C), some (.tup EX), some (.int turn), some W, some (.tup SM), x18, x19, x20] =
      some (.ok (.tup [.int s, .int x]) [some b2, some (.int N), some (.lst true R), some (.lst true A), some (.lst true P), some (.lst true DN), some (.int M), some (.lst true LS), some (.int sorts), some (.bl u), x10, x11, some (.int need), some (.lst true C), some (.tup EX), some (.int turn), some W, some (.tup SM), x18, x19, x20]) := by
    rw [mCall_is (l := [.nm 16, .nm 17, .nm 5]) (e' := [some b2, some (.int N), some (.lst true R), some (.lst true A), some (.lst true P), some (.lst true DN), some (.int M), some (.lst true LS), some (.int sorts), some (.bl u), x10, x11, some (.int need), some (.lst true C), some (.tup EX), some (.int turn), some W, some (.tup SM), x18, x19, x20]) (ds := [W, .tup SM, .lst true DN]) rfl rfl (by simp [w1]) rfl hs rfl]
    simp [w1]
  have c4 : mCall M__law_own_place [.nm 13, .nm 4] [some b2, some (.int N), some (.lst true R), some (.lst true A), some (.lst true P), some (.lst true DN), some (.int M), some (.lst true LS), some (.int sorts), some (.bl u), x10, x11, some (.int need), some (.lst true C), some (.tup EX), some (.int turn), some W, some (.tup SM), x18, x19, x20] =
      some (.ok (.int x) [some b2, some (.int N), some (.lst true R), some (.lst true A), some (.lst true P), some (.lst true DN), some (.int M), some (.lst true LS), some (.int sorts), some (.bl u), x10, x11, some (.int need), some (.lst true C), some (.tup EX), some (.int turn), some W, some (.tup SM), x18, x19, x20]) := by
    rw [mCall_is (l := [.nm 13, .nm 4]) (e' := [some b2, some (.int N), some (.lst true R), some (.lst true A), some (.lst true P), some (.lst true DN), some (.int M), some (.lst true LS), some (.int sorts), some (.bl u), x10, x11, some (.int need), some (.lst true C), some (.tup EX), some (.int turn), some W, some (.tup SM), x18, x19, x20]) (ds := [.lst true C, .lst true P]) rfl rfl (by simp) rfl hp rfl]
    simp
  have c5 : mCall M__law_is_word_right [.nm 16, .nm 17, .nm 1, .nm 18] [some b2, some (.int N), some (.lst true R), some (.lst true A'), some (.lst true P), some (.lst true DN), some (.int M), some (.lst true LS), some (.int sorts), some (.bl u), x10, x11, some (.int need), some (.lst true C), some (.tup EX), some (.int turn), some W, some (.tup SM), some (.tup [.int s, .int x, .tup EX]), some (.tup [.int s, .int x, .tup EX2]), x20] =
      some (.ok (.bl true) [some b2, some (.int N), some (.lst true R), some (.lst true A'), some (.lst true P), some (.lst true DN), some (.int M), some (.lst true LS), some (.int sorts), some (.bl u), x10, x11, some (.int need), some (.lst true C), some (.tup EX), some (.int turn), some W, some (.tup SM), some (.tup [.int s, .int x, .tup EX]), some (.tup [.int s, .int x, .tup EX2]), x20]) := by
    rw [mCall_is (l := [.nm 16, .nm 17, .nm 1, .nm 18]) (e' := [some b2, some (.int N), some (.lst true R), some (.lst true A'), some (.lst true P), some (.lst true DN), some (.int M), some (.lst true LS), some (.int sorts), some (.bl u), x10, x11, some (.int need), some (.lst true C), some (.tup EX), some (.int turn), some W, some (.tup SM), some (.tup [.int s, .int x, .tup EX]), some (.tup [.int s, .int x, .tup EX2]), x20]) (ds := [W, .tup SM, .int N, .tup [.int s, .int x, .tup EX]]) rfl rfl (by simp [w1]) rfl r1 rfl]
    simp [w1]
  have c6 : mCall M__law_is_word_right [.nm 16, .nm 17, .vl (mB dAdd [.nm 1, .nm 6]), .nm 19] [some b2, some (.int N), some (.lst true R), some (.lst true A'), some (.lst true P), some (.lst true DN), some (.int M), some (.lst true LS), some (.int sorts), some (.bl u), x10, x11, some (.int need), some (.lst true C), some (.tup EX), some (.int turn), some W, some (.tup SM), some (.tup [.int s, .int x, .tup EX]), some (.tup [.int s, .int x, .tup EX2]), x20] =
      some (.ok (.bl true) [some b2, some (.int N), some (.lst true R), some (.lst true A'), some (.lst true P), some (.lst true DN), some (.int M), some (.lst true LS), some (.int sorts), some (.bl u), x10, x11, some (.int need), some (.lst true C), some (.tup EX), some (.int turn), some W, some (.tup SM), some (.tup [.int s, .int x, .tup EX]), some (.tup [.int s, .int x, .tup EX2]), x20]) := by
    rw [mCall_is (l := [.nm 16, .nm 17, .v (.int (N + M)), .nm 19]) (e' := [some b2, some (.int N), some (.lst true R), some (.lst true A'), some (.lst true P), some (.lst true DN), some (.int M), some (.lst true LS), some (.int sorts), some (.bl u), x10, x11, some (.int need), some (.lst true C), some (.tup EX), some (.int turn), some W, some (.tup SM), some (.tup [.int s, .int x, .tup EX]), some (.tup [.int s, .int x, .tup EX2]), x20]) (ds := [W, .tup SM, .int (N + M), .tup [.int s, .int x, .tup EX2]]) rfl rfl (by simp [w1]) rfl r2 rfl]
    simp [w1]
  unfold B__law_is_words_turn_right_2
  refine (sSeq_nx (e' := [some b2, some (.int N), some (.lst true R), some (.lst true A), some (.lst true P), some (.lst true DN), some (.int M), some (.lst true LS), some (.int sorts), some (.bl u), x10, x11, some (.int need), some (.lst true C), some (.tup EX), some (.int turn), some W, some (.tup SM), x18, x19, x20]) ?_).trans ?_
  · rw [ev_sPar, ev_evO, c1, Option.bind_some]
    show (Option.bind ((evO [_] _).bind _) _) = _
    rw [ev_evO, p2]
    rfl
  refine (sSeq_nx (e' := [some b2, some (.int N), some (.lst true R), some (.lst true A), some (.lst true P), some (.lst true DN), some (.int M), some (.lst true LS), some (.int sorts), some (.bl u), x10, x11, some (.int need), some (.lst true C), some (.tup EX), some (.int turn), some W, some (.tup SM), some (.tup [.int s, .int x, .tup EX]), x19, x20]) (by simp [c3, c4])).trans ?_
  refine (sSeq_nx (e' := [some b2, some (.int N), some (.lst true R), some (.lst true A'), some (.lst true P), some (.lst true DN), some (.int M), some (.lst true LS), some (.int sorts), some (.bl u), x10, x11, some (.int need), some (.lst true C), some (.tup EX), some (.int turn), some W, some (.tup SM), some (.tup [.int s, .int x, .tup EX]), x19, x20]) (sDo_ok (mMut_ok (e' := [some b2, some (.int N), some (.lst true R), some (.lst true A), some (.lst true P), some (.lst true DN), some (.int M), some (.lst true LS), some (.int sorts), some (.bl u), x10, x11, some (.int need), some (.lst true C), some (.tup EX), some (.int turn), some W, some (.tup SM), some (.tup [.int s, .int x, .tup EX]), x19, x20]) (l0 := A) (l := A) (as := [.v (.tup [.str "word", W, .tup SM, .int N, .tup [.int s, .int x, .tup EX]])]) (ds := [.tup [.str "word", W, .tup SM, .int N, .tup [.int s, .int x, .tup EX]]]) rfl (evA_vl (d := .tup [.str "word", W, .tup SM, .int N, .tup [.int s, .int x, .tup EX]]) (e1 := [some b2, some (.int N), some (.lst true R), some (.lst true A), some (.lst true P), some (.lst true DN), some (.int M), some (.lst true LS), some (.int sorts), some (.bl u), x10, x11, some (.int need), some (.lst true C), some (.tup EX), some (.int turn), some W, some (.tup SM), some (.tup [.int s, .int x, .tup EX]), x19, x20]) (by simp [w1, w2]) evA0) rfl rfl hg))).trans ?_
  refine (sSeq_nx (e' := [some b2, some (.int N), some (.lst true R), some (.lst true A'), some (.lst true P), some (.lst true DN), some (.int M), some (.lst true LS), some (.int sorts), some (.bl u), x10, x11, some (.int need), some (.lst true C), some (.tup EX), some (.int turn), some W, some (.tup SM), some (.tup [.int s, .int x, .tup EX]), some (.tup [.int s, .int x, .tup EX2]), x20]) (by simp [hz, ha])).trans ?_
  refine (sSeq_nx (e' := [some b2, some (.int N), some (.lst true R), some (.lst true A'), some (.lst true P), some (.lst true DN), some (.int M), some (.lst true LS), some (.int sorts), some (.bl u), x10, x11, some (.int need), some (.lst true C), some (.tup EX), some (.int turn), some W, some (.tup SM), some (.tup [.int s, .int x, .tup EX]), some (.tup [.int s, .int x, .tup EX2]), x20]) (by simp [c5])).trans ?_
  simp [c6]
end
end W_losesone_k03_whole_letter_products

set_option Elab.async false
set_option autoImplicit false
set_option linter.all false
set_option maxRecDepth 100000
namespace W_losesone_k03_whole_letter_products
open PySem PySem.Spec PyProof.Rows L2 Ow

theorem ex_app (n k : Nat) (f : Nat → Int) : exD n f ++ exD k (fun i => f (n + i)) = exD (n + k) f := by
  unfold exD
  rw [List.range_add, List.map_append, List.map_map]
  rfl
theorem frz_nats (l : List Nat) : freezes (natsD l) = natsD l := by rw [natsD_eq]; exact ev_frzi _
theorem cnt_perm {a b : List Nat} (h : a.Perm b) (f : Nat) : cnt a f = cnt b f := by unfold cnt; rw [h.countP_eq]
theorem take_getD {row : List Nat} {j k : Nat} (h : k < j) : (row.take j).getD k 0 = row.getD k 0 := by
  rw [List.getD_eq_getElem?_getD, List.getD_eq_getElem?_getD, List.getElem?_take, if_pos h]
theorem words_body {b : D} (hb : IsBag b) {n m : Nat} (hnm : n + m ≤ 61) {row : List Nat} (hrl : row.length = 4) (hr : ∀ x ∈ row, x < 2 ^ n) {A : List D} (hA : ∀ d ∈ A, AskedOk d) (hAl : A.length ≤ 5000) {LS : List Nat} (hne : LS ≠ []) (hLl : LS.length ≤ 4) {need : Nat} (h1 : 1 ≤ need) (h4 : need ≤ 4) (hLn : ∀ l ∈ LS, l < need)
    (turn sorts : Int) (u : Bool) (x10 x11 x16 x17 x18 x19 x20 : Option D) : ∃ (b' : D) (A' : List D) (y16 y17 y18 y19 : Option D), IsBag b' ∧ (∀ d ∈ A', AskedOk d) ∧ A'.length = A.length + 1 ∧
    B__law_is_words_turn_right_2 [some b, some (.int n), some (.lst true (natsD row)), some (.lst true A), some (.lst true ((pows n).map D.int)), some (.lst true (dpows n)), some (.int m), some (.lst true (natsD LS)), some (.int sorts), some (.bl u), x10, x11, some (.int need), some (.lst true (cnts (LS.map fun k => row.getD k 0) n)), some (.tup (exD n fun f => cnt (LS.map fun k => row.getD k 0) f / 2)), some (.int turn), x16, x17, x18, x19, x20] =
      some (.nx [some b', some (.int n), some (.lst true (natsD row)), some (.lst true A'), some (.lst true ((pows n).map D.int)), some (.lst true (dpows n)), some (.int m), some (.lst true (natsD LS)), some (.int sorts), some (.bl u), x10, x11, some (.int need), some (.lst true (cnts (LS.map fun k => row.getD k 0) n)), some (.tup (exD n fun f => cnt (LS.map fun k => row.getD k 0) f / 2)), some (.int turn), y16, y17, y18, y19, x20]) := by
  obtain ⟨w, b1, hb1, hd, hperm, hw⟩ := own_word_ok hb hne (by omega) (decide (turn = 0))
  have hp := place_ok (LS.map fun k => row.getD k 0) n (by omega)
  generalize hls : (LS.map fun k => row.getD k 0) = ls at hp ⊢
  obtain ⟨j0, b2, hb2, j00, j01, pd⟩ := call_draw hb1 (below := 5 - (need : Int)) (by omega) (by omega) (u := .vl (mB dSub [.vl (mC (.int 5)), .nm 12])) (av := .v (.int (5 - (need : Int)))) (r := [some (.int n), some (.lst true (natsD row)), some (.lst true A), some (.lst true ((pows n).map D.int)), some (.lst true (dpows n)), some (.int m), some (.lst true (natsD LS)), some (.int sorts), some (.bl u), x10, x11, some (.int need), some (.lst true (cnts ls n)), some (.tup (exD n fun f => cnt ls f / 2)), some (.int turn), x16, x17, x18, x19, x20]) (evA_vl (d := .int (5 - (need : Int))) rfl evA0) rfl rfl rfl
  obtain ⟨j0, rfl⟩ := Int.eq_ofNat_of_zero_le j00
  obtain ⟨j, hj⟩ : ∃ j : Nat, j = need + j0 := ⟨_, rfl⟩
  have hj4 : j ≤ 4 := by omega
  have hR' : ∀ x ∈ row.take j, x < 2 ^ n := fun x hx => hr x (List.mem_of_mem_take hx)
  have hRl : (row.take j).length = j := by rw [List.length_take]; omega
  have hk : ∀ k ∈ lvs w, k < need := fun k hk => hLn k (hperm.mem_iff.mp hk)
  have hk' : ∀ k ∈ lvs w, k < (row.take j).length := fun k h => by have := hk k h; omega
  have hll : (lvs w).length ≤ 100 := by have := hperm.length_eq; omega
  have hcnt : ∀ f, cnt (lsW (row.take j) w) f = cnt ls f := fun f => by
    have e1 : lsW (row.take j) w = (lvs w).map fun k => row.getD k 0 := by
      unfold lsW
      exact List.map_congr_left fun k h => take_getD (by have := hk k h; omega)
    rw [e1, ← hls]
    exact cnt_perm (hperm.map _) f
  have hx : (xW n (row.take j) w : Int) = ofB n (odd ls) := by
    rw [← (xW_is n (row.take j) w).1]
    exact ofB_congr fun f _ => by unfold odd; rw [hcnt]
  have hex : ∀ m, (exD m fun k => cnt (lsW (row.take j) w) k / 2) = exD m fun f => cnt ls f / 2 := fun m => exD_congr fun k _ => by rw [hcnt]
  have hs := word_sign_ok hR' w 60 (by omega) hk'
  rw [← hx] at hp
  have r1 := word_right (n := n) (m := n) (R := row.take j) (by omega) (Nat.le_refl _) hR' (by omega) w hd hll hk'
  have r2 := word_right (n := n) (m := n + m) (R := row.take j) hnm (by omega) hR' (by omega) w hd hll hk'
  unfold wDue at r1 r2
  rw [hex] at r1 r2
  have hhigh : ∀ k, n ≤ k → cnt ls k = 0 := fun k hk => by
    rw [← hcnt]
    exact cnt_high hk (lsW_lt hR' w)
  have hcat : (exD n fun f => cnt ls f / 2) ++ (exD m fun _ => 0) = exD (n + m) fun f => cnt ls f / 2 := by
    rw [← ex_app]
    congr 1
    exact exD_congr fun k _ => by rw [hhigh (n + k) (by omega)]; rfl
  have ha : dAdd [.tup (exD n fun f => cnt ls f / 2), .tup (exD m fun _ => 0)] = some (.tup (exD (n + m) fun f => cnt ls f / 2)) := by
    show (if _ then some (D.tup _) else none) = _
    rw [if_pos (by rw [exD_len, exD_len]; omega), hcat]
  have hnmI : (n : Int) + (m : Int) = ((n + m : Nat) : Int) := by omega
  have p2 : mB dTuple [.vl (mB (dSl false true) [.nm 2, .vl (mB dAdd [.nm 12, .vl (mCall M__law_draw [.nm 0, .vl (mB dSub [.vl (mC (.int 5)), .nm 12])])])])]
      [some b1, some (.int n), some (.lst true (natsD row)), some (.lst true A), some (.lst true ((pows n).map D.int)), some (.lst true (dpows n)), some (.int m), some (.lst true (natsD LS)), some (.int sorts), some (.bl u), x10, x11, some (.int need), some (.lst true (cnts ls n)), some (.tup (exD n fun f => cnt ls f / 2)), some (.int turn), x16, x17, x18, x19, x20] =
      some (.ok (.tup (natsD (row.take j))) [some b2, some (.int n), some (.lst true (natsD row)), some (.lst true A), some (.lst true ((pows n).map D.int)), some (.lst true (dpows n)), some (.int m), some (.lst true (natsD LS)), some (.int sorts), some (.bl u), x10, x11, some (.int need), some (.lst true (cnts ls n)), some (.tup (exD n fun f => cnt ls f / 2)), some (.int turn), x16, x17, x18, x19, x20]) := by
    have g0 : mB dAdd [.nm 12, .vl (mCall M__law_draw [.nm 0, .vl (mB dSub [.vl (mC (.int 5)), .nm 12])])] [some b1, some (.int n), some (.lst true (natsD row)), some (.lst true A), some (.lst true ((pows n).map D.int)), some (.lst true (dpows n)), some (.int m), some (.lst true (natsD LS)), some (.int sorts), some (.bl u), x10, x11, some (.int need), some (.lst true (cnts ls n)), some (.tup (exD n fun f => cnt ls f / 2)), some (.int turn), x16, x17, x18, x19, x20] =
        some (.ok (.int (j : Nat)) [some b2, some (.int n), some (.lst true (natsD row)), some (.lst true A), some (.lst true ((pows n).map D.int)), some (.lst true (dpows n)), some (.int m), some (.lst true (natsD LS)), some (.int sorts), some (.bl u), x10, x11, some (.int need), some (.lst true (cnts ls n)), some (.tup (exD n fun f => cnt ls f / 2)), some (.int turn), x16, x17, x18, x19, x20]) := by
      refine mB_ok (l := [.nm 12, .v (.int j0)]) (ds := [.int need, .int j0]) (evA_nm rfl (evA_vl (d := .int j0) pd evA0)) rfl ?_
      rw [ev_add, hj]
      have : ((need : Int) + (j0 : Int)) = ((need + j0 : Nat) : Int) := by omega
      rw [this]
    have hnl : (natsD row).length = 4 := by unfold natsD; rw [List.length_map, hrl]
    have htk : (natsD row).take j = natsD (row.take j) := by unfold natsD; rw [List.map_take]
    have g1 : mB (dSl false true) [.nm 2, .vl (mB dAdd [.nm 12, .vl (mCall M__law_draw [.nm 0, .vl (mB dSub [.vl (mC (.int 5)), .nm 12])])])] [some b1, some (.int n), some (.lst true (natsD row)), some (.lst true A), some (.lst true ((pows n).map D.int)), some (.lst true (dpows n)), some (.int m), some (.lst true (natsD LS)), some (.int sorts), some (.bl u), x10, x11, some (.int need), some (.lst true (cnts ls n)), some (.tup (exD n fun f => cnt ls f / 2)), some (.int turn), x16, x17, x18, x19, x20] =
        some (.ok (.lst true (natsD (row.take j))) [some b2, some (.int n), some (.lst true (natsD row)), some (.lst true A), some (.lst true ((pows n).map D.int)), some (.lst true (dpows n)), some (.int m), some (.lst true (natsD LS)), some (.int sorts), some (.bl u), x10, x11, some (.int need), some (.lst true (cnts ls n)), some (.tup (exD n fun f => cnt ls f / 2)), some (.int turn), x16, x17, x18, x19, x20]) := by
      refine mB_ok (l := [.nm 2, .v (.int (j : Nat))]) (ds := [.lst true (natsD row), .int (j : Nat)]) (evA_nm rfl (evA_vl (d := .int (j : Nat)) g0 evA0)) rfl ?_
      show (if Ow.low (natsD row) then some (D.lst true (cut (natsD row) none (some (j : Int)))) else none) = _
      rw [low_nats, if_pos rfl, cut_hi (by omega), htk]
    have g2 := evA_vl (us := []) (l := []) g1 evA0
    rw [ev_set7, frz_nats] at g2
    refine mB_ok g2 rfl ?_
    show (if Ow.low _ then _ else _) = _
    rw [low_nats]; rfl
  refine ⟨b2, A ++ [.tup [.str "word", wd w, .tup (natsD (row.take j)), .int n, .tup [.int (sW n (row.take j) w), .int (xW n (row.take j) w), .tup (exD n fun f => cnt ls f / 2)]]], _, _, _, _, hb2, ?_, by simp,
    wt_b2 b b1 b2 n m need turn sorts _ _ (natsD row) A _ ((pows n).map D.int) (dpows n) (natsD LS) (cnts ls n) (exD n fun f => cnt ls f / 2) (exD (n + m) fun f => cnt ls f / 2) (natsD (row.take j)) (exD m fun _ => 0) u (wd w) x10 x11 x16 x17 x18 x19 x20 hb1.top hb.top (wd_top w) (settle_wd w) hw p2 hs hp (append_ok rfl (by omega)) (zeros (by omega)) ha r1 (by rw [hnmI]; exact r2)⟩
  intro d hd2
  rcases List.mem_append.mp hd2 with h | h
  · exact hA d h
  · exact ⟨"word", wd w, .tup (natsD (row.take j)), _, n, List.mem_singleton.mp h, wd_top w, rfl, rfl, .inr ⟨rfl, r1⟩⟩
end W_losesone_k03_whole_letter_products

set_option Elab.async false
set_option autoImplicit false
set_option linter.all false
set_option maxRecDepth 100000
namespace W_losesone_k03_whole_letter_products
open PySem PySem.Spec PyProof.Rows L2 Ow

theorem dMax_ints (o : Bool) (l : List Int) (h : l ≠ []) : dMax [.lst o (l.map D.int)] = some (.int (maxI l)) := by
  show (Option.bind (some (l.map D.int)) fun l => (intsD l).bind fun ns => if ns.isEmpty then none else some (D.int (maxI ns))) = _
  cases l with
  | nil => exact absurd rfl h
  | cons x l => simp only [Option.bind_some, intsD_map]; rfl
theorem max_nat : ∀ l : List Nat, l ≠ [] → ∃ m ∈ l, ∀ y ∈ l, y ≤ m
  | [x], _ => ⟨x, List.mem_cons_self, fun y hy => by rw [List.mem_singleton.mp hy]; exact Nat.le_refl _⟩
  | x :: y :: l, _ => by
    obtain ⟨m, hm, h⟩ := max_nat (y :: l) (by simp)
    by_cases c : m ≤ x
    · exact ⟨x, List.mem_cons_self, fun z hz => by
        rcases List.mem_cons.mp hz with rfl | hz
        · exact Nat.le_refl _
        · exact Nat.le_trans (h z hz) c⟩
    · exact ⟨m, List.mem_cons_of_mem _ hm, fun z hz => by
        rcases List.mem_cons.mp hz with rfl | hz
        · omega
        · exact h z hz⟩
theorem dMax_nats (o : Bool) {l : List Nat} (h : l ≠ []) : ∃ m : Nat, m ∈ l ∧ (∀ y ∈ l, y ≤ m) ∧ dMax [.lst o (natsD l)] = some (.int m) := by
  obtain ⟨m, hm, hx⟩ := max_nat l h
  refine ⟨m, hm, hx, ?_⟩
  rw [natsD_eq, dMax_ints o _ (by simpa using h)]
  have := maxI_is (ns := l.map fun n : Nat => (n : Int)) (m := (m : Int)) (List.mem_map.mpr ⟨m, hm, rfl⟩) (fun y hy => by
    obtain ⟨z, hz, rfl⟩ := List.mem_map.mp hy
    have := hx z hz
    omega)
  rw [this]
theorem pick6 (e : Sl) : mB dLst [.vl (mC (.int 1)), .vl (mC (.int 2)), .vl (mC (.int 3)), .vl (mC (.int 3)), .vl (mC (.int 4)), .vl (mC (.int 4))] e = some (.ok (.lst true (([1, 2, 3, 3, 4, 4] : List Int).map D.int)) e) :=
  mB_ok (l := [.v (.int 1), .v (.int 2), .v (.int 3), .v (.int 3), .v (.int 4), .v (.int 4)]) (ds := [.int 1, .int 2, .int 3, .int 3, .int 4, .int 4])
    (evA_vl (d := .int 1) rfl (evA_vl (d := .int 2) rfl (evA_vl (d := .int 3) rfl (evA_vl (d := .int 3) rfl (evA_vl (d := .int 4) rfl (evA_vl (d := .int 4) rfl evA0)))))) rfl rfl
theorem words_turn_ok {b : D} (hb : IsBag b) {n : Nat} (hn : n ≤ 60) {row : List Nat} (hrl : row.length = 4) (hr : ∀ x ∈ row, x < 2 ^ n) {A : List D} (hA : ∀ d ∈ A, AskedOk d) (hAl : A.length ≤ 4000) : ∃ b' A',
    M__law_is_words_turn_right [b, .int n, .lst true (natsD row), .lst true A] = some (.ok (.bl true) [some b', some (.int n), some (.lst true (natsD row)), some (.lst true A')]) ∧ IsBag b' ∧ (∀ d ∈ A', AskedOk d) ∧ A'.length = A.length + 3 := by
  have t1 := pows_slice n (by omega) (e := [some b, some (.int n), some (.lst true (natsD row)), some (.lst true A), none, none, none, none, none, none, none, none, none, none, none, none, none, none, none, none, none]) rfl
  have t2 := downs_of n (e := [some b, some (.int n), some (.lst true (natsD row)), some (.lst true A), some (.lst true ((pows n).map D.int)), none, none, none, none, none, none, none, none, none, none, none, none, none, none, none, none]) rfl
  obtain ⟨v, b1, hb1, v0, v1, p1⟩ := call_draw hb (below := 61 - (n : Int)) (by omega) (by omega) (u := .vl (mB dSub [.vl (mC (.int 61)), .nm 1])) (av := .v (.int (61 - (n : Int)))) (r := [some (.int n), some (.lst true (natsD row)), some (.lst true A), some (.lst true ((pows n).map D.int)), none, none, none, none, none, none, none, none, none, none, none, none, none, none, none, none]) (evA_vl (d := .int (61 - (n : Int))) rfl evA0) rfl rfl rfl
  obtain ⟨m, rfl⟩ := Int.eq_ofNat_of_zero_le v0
  obtain ⟨v, b2, hb2, v20, v21, p2⟩ := call_draw hb1 (below := 4) (by decide) (by decide) (u := .vl (mC (.int 4))) (av := .v (.int 4)) (r := [some (.int n), some (.lst true (natsD row)), some (.lst true A), some (.lst true ((pows n).map D.int)), some (.lst true (dpows n)), some (.int m), none, none, none, none, none, none, none, none, none, none, none, none, none, none]) rfl rfl rfl rfl
  obtain ⟨s0, rfl⟩ := Int.eq_ofNat_of_zero_le v20
  obtain ⟨sorts, hsorts⟩ : ∃ sorts : Nat, sorts = 1 + s0 := ⟨_, rfl⟩
  obtain ⟨v, b3, hb3, v30, v31, p3⟩ := call_draw hb2 (below := 2) (by decide) (by decide) (u := .vl (mC (.int 2))) (av := .v (.int 2)) (r := [some (.int n), some (.lst true (natsD row)), some (.lst true A), some (.lst true ((pows n).map D.int)), some (.lst true (dpows n)), some (.int m), some (.lst true (natsD [])), some (.int (sorts : Nat)), none, none, none, none, none, none, none, none, none, none, none, none]) rfl rfl rfl rfl
  obtain ⟨u, hu⟩ : ∃ u : Bool, u = decide (v = 0) := ⟨_, rfl⟩
  obtain ⟨v4, b4, hv4, hb4, p4⟩ := call_pickv (b := b3) (b0 := b3) (b1 := b3) hb3 (is := [1, 2, 3, 3, 4, 4]) (by decide) (by decide) (r := [some (.int n), some (.lst true (natsD row)), some (.lst true A), some (.lst true ((pows n).map D.int)), some (.lst true (dpows n)), some (.int m), some (.lst true (natsD [])), some (.int (sorts : Nat)), some (.bl u), none, none, none, none, none, none, none, none, none, none, none]) rfl (pick6 _)
  have hc : 1 ≤ v4 ∧ v4 ≤ 4 := by
    simp only [List.mem_cons, List.not_mem_nil, or_false] at hv4
    omega
  obtain ⟨c, rfl⟩ := Int.eq_ofNat_of_zero_le (show 0 ≤ v4 by omega)
  obtain ⟨b5, LS, x10, x11, l1, hb5, hLl, hL4⟩ := wt_loop1 (sorts := sorts) (by omega) (by omega) u (x1 := some (.int n)) (x2 := some (.lst true (natsD row))) (x3 := some (.lst true A)) (x4 := some (.lst true ((pows n).map D.int))) (x5 := some (.lst true (dpows n))) (x6 := some (.int m)) (r := [none, none, none, none, none, none, none, none, none]) (ok := fun e => resolves e [.v (.int c)] = some [.int c]) (fun _ => rfl) c 0 [] b4 none none hb4 (by omega) rfl (fun l h => by cases h)
  have hit : ((List.range c).map fun i : Nat => D.int ((0 + i : Nat) : Int)) = rgN c := by
    unfold rgN
    exact List.map_congr_left fun i _ => by rw [Nat.zero_add]
  rw [hit] at l1
  have hLne : LS ≠ [] := fun h => by rw [h] at hLl; simp at hLl; omega
  obtain ⟨mx, hmx, hmx2, hmax⟩ := dMax_nats true hLne
  have hmx4 := hL4 mx hmx
  obtain ⟨need, hneed⟩ : ∃ need : Nat, need = mx + 1 := ⟨_, rfl⟩
  have hrow := wt_row (row := row) (ls := LS) (fun l h => by have := hL4 l h; omega) (by omega) (some b5) (some (.int n)) (some (.lst true A)) (some (.lst true ((pows n).map D.int))) (some (.lst true (dpows n))) (some (.int m)) (some (.int (sorts : Nat))) (some (.bl u)) x10 x11 [some (.int (need : Nat)), none, none, none, none, none, none, none, none]
  have hcts := counts_ok (LS.map fun k => row.getD k 0) n (by rw [List.length_map]; omega) (by omega)
  have hhalf := wt_half (n := n) (ls := LS.map fun k => row.getD k 0) (by omega) (some b5) (some (.int n)) (some (.lst true (natsD row))) (some (.lst true A)) (some (.lst true ((pows n).map D.int))) (some (.lst true (dpows n))) (some (.int m)) (some (.lst true (natsD LS))) (some (.int (sorts : Nat))) (some (.bl u)) x10 none (some (.int (need : Nat))) none none none none none none
  have hLn : ∀ l ∈ LS, l < need := fun l h => by have := hmx2 l h; omega
  have hLl4 : LS.length ≤ 4 := by omega
  obtain ⟨b6, A6, a16, a17, a18, a19, hb6, hA6, hl6, s6⟩ := words_body hb5 (n := n) (m := m) (by omega) hrl hr hA (by omega) hLne hLl4 (need := need) (by omega) (by omega) hLn 0 (sorts : Nat) u x10 none none none none none none
  obtain ⟨b7, A7, d16, d17, d18, d19, hb7, hA7, hl7, s7⟩ := words_body hb6 (n := n) (m := m) (by omega) hrl hr hA6 (by omega) hLne hLl4 (need := need) (by omega) (by omega) hLn 1 (sorts : Nat) u x10 none a16 a17 a18 a19 none
  obtain ⟨b8, A8, f16, f17, f18, f19, hb8, hA8, hl8, s8⟩ := words_body hb7 (n := n) (m := m) (by omega) hrl hr hA7 (by omega) hLne hLl4 (need := need) (by omega) (by omega) hLn 2 (sorts : Nat) u x10 none d16 d17 d18 d19 none
  refine ⟨b8, A8, ?_, hb8, hA8, by omega⟩
  refine mF_rt (n := 4) (l := 21) (fx := FX [0, 1, 2, 3]) (s := S__law_is_words_turn_right) (ds := [b, .int n, .lst true (natsD row), .lst true A]) (e := [some b8, some (.int n), some (.lst true (natsD row)), some (.lst true A8), some (.lst true ((pows n).map D.int)), some (.lst true (dpows n)), some (.int m), some (.lst true (natsD LS)), some (.int (sorts : Nat)), some (.bl u), x10, none, some (.int (need : Nat)), some (.lst true (cnts (LS.map fun k => row.getD k 0) n)), some (.tup (exD n fun f => cnt (LS.map fun k => row.getD k 0) f / 2)), some (.int 2), f16, f17, f18, f19, none]) rfl ?_
  show S__law_is_words_turn_right [some b, some (.int n), some (.lst true (natsD row)), some (.lst true A), none, none, none, none, none, none, none, none, none, none, none, none, none, none, none, none, none] = _
  unfold S__law_is_words_turn_right
  refine (sSeq_nx (e' := [some b, some (.int n), some (.lst true (natsD row)), some (.lst true A), some (.lst true ((pows n).map D.int)), none, none, none, none, none, none, none, none, none, none, none, none, none, none, none, none]) (sSet_ok t1)).trans ?_
  refine (sSeq_nx (e' := [some b1, some (.int n), some (.lst true (natsD row)), some (.lst true A), some (.lst true ((pows n).map D.int)), some (.lst true (dpows n)), some (.int m), none, none, none, none, none, none, none, none, none, none, none, none, none, none]) ?_).trans ?_
  · rw [ev_sPar, ev_evO, t2, Option.bind_some]
    show (Option.bind ((evO [_] _).bind _) _) = _
    rw [ev_evO, p1]
    rfl
  refine (sSeq_nx (e' := [some b2, some (.int n), some (.lst true (natsD row)), some (.lst true A), some (.lst true ((pows n).map D.int)), some (.lst true (dpows n)), some (.int m), some (.lst true (natsD [])), some (.int (sorts : Nat)), none, none, none, none, none, none, none, none, none, none, none, none]) ?_).trans ?_
  · have g : mB dAdd [.vl (mC (.int 1)), .vl (mCall M__law_draw [.nm 0, .vl (mC (.int 4))])] [some b1, some (.int n), some (.lst true (natsD row)), some (.lst true A), some (.lst true ((pows n).map D.int)), some (.lst true (dpows n)), some (.int m), none, none, none, none, none, none, none, none, none, none, none, none, none, none] = some (.ok (.int (sorts : Nat)) [some b2, some (.int n), some (.lst true (natsD row)), some (.lst true A), some (.lst true ((pows n).map D.int)), some (.lst true (dpows n)), some (.int m), none, none, none, none, none, none, none, none, none, none, none, none, none, none]) := by
      refine mB_ok (l := [.v (.int 1), .v (.int s0)]) (ds := [.int 1, .int s0]) (evA_vl (d := .int 1) rfl (evA_vl (d := .int s0) p2 evA0)) rfl ?_
      have : (1 : Int) + (s0 : Int) = (sorts : Nat) := by omega
      rw [ev_add, this]
    have g0 : mB dLst [] [some b1, some (.int n), some (.lst true (natsD row)), some (.lst true A), some (.lst true ((pows n).map D.int)), some (.lst true (dpows n)), some (.int m), none, none, none, none, none, none, none, none, none, none, none, none, none, none] = some (.ok (.lst true (natsD [])) [some b1, some (.int n), some (.lst true (natsD row)), some (.lst true A), some (.lst true ((pows n).map D.int)), some (.lst true (dpows n)), some (.int m), none, none, none, none, none, none, none, none, none, none, none, none, none, none]) := rfl
    rw [ev_sPar, ev_evO, g0, Option.bind_some]
    show (Option.bind ((evO [_] _).bind _) _) = _
    rw [ev_evO, g]
    rfl
  refine (sSeq_nx (e' := [some b3, some (.int n), some (.lst true (natsD row)), some (.lst true A), some (.lst true ((pows n).map D.int)), some (.lst true (dpows n)), some (.int m), some (.lst true (natsD [])), some (.int (sorts : Nat)), some (.bl u), none, none, none, none, none, none, none, none, none, none, none]) (sSet_ok (d := .bl u) (e' := [some b3, some (.int n), some (.lst true (natsD row)), some (.lst true A), some (.lst true ((pows n).map D.int)), some (.lst true (dpows n)), some (.int m), some (.lst true (natsD [])), some (.int (sorts : Nat)), none, none, none, none, none, none, none, none, none, none, none, none]) ?_)).trans ?_
  · rw [hu]
    exact mB_ok (l := [.v (.int v), .v (.int 0)]) (ds := [.int v, .int 0]) (evA_vl (d := .int v) p3 (evA_vl (d := .int 0) rfl evA0)) rfl rfl
  refine (sSeq_nx ((sFor_ok (av := [.v (.int c)]) (e' := [some b4, some (.int n), some (.lst true (natsD row)), some (.lst true A), some (.lst true ((pows n).map D.int)), some (.lst true (dpows n)), some (.int m), some (.lst true (natsD [])), some (.int (sorts : Nat)), some (.bl u), none, none, none, none, none, none, none, none, none, none, none]) (ds := [.int c]) (items := rgN c) (evA_vl (d := .int c) p4 evA0) rfl (rng_nat (by omega))).trans l1)).trans ?_
  refine (sSeq_nx (e' := [some b5, some (.int n), some (.lst true (natsD row)), some (.lst true A), some (.lst true ((pows n).map D.int)), some (.lst true (dpows n)), some (.int m), some (.lst true (natsD LS)), some (.int (sorts : Nat)), some (.bl u), x10, x11, some (.int (need : Nat)), none, none, none, none, none, none, none, none]) (sSet_ok (d := .int (need : Nat)) (e' := [some b5, some (.int n), some (.lst true (natsD row)), some (.lst true A), some (.lst true ((pows n).map D.int)), some (.lst true (dpows n)), some (.int m), some (.lst true (natsD LS)), some (.int (sorts : Nat)), some (.bl u), x10, x11, none, none, none, none, none, none, none, none, none]) ?_)).trans ?_
  · refine mB_ok (l := [.v (.int mx), .v (.int 1)]) (ds := [.int mx, .int 1]) (evA_vl (d := .int mx) (mB_ok (l := [.nm 7]) (ds := [.lst true (natsD LS)]) rfl rfl hmax) (evA_vl (d := .int 1) rfl evA0)) rfl ?_
    have : (mx : Int) + 1 = (need : Nat) := by omega
    rw [ev_add, this]
  refine (sSeq_nx (e' := [some b5, some (.int n), some (.lst true (natsD row)), some (.lst true A), some (.lst true ((pows n).map D.int)), some (.lst true (dpows n)), some (.int m), some (.lst true (natsD LS)), some (.int (sorts : Nat)), some (.bl u), x10, none, some (.int (need : Nat)), some (.lst true (cnts (LS.map fun k => row.getD k 0) n)), none, none, none, none, none, none, none]) (sSet_ok (d := .lst true (cnts (LS.map fun k => row.getD k 0) n)) (e' := [some b5, some (.int n), some (.lst true (natsD row)), some (.lst true A), some (.lst true ((pows n).map D.int)), some (.lst true (dpows n)), some (.int m), some (.lst true (natsD LS)), some (.int (sorts : Nat)), some (.bl u), x10, none, some (.int (need : Nat)), none, none, none, none, none, none, none, none]) ?_)).trans ?_
  · have h2 := evA_vl (us := [.nm 4]) (l := [.nm 4]) hrow (evA_nm rfl evA0)
    rw [ev_set7, frz_nats] at h2
    rw [mCall_is h2 rfl (by simp) rfl hcts rfl]
    simp
  refine (sSeq_nx (sSet_ok hhalf)).trans ?_
  refine (sSeq_nx (e' := [some b8, some (.int n), some (.lst true (natsD row)), some (.lst true A8), some (.lst true ((pows n).map D.int)), some (.lst true (dpows n)), some (.int m), some (.lst true (natsD LS)), some (.int (sorts : Nat)), some (.bl u), x10, none, some (.int (need : Nat)), some (.lst true (cnts (LS.map fun k => row.getD k 0) n)), some (.tup (exD n fun f => cnt (LS.map fun k => row.getD k 0) f / 2)), some (.int 2), f16, f17, f18, f19, none]) ((sFor_ok (av := [.v (.int 3)]) (e' := [some b5, some (.int n), some (.lst true (natsD row)), some (.lst true A), some (.lst true ((pows n).map D.int)), some (.lst true (dpows n)), some (.int m), some (.lst true (natsD LS)), some (.int (sorts : Nat)), some (.bl u), x10, none, some (.int (need : Nat)), some (.lst true (cnts (LS.map fun k => row.getD k 0) n)), some (.tup (exD n fun f => cnt (LS.map fun k => row.getD k 0) f / 2)), none, none, none, none, none, none]) (ds := [.int 3]) (items := [.int 0, .int 1, .int 2]) rfl rfl rfl).trans ?_)).trans ?_
  · refine (forL_nx (ok := fun e => resolves e [.v (.int 3)] = some [.int 3]) rfl rfl s6).trans ?_
    refine (forL_nx (ok := fun e => resolves e [.v (.int 3)] = some [.int 3]) rfl rfl s7).trans ?_
    refine (forL_nx (ok := fun e => resolves e [.v (.int 3)] = some [.int 3]) rfl rfl s8).trans ?_
    exact forL_nil rfl
  · rfl
end W_losesone_k03_whole_letter_products

set_option Elab.async false
set_option autoImplicit false
set_option linter.all false
set_option maxRecDepth 100000
namespace W_losesone_k03_whole_letter_products
open PySem PySem.Spec PyProof.Rows L2 Ow

theorem call_draw1 {b : D} (hb : IsBag b) {below : Int} (h1 : 1 ≤ below) (h2 : below < 18446744073709551616) (x0 : Option D) (r : Sl) : ∃ v b', IsBag b' ∧ 0 ≤ v ∧ v < below ∧
    mCall M__law_draw [.nm 1, .vl (mC (.int below))] (x0 :: some b :: r) = some (.ok (.int v) (x0 :: some b' :: r)) := by
  obtain ⟨v, b', e1, hb', v0, v1⟩ := draw_ok hb h1 h2
  refine ⟨v, b', hb', v0, v1, ?_⟩
  rw [mCall_is (l := [.nm 1, .v (.int below)]) (e' := x0 :: some b :: r) (ds := [b, .int below]) rfl rfl (by simp [hb.top]) rfl e1 rfl]
  simp [hb.top]
theorem call_pick1 {b : D} (hb : IsBag b) {is : List Int} (hne : is ≠ []) (hlen : is.length < 16777216) {m : ME} (x0 : Option D) (r : Sl) (hm : m (x0 :: some b :: r) = some (.ok (.lst true (is.map D.int)) (x0 :: some b :: r))) : ∃ v b', v ∈ is ∧ IsBag b' ∧
    mCall M__law_pick [.nm 1, .vl m] (x0 :: some b :: r) = some (.ok (.int v) (x0 :: some b' :: r)) := by
  obtain ⟨d, b', hd, e1, hb'⟩ := pick_ok hb (o := false) (l := is.map D.int) (by simpa using hne) (low_ints _) (by rw [List.length_map]; exact hlen)
  obtain ⟨v, hv, rfl⟩ := List.mem_map.mp hd
  refine ⟨v, b', hv, hb', ?_⟩
  have ha := evA_vl (us := []) (l := []) hm evA0
  rw [ev_set7, ev_frzi] at ha
  rw [mCall_is (l := [.nm 1, .v (.lst false (is.map D.int))]) (e' := x0 :: some b :: r) (ds := [b, .lst false (is.map D.int)]) (evA_nm rfl ha) rfl (by simp [hb.top]) rfl e1 rfl]
  simp [hb.top]
theorem lw_b1 {b : D} (hb : IsBag b) {n : Nat} (hn : n ≤ 60) {row : List Nat} (hrl : row.length ≤ 100) (hr : ∀ x ∈ row, x < 2 ^ n) (way : Int) (x0 x2 x3 x4 x9 : Option D) (r : Sl) : ∃ (x : Nat) (b' : D), x < 2 ^ n ∧ IsBag b' ∧
    B_law_1 (x0 :: some b :: x2 :: x3 :: x4 :: some (.int way) :: some (.int n) :: some (.lst true ((pows (n + 1)).map D.int)) :: some (.lst true (natsD row)) :: x9 :: r) =
      some (.nx (x0 :: some b' :: x2 :: x3 :: x4 :: some (.int way) :: some (.int n) :: some (.lst true ((pows (n + 1)).map D.int)) :: some (.lst true (natsD (row ++ [x]))) :: x9 :: r)) := by
  obtain ⟨x, b', hx, hb', e1⟩ := own_letter_ok hb (n := n) (by omega) (row := row) (by omega) hr (decide (way = 0))
  refine ⟨x, b', hx, hb', ?_⟩
  have e4 : natsD (row ++ [x]) = natsD row ++ [.int (x : Nat)] := by unfold natsD; rw [List.map_append]; rfl
  rw [e4]
  have hlen : (natsD row).length < 16777216 := by unfold natsD; rw [List.length_map]; omega
  generalize (pows (n + 1)).map D.int = P at *
  generalize natsD row = RW at *
  have c1 : mCall M__law_own_letter [.nm 1, .nm 6, .nm 7, .nm 8, .vl (mB dEqA [.nm 5, .vl (mC (.int 0))])] (x0 :: some b :: x2 :: x3 :: x4 :: some (.int way) :: some (.int n) :: some (.lst true P) :: some (.lst true RW) :: x9 :: r) =
      some (.ok (.int x) (x0 :: some b' :: x2 :: x3 :: x4 :: some (.int way) :: some (.int n) :: some (.lst true P) :: some (.lst true RW) :: x9 :: r)) := by
    rw [mCall_is (l := [.nm 1, .nm 6, .nm 7, .nm 8, .v (.bl (decide (way = 0)))]) (e' := x0 :: some b :: x2 :: x3 :: x4 :: some (.int way) :: some (.int n) :: some (.lst true P) :: some (.lst true RW) :: x9 :: r) (ds := [b, .int n, .lst true P, .lst true RW, .bl (decide (way = 0))]) rfl rfl (by simp [hb.top]) rfl e1 rfl]
    simp [hb.top]
  unfold B_law_1
  exact sDo_ok (mMut_ok (l0 := RW) (l := RW) (as := [.v (.int x)]) (ds := [.int x]) rfl (evA_vl (d := .int x) c1 evA0) rfl rfl (append_ok rfl hlen))
theorem lw_row {n : Nat} (hn : n ≤ 60) (way : Int) {x0 x2 x3 x4 : Option D} {r : Sl} {ok : Sl → Prop} (hok : ∀ e, ok e) : ∀ (items : List D) (row : List Nat) (b : D) (x9 : Option D), IsBag b → row.length + items.length ≤ 50 → (∀ x ∈ row, x < 2 ^ n) → ∃ b' row' y9,
    forL (.nm 9) B_law_1 ok items (x0 :: some b :: x2 :: x3 :: x4 :: some (.int way) :: some (.int n) :: some (.lst true ((pows (n + 1)).map D.int)) :: some (.lst true (natsD row)) :: x9 :: r) =
      some (.nx (x0 :: some b' :: x2 :: x3 :: x4 :: some (.int way) :: some (.int n) :: some (.lst true ((pows (n + 1)).map D.int)) :: some (.lst true (natsD row')) :: y9 :: r)) ∧ IsBag b' ∧ row'.length = row.length + items.length ∧ ∀ x ∈ row', x < 2 ^ n
  | [], row, b, x9, hb, _, hr => ⟨b, row, x9, forL_nil (hok _), hb, rfl, hr⟩
  | d :: items, row, b, x9, hb, hl, hr => by
    have hl' : row.length + (items.length + 1) ≤ 50 := hl
    obtain ⟨x, b1, hx, hb1, q⟩ := lw_b1 hb hn (row := row) (by omega) hr way x0 x2 x3 x4 (some d) r
    obtain ⟨b', row', y9, g1, g2, g3, g4⟩ := lw_row hn way (x0 := x0) (x2 := x2) (x3 := x3) (x4 := x4) (r := r) hok items (row ++ [x]) b1 (some d) hb1 (by rw [List.length_append, List.length_singleton]; omega) (fun y hy => by
      rcases List.mem_append.mp hy with h | h
      · exact hr y h
      · rw [List.mem_singleton.mp h]; exact hx)
    refine ⟨b', row', y9, (forL_nx (hok _) rfl q).trans g1, g2, ?_, g4⟩
    rw [g3, List.length_append, List.length_singleton, List.length_cons]; omega
theorem pick13 (e : Sl) : mB dLst [.vl (mC (.int 4)), .vl (mC (.int 5)), .vl (mC (.int 15)), .vl (mC (.int 16)), .vl (mC (.int 17)), .vl (mC (.int 31)), .vl (mC (.int 32)), .vl (mC (.int 33)), .vl (mC (.int 52)), .vl (mC (.int 53)), .vl (mC (.int 54)), .vl (mC (.int 59)), .vl (mC (.int 60))] e = some (.ok (.lst true (([4, 5, 15, 16, 17, 31, 32, 33, 52, 53, 54, 59, 60] : List Int).map D.int)) e) :=
  mB_ok (l := [.v (.int 4), .v (.int 5), .v (.int 15), .v (.int 16), .v (.int 17), .v (.int 31), .v (.int 32), .v (.int 33), .v (.int 52), .v (.int 53), .v (.int 54), .v (.int 59), .v (.int 60)]) (ds := [.int 4, .int 5, .int 15, .int 16, .int 17, .int 31, .int 32, .int 33, .int 52, .int 53, .int 54, .int 59, .int 60])
    (evA_vl (d := .int 4) rfl (evA_vl (d := .int 5) rfl (evA_vl (d := .int 15) rfl (evA_vl (d := .int 16) rfl (evA_vl (d := .int 17) rfl (evA_vl (d := .int 31) rfl (evA_vl (d := .int 32) rfl (evA_vl (d := .int 33) rfl (evA_vl (d := .int 52) rfl (evA_vl (d := .int 53) rfl (evA_vl (d := .int 54) rfl (evA_vl (d := .int 59) rfl (evA_vl (d := .int 60) rfl evA0))))))))))))) rfl rfl
/-- the floors of a turn -/
theorem lw_floors {b : D} (hb : IsBag b) (way : Int) (x0 x2 x3 x4 x6 x7 x8 x9 : Option D) (r : Sl) : ∃ (n : Nat) (b' : D), n ≤ 60 ∧ IsBag b' ∧
    (sIf (mB dEqA [.nm 5, .vl (mC (.int 0))])
  (sSet 6 (mB dAdd [.vl (mC (.int 54)), .vl (mCall M__law_draw [.nm 1, .vl (mC (.int 7))])]))
  (sIf (mB dEqA [.nm 5, .vl (mC (.int 1))])
  (sSet 6 (mCall M__law_draw [.nm 1, .vl (mC (.int 61))]))
  (sIf (mB dEqA [.nm 5, .vl (mC (.int 2))])
  (sSet 6 (mCall M__law_draw [.nm 1, .vl (mC (.int 6))]))
  (sSet 6 (mCall M__law_pick [.nm 1, .vl (mB dLst [.vl (mC (.int 4)), .vl (mC (.int 5)), .vl (mC (.int 15)), .vl (mC (.int 16)), .vl (mC (.int 17)), .vl (mC (.int 31)), .vl (mC (.int 32)), .vl (mC (.int 33)), .vl (mC (.int 52)), .vl (mC (.int 53)), .vl (mC (.int 54)), .vl (mC (.int 59)), .vl (mC (.int 60))])])))))
      (x0 :: some b :: x2 :: x3 :: x4 :: some (.int way) :: x6 :: r) = some (.nx (x0 :: some b' :: x2 :: x3 :: x4 :: some (.int way) :: some (.int n) :: r)) := by
  have q : ∀ k : Int, mB dEqA [.nm 5, .vl (mC (.int k))] (x0 :: some b :: x2 :: x3 :: x4 :: some (.int way) :: x6 :: r) = some (.ok (.bl (decide (way = k))) (x0 :: some b :: x2 :: x3 :: x4 :: some (.int way) :: x6 :: r)) := fun k => rfl
  by_cases c0 : way = 0
  · have q0 := q 0
    rw [decide_eq_true c0] at q0
    obtain ⟨v, b', hb', v0, v1, p⟩ := call_draw1 hb (below := 7) (by decide) (by decide) x0 (x2 :: x3 :: x4 :: some (.int way) :: x6 :: r)
    obtain ⟨v, rfl⟩ := Int.eq_ofNat_of_zero_le v0
    refine ⟨54 + v, b', by omega, hb', (sIf_t q0).trans (sSet_ok (d := .int ((54 + v : Nat) : Int)) (e' := x0 :: some b' :: x2 :: x3 :: x4 :: some (.int way) :: x6 :: r) ?_)⟩
    refine mB_ok (l := [.v (.int 54), .v (.int v)]) (ds := [.int 54, .int v]) (evA_vl (d := .int 54) rfl (evA_vl (d := .int v) p evA0)) rfl ?_
    have : (54 : Int) + (v : Int) = ((54 + v : Nat) : Int) := by omega
    rw [ev_add, this]
  · have q0 := q 0
    rw [decide_eq_false c0] at q0
    by_cases c1 : way = 1
    · have q1 := q 1
      rw [decide_eq_true c1] at q1
      obtain ⟨v, b', hb', v0, v1, p⟩ := call_draw1 hb (below := 61) (by decide) (by decide) x0 (x2 :: x3 :: x4 :: some (.int way) :: x6 :: r)
      obtain ⟨v, rfl⟩ := Int.eq_ofNat_of_zero_le v0
      exact ⟨v, b', by omega, hb', (sIf_f q0).trans ((sIf_t q1).trans (sSet_ok p))⟩
    · have q1 := q 1
      rw [decide_eq_false c1] at q1
      by_cases c2 : way = 2
      · have q2 := q 2
        rw [decide_eq_true c2] at q2
        obtain ⟨v, b', hb', v0, v1, p⟩ := call_draw1 hb (below := 6) (by decide) (by decide) x0 (x2 :: x3 :: x4 :: some (.int way) :: x6 :: r)
        obtain ⟨v, rfl⟩ := Int.eq_ofNat_of_zero_le v0
        exact ⟨v, b', by omega, hb', (sIf_f q0).trans ((sIf_f q1).trans ((sIf_t q2).trans (sSet_ok p)))⟩
      · have q2 := q 2
        rw [decide_eq_false c2] at q2
        obtain ⟨v, b', hv, hb', p⟩ := call_pick1 hb (is := [4, 5, 15, 16, 17, 31, 32, 33, 52, 53, 54, 59, 60]) (by decide) (by decide) x0 (x2 :: x3 :: x4 :: some (.int way) :: x6 :: r) (pick13 _)
        have hv2 : 0 ≤ v ∧ v ≤ 60 := by
          simp only [List.mem_cons, List.not_mem_nil, or_false] at hv
          omega
        obtain ⟨v, rfl⟩ := Int.eq_ofNat_of_zero_le hv2.1
        exact ⟨v, b', by omega, hb', (sIf_f q0).trans ((sIf_f q1).trans ((sIf_f q2).trans (sSet_ok p)))⟩
end W_losesone_k03_whole_letter_products

set_option Elab.async false
set_option autoImplicit false
set_option linter.all false
set_option maxRecDepth 100000
namespace W_losesone_k03_whole_letter_products
open PySem PySem.Spec PyProof.Rows L2 Ow

theorem turn_call {f : MF} {b b' : D} {n : Int} {RW A A' : List D} (hb : Ow.top b = true) (h : f [b, .int n, .lst true RW, .lst true A] = some (.ok (.bl true) [some b', some (.int n), some (.lst true RW), some (.lst true A')])) (x0 x3 x4 x5 x7 : Option D) (r : Sl) :
    sIf (mNot (mTr (mCall f [.nm 1, .nm 6, .nm 8, .nm 2]))) (sRt (mC (.bl false))) sNx (x0 :: some b :: some (.lst true A) :: x3 :: x4 :: x5 :: some (.int n) :: x7 :: some (.lst true RW) :: r) =
      some (.nx (x0 :: some b' :: some (.lst true A') :: x3 :: x4 :: x5 :: some (.int n) :: x7 :: some (.lst true RW) :: r)) := by
  have c : mCall f [.nm 1, .nm 6, .nm 8, .nm 2] (x0 :: some b :: some (.lst true A) :: x3 :: x4 :: x5 :: some (.int n) :: x7 :: some (.lst true RW) :: r) = some (.ok (.bl true) (x0 :: some b' :: some (.lst true A') :: x3 :: x4 :: x5 :: some (.int n) :: x7 :: some (.lst true RW) :: r)) := by
    rw [mCall_is (l := [.nm 1, .nm 6, .nm 8, .nm 2]) (e' := x0 :: some b :: some (.lst true A) :: x3 :: x4 :: x5 :: some (.int n) :: x7 :: some (.lst true RW) :: r) (ds := [b, .int n, .lst true RW, .lst true A]) rfl rfl (by simp [hb]) rfl h rfl]
    simp [hb]
  exact (sIf_f (mNot_b (mTr_b c rfl))).trans rfl
theorem lw_b2 {b : D} (hb : IsBag b) {A : List D} (hA : ∀ d ∈ A, AskedOk d) (hAl : A.length ≤ 1000) (first turn : Int) (x0 x5 x6 x7 x8 x9 : Option D) (r : Sl) : ∃ (b' : D) (A' : List D) (y5 y6 y7 y8 y9 : Option D), IsBag b' ∧ (∀ d ∈ A', AskedOk d) ∧ A'.length = A.length + 5 ∧
    B_law_2 (x0 :: some b :: some (.lst true A) :: some (.int first) :: some (.int turn) :: x5 :: x6 :: x7 :: x8 :: x9 :: r) =
      some (.nx (x0 :: some b' :: some (.lst true A') :: some (.int first) :: some (.int turn) :: y5 :: y6 :: y7 :: y8 :: y9 :: r)) := by
  obtain ⟨way, hway⟩ : ∃ way : Int, way = (first + turn) % 4 := ⟨_, rfl⟩
  obtain ⟨n, b1, hn, hb1, q2⟩ := lw_floors hb way x0 (some (.lst true A)) (some (.int first)) (some (.int turn)) x6 x7 x8 x9 (x7 :: x8 :: x9 :: r)
  have hpw := powers_ok n (by omega)
  obtain ⟨b2, row, y9, q4, hb2, hrl, hr⟩ := lw_row hn way (x0 := x0) (x2 := some (.lst true A)) (x3 := some (.int first)) (x4 := some (.int turn)) (r := r) (ok := fun e => resolves e [.v (.int 4)] = some [.int 4]) (fun _ => rfl) (rgN 4) [] b1 x9 hb1 (by rw [rgN_len]; decide) (fun x h => by cases h)
  rw [rgN_len] at hrl
  have hrl4 : row.length = 4 := by simpa using hrl
  obtain ⟨b3, A3, q5, hb3, hA3, hl3⟩ := pairs_turn_ok hb2 hn (row := row) (fun h => by rw [h] at hrl4; cases hrl4) (by omega) hr hA (by omega)
  obtain ⟨b4, A4, q6, hb4, hA4, hl4⟩ := words_turn_ok hb3 hn (row := row) hrl4 hr hA3 (by omega)
  refine ⟨b4, A4, some (.int way), some (.int n), some (.lst true ((pows (n + 1)).map D.int)), some (.lst true (natsD row)), y9, hb4, hA4, by omega, ?_⟩
  unfold B_law_2
  refine (sSeq_nx (e' := x0 :: some b :: some (.lst true A) :: some (.int first) :: some (.int turn) :: some (.int way) :: x6 :: x7 :: x8 :: x9 :: r) (by simp [hway])).trans ?_
  refine (sSeq_nx q2).trans ?_
  generalize (pows (n + 1)).map D.int = P at *
  have c : mCall M__law_powers [.nm 6] (x0 :: some b1 :: some (.lst true A) :: some (.int first) :: some (.int turn) :: some (.int way) :: some (.int n) :: x7 :: x8 :: x9 :: r) = some (.ok (.lst true P) (x0 :: some b1 :: some (.lst true A) :: some (.int first) :: some (.int turn) :: some (.int way) :: some (.int n) :: x7 :: x8 :: x9 :: r)) := by
    rw [mCall_is (l := [.nm 6]) (e' := x0 :: some b1 :: some (.lst true A) :: some (.int first) :: some (.int turn) :: some (.int way) :: some (.int n) :: x7 :: x8 :: x9 :: r) (ds := [.int n]) rfl rfl (by simp) rfl hpw rfl]
    simp
  refine (sSeq_nx (e' := x0 :: some b1 :: some (.lst true A) :: some (.int first) :: some (.int turn) :: some (.int way) :: some (.int n) :: some (.lst true P) :: some (.lst true (natsD [])) :: x9 :: r) ?_).trans ?_
  · rw [ev_sPar, ev_evO, c]
    rfl
  refine (sSeq_nx ((sFor_ok (av := [.v (.int 4)]) (e' := x0 :: some b1 :: some (.lst true A) :: some (.int first) :: some (.int turn) :: some (.int way) :: some (.int n) :: some (.lst true P) :: some (.lst true (natsD [])) :: x9 :: r) (ds := [.int 4]) (items := rgN 4) rfl rfl (rng_nat (by decide))).trans q4)).trans ?_
  refine (sSeq_nx (turn_call hb2.top q5 _ _ _ _ _ _)).trans ?_
  exact turn_call hb3.top q6 _ _ _ _ _ _
theorem lw_loop2 (first : Int) {x0 : Option D} {r : Sl} {ok : Sl → Prop} (hok : ∀ e, ok e) : ∀ (ts : List Int) (b : D) (A : List D) (x4 x5 x6 x7 x8 x9 : Option D), IsBag b → (∀ d ∈ A, AskedOk d) → A.length + 5 * ts.length ≤ 1000 → ∃ (b' : D) (A' : List D) (y4 y5 y6 y7 y8 y9 : Option D), IsBag b' ∧ (∀ d ∈ A', AskedOk d) ∧ A'.length ≤ 1000 ∧
    forL (.nm 4) B_law_2 ok (ts.map D.int) (x0 :: some b :: some (.lst true A) :: some (.int first) :: x4 :: x5 :: x6 :: x7 :: x8 :: x9 :: r) =
      some (.nx (x0 :: some b' :: some (.lst true A') :: some (.int first) :: y4 :: y5 :: y6 :: y7 :: y8 :: y9 :: r))
  | [], b, A, x4, x5, x6, x7, x8, x9, hb, hA, hl => ⟨b, A, x4, x5, x6, x7, x8, x9, hb, hA, by omega, forL_nil (hok _)⟩
  | t :: ts, b, A, x4, x5, x6, x7, x8, x9, hb, hA, hl => by
    rw [List.length_cons] at hl
    obtain ⟨b1, A1, y5, y6, y7, y8, y9, hb1, hA1, hl1, q⟩ := lw_b2 hb hA (by omega) first t x0 x5 x6 x7 x8 x9 r
    obtain ⟨b2, A2, z4, z5, z6, z7, z8, z9, g1, g2, g3, g4⟩ := lw_loop2 first (x0 := x0) (r := r) hok ts b1 A1 (some (.int t)) y5 y6 y7 y8 y9 hb1 hA1 (by omega)
    exact ⟨b2, A2, z4, z5, z6, z7, z8, z9, g1, g2, g3, (forL_nx (hok _) rfl q).trans g4⟩
theorem str_pw : ¬ ((("pair" : Str) = ("word" : Str)) : Prop) := by decide
theorem str_wp : ¬ ((("word" : Str) = ("pair" : Str)) : Prop) := by decide
theorem right_call {f : MF} {o t u : D} {n : Int} (h1 : Ow.top o = false) (h2 : Ow.top t = false) (h3 : Ow.top u = false) (h : f [o, t, .int n, u] = some (.ok (.bl true) [some o, some t, some (.int n), some u])) (x0 x1 x2 x3 x4 x5 x7 x8 x9 x10 : Option D) :
    mNot (mTr (mCall f [.nm 11, .nm 12, .nm 6, .nm 13])) [x0, x1, x2, x3, x4, x5, some (.int n), x7, x8, x9, x10, some o, some t, some u] = some (.ok (.bl false) [x0, x1, x2, x3, x4, x5, some (.int n), x7, x8, x9, x10, some o, some t, some u]) := by
  have c : mCall f [.nm 11, .nm 12, .nm 6, .nm 13] [x0, x1, x2, x3, x4, x5, some (.int n), x7, x8, x9, x10, some o, some t, some u] = some (.ok (.bl true) [x0, x1, x2, x3, x4, x5, some (.int n), x7, x8, x9, x10, some o, some t, some u]) := by
    rw [mCall_is (l := [.nm 11, .nm 12, .nm 6, .nm 13]) (e' := [x0, x1, x2, x3, x4, x5, some (.int n), x7, x8, x9, x10, some o, some t, some u]) (ds := [o, t, .int n, u]) rfl rfl (by simp [h1, h2, h3]) rfl h rfl]
    simp [h1, h2, h3]
  exact mNot_b (mTr_b c rfl)
theorem lw_b3 {d : D} (hd : AskedOk d) (x0 x1 x2 x3 x4 x5 x6 x7 x8 x9 x10 x11 x12 x13 : Option D) : ∃ (e1 : Sl) (y6 y10 y11 y12 y13 : Option D), setTg (.tp [(.nm 10), (.nm 11), (.nm 12), (.nm 6), (.nm 13)]) d [x0, x1, x2, x3, x4, x5, x6, x7, x8, x9, x10, x11, x12, x13] = some e1 ∧
    B_law_3 e1 = some (.nx [x0, x1, x2, x3, x4, x5, y6, x7, x8, x9, y10, y11, y12, y13]) := by
  obtain ⟨name, o, t, u, n, rfl, h1, h2, h3, hc⟩ := hd
  refine ⟨[x0, x1, x2, x3, x4, x5, some (.int n), x7, x8, x9, some (.str name), some o, some t, some u], some (.int n), some (.str name), some o, some t, some u, rfl, ?_⟩
  have q : ∀ s : Str, mB dEqA [.nm 10, .vl (mC (.str s))] [x0, x1, x2, x3, x4, x5, some (.int n), x7, x8, x9, some (.str name), some o, some t, some u] = some (.ok (.bl (decide (name = s))) [x0, x1, x2, x3, x4, x5, some (.int n), x7, x8, x9, some (.str name), some o, some t, some u]) := fun s => rfl
  unfold B_law_3
  rcases hc with ⟨rfl, h⟩ | ⟨rfl, h⟩
  · have q1 := q "pair"
    have q2 := q "word"
    rw [decide_eq_true rfl] at q1
    rw [decide_eq_false str_pw] at q2
    refine (sSeq_nx ((sIf_f ((mAnd_t q1).trans (right_call h1 h2 h3 h _ _ _ _ _ _ _ _ _ _))).trans rfl)).trans ?_
    exact (sIf_f (mAnd_f q2)).trans rfl
  · have q1 := q "pair"
    have q2 := q "word"
    rw [decide_eq_false str_wp] at q1
    rw [decide_eq_true rfl] at q2
    refine (sSeq_nx ((sIf_f (mAnd_f q1)).trans rfl)).trans ?_
    exact (sIf_f ((mAnd_t q2).trans (right_call h1 h2 h3 h _ _ _ _ _ _ _ _ _ _))).trans rfl
theorem lw_loop3 {x0 x1 x2 x3 x4 x5 x7 x8 x9 : Option D} {ok : Sl → Prop} (hok : ∀ e, ok e) : ∀ (l : List D) (x6 x10 x11 x12 x13 : Option D), (∀ d ∈ l, AskedOk d) → ∃ y6 y10 y11 y12 y13,
    forL (.tp [(.nm 10), (.nm 11), (.nm 12), (.nm 6), (.nm 13)]) B_law_3 ok l [x0, x1, x2, x3, x4, x5, x6, x7, x8, x9, x10, x11, x12, x13] = some (.nx [x0, x1, x2, x3, x4, x5, y6, x7, x8, x9, y10, y11, y12, y13])
  | [], x6, x10, x11, x12, x13, _ => ⟨x6, x10, x11, x12, x13, forL_nil (hok _)⟩
  | d :: l, x6, x10, x11, x12, x13, h => by
    obtain ⟨e1, y6, y10, y11, y12, y13, s1, s2⟩ := lw_b3 (h d List.mem_cons_self) x0 x1 x2 x3 x4 x5 x6 x7 x8 x9 x10 x11 x12 x13
    obtain ⟨z6, z10, z11, z12, z13, g⟩ := lw_loop3 hok l y6 y10 y11 y12 y13 fun d hd => h d (List.mem_cons_of_mem _ hd)
    exact ⟨z6, z10, z11, z12, z13, (forL_nx (hok _) s1 s2).trans g⟩
theorem law_is (ns : List Int) (h : ns.length ≤ 63) : ∃ es, M_law [.far (ns.map D.int)] = some (.ok (.bl true) es) := by
  obtain ⟨b, hbag, hb⟩ := bag_ok ns
  generalize ns.map D.int = L at hbag ⊢
  obtain ⟨v, b1, hb1, v0, v1, p1⟩ := call_draw1 hb (below := 4) (by decide) (by decide) (some (.far L)) [some (.lst true []), none, none, none, none, none, none, none, none, none, none, none]
  obtain ⟨b2, A, y4, y5, y6, y7, y8, y9, hb2, hA, hAl, q⟩ := lw_loop2 v (x0 := some (.far L)) (r := [none, none, none, none]) (ok := fun e => resolves e [.v (.int 4)] = some [.int 4]) (fun _ => rfl) [0, 1, 2, 3] b1 [] none none none none none none hb1 (fun d hd => by cases hd) (by decide)
  have hT : AllT A := fun d hd => by
    obtain ⟨name, o, t, u, n, e, _⟩ := hA d hd
    exact ⟨_, e⟩
  obtain ⟨z6, z10, z11, z12, z13, q3⟩ := lw_loop3 (x0 := some (.far L)) (x1 := some b2) (x2 := some (.lst true A)) (x3 := some (.int v)) (x4 := y4) (x5 := y5) (x7 := y7) (x8 := y8) (x9 := y9) (ok := fun e => resolves e [.v (.lst false A)] = some [.lst false A]) (fun _ => rfl) A.reverse y6 none none none none fun d hd => hA d (List.mem_reverse.mp hd)
  refine ⟨_, mF_rt (n := 1) (l := 14) (fx := FX [0]) (s := S_law) (ds := [.far L]) (d := .bl true) (e := [some (.far L), some b2, some (.lst true A), some (.int v), y4, y5, z6, y7, y8, y9, z10, z11, z12, z13]) rfl ?_⟩
  show S_law [some (.far L), none, none, none, none, none, none, none, none, none, none, none, none, none] = _
  unfold S_law
  have c : mCall M__law_own_bag [.nm 0] [some (.far L), none, none, none, none, none, none, none, none, none, none, none, none, none] = some (.ok b [some (.far L), none, none, none, none, none, none, none, none, none, none, none, none, none]) := by
    rw [mCall_is (l := [.nm 0]) (e' := [some (.far L), none, none, none, none, none, none, none, none, none, none, none, none, none]) (ds := [.far L]) rfl rfl (by simp) rfl hbag rfl]
    simp
  refine (sSeq_nx (e' := [some (.far L), some b, some (.lst true []), none, none, none, none, none, none, none, none, none, none, none]) ?_).trans ?_
  · rw [ev_sPar, ev_evO, c]
    rfl
  refine (sSeq_nx (sSet_ok p1)).trans ?_
  refine (sSeq_nx ((sFor_ok (av := [.v (.int 4)]) (e' := [some (.far L), some b1, some (.lst true []), some (.int v), none, none, none, none, none, none, none, none, none, none]) (ds := [.int 4]) (items := ([0, 1, 2, 3] : List Int).map D.int) rfl rfl rfl).trans q)).trans ?_
  refine (sSeq_nx ((sFor_ok (av := [.v (.lst false A)]) (e' := [some (.far L), some b2, some (.lst true A), some (.int v), y4, y5, y6, y7, y8, y9, none, none, none, none]) (ds := [.lst false A]) (items := A.reverse) ?_ rfl ?_).trans q3)).trans rfl
  · have h1 : mB dList [.nm 2] [some (.far L), some b2, some (.lst true A), some (.int v), y4, y5, y6, y7, y8, y9, none, none, none, none] = some (.ok (.lst true A) [some (.far L), some b2, some (.lst true A), some (.int v), y4, y5, y6, y7, y8, y9, none, none, none, none]) :=
      mB_ok (l := [.nm 2]) (ds := [.lst true A]) rfl rfl (by show (if Ow.low A then _ else _) = _; rw [hT.low]; rfl)
    have h2 := evA_vl (us := []) (l := []) h1 evA0
    rw [ev_set7, hT.frz] at h2
    exact h2
  · show (if Ow.low A then some A.reverse else none) = _
    rw [hT.low]; rfl
end W_losesone_k03_whole_letter_products

open PySem PySem.W PyProof.Rows
set_option maxHeartbeats 0 in
theorem PySem.Challenge.cw_losesone_k03_whole_letter_products_holds : PySem.Challenge.rw_losesone_k03_whole_letter_products.Holds := by
  w_on; o_law; k_head; (case hw => w_witness2)
  k_fill
  refine Ow.walk_ofG (l := PySem.Challenge.rw_losesone_k03_whole_letter_products) (n := 63) (k := 67) (x := "script") (f := W_losesone_k03_whole_letter_products.M_law) rfl (by decide) rfl ⟨rfl, by decide, by decide⟩ (fun w h Y => PySem.W.kIn_of Y) ?F (fun ns hl => W_losesone_k03_whole_letter_products.law_is ns hl)
  case F =>
    intro w mg fa h KX G hmg
    refine' W_losesone_k03_whole_letter_products.all_mk KX G hmg ?a0 ?l0 ?c0 ?k0 ?a1 ?l1 ?c1 ?k1 ?a2 ?l2 ?c2 ?k2 ?a3 ?l3 ?c3 ?k3 ?a4 ?l4 ?c4 ?k4 ?a5 ?l5 ?c5 ?k5 ?a6 ?l6 ?c6 ?k6 ?a7 ?l7 ?c7 ?k7 ?a8 ?l8 ?c8 ?k8 ?a9 ?l9 ?c9 ?k9 ?a10 ?l10 ?c10 ?k10 ?a11 ?l11 ?c11 ?k11 ?a12 ?l12 ?c12 ?k12 ?a13 ?l13 ?c13 ?k13 ?a14 ?l14 ?c14 ?k14 ?a15 ?l15 ?c15 ?k15 ?a16 ?l16 ?c16 ?k16 ?a17 ?l17 ?c17 ?k17 ?a18 ?l18 ?c18 ?k18 ?a19 ?l19 ?c19 ?k19 ?a20 ?l20 ?c20 ?k20 ?y_abs ?y_enumerate ?y_int ?y_isinstance ?y_len ?y_list ?y_max ?y_min ?y_range ?y_repr ?y_reversed ?y_sum ?y_tuple ?y_zip
    (case a0 => k_is); (case l0 => k_is); (case c0 => k_is); (case k0 => k_is); (case a1 => k_is); (case l1 => k_is); (case c1 => k_is); (case k1 => k_is); (case a2 => k_is); (case l2 => k_is); (case c2 => k_is); (case k2 => k_is); (case a3 => k_is); (case l3 => k_is); (case c3 => k_is); (case k3 => k_is); (case a4 => k_is); (case l4 => k_is); (case c4 => k_is); (case k4 => k_is); (case a5 => k_is); (case l5 => k_is); (case c5 => k_is); (case k5 => k_is); (case a6 => k_is); (case l6 => k_is); (case c6 => k_is); (case k6 => k_is); (case a7 => k_is); (case l7 => k_is); (case c7 => k_is); (case k7 => k_is); (case a8 => k_is); (case l8 => k_is); (case c8 => k_is); (case k8 => k_is); (case a9 => k_is); (case l9 => k_is); (case c9 => k_is); (case k9 => k_is); (case a10 => k_is); (case l10 => k_is); (case c10 => k_is); (case k10 => k_is); (case a11 => k_is); (case l11 => k_is); (case c11 => k_is); (case k11 => k_is); (case a12 => k_is); (case l12 => k_is); (case c12 => k_is); (case k12 => k_is); (case a13 => k_is); (case l13 => k_is); (case c13 => k_is); (case k13 => k_is); (case a14 => k_is); (case l14 => k_is); (case c14 => k_is); (case k14 => k_is); (case a15 => k_is); (case l15 => k_is); (case c15 => k_is); (case k15 => k_is); (case a16 => k_is); (case l16 => k_is); (case c16 => k_is); (case k16 => k_is); (case a17 => k_is); (case l17 => k_is); (case c17 => k_is); (case k17 => k_is); (case a18 => k_is); (case l18 => k_is); (case c18 => k_is); (case k18 => k_is); (case a19 => k_is); (case l19 => k_is); (case c19 => k_is); (case k19 => k_is); (case a20 => k_is); (case l20 => k_is); (case c20 => k_is); (case k20 => k_is); (case y_abs => k_is); (case y_enumerate => k_is); (case y_int => k_is); (case y_isinstance => k_is); (case y_len => k_is); (case y_list => k_is); (case y_max => k_is); (case y_min => k_is); (case y_range => k_is); (case y_repr => k_is); (case y_reversed => k_is); (case y_sum => k_is); (case y_tuple => k_is); (case y_zip => k_is)
