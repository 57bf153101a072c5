import PyProof.Rows.All
import Wide.All
import OpenK.AllK
import Wide.FinOn
import HandS.ForMost
import HandS.ForExc
import HandS.IsInst
import HandS.Property
import HandS.Star
import HandS.SortInts
import HandS.Wide
import HandS.ClsMeth
import HandS.Zip
import HandS.TupAny
import HandS.Flow
import PyProof.LongRange
import HandS.NoneIn
import HandS.Codes
import PySem.Challenge.RW_rankeffect_k07_whole_composed_tables
set_option Elab.async false
set_option linter.all false
set_option maxRecDepth 100000
set_option maxHeartbeats 1000000
/-! Layer D, part 0: data, states, judgements. -/
namespace Dl
open PySem PySem.Spec PyProof.Rows L2

abbrev St := L2.St
/-- data without the heap -/
inductive D where
  | non | bl (b : Bool) | int (i : Int) | str (x : Str)
  | tup (ds : List D) | lst (ds : List D) | obj (c : Str) (ns : List Str) (ds : List D) | scr (ns : List Int) | dic

mutual
/-- the value v stands for the datum d, by what B knows -/
inductive At (K : PySem.W.Frag) (mg : Str → Option Value) (B : Hp) : V → D → Prop
  | non : At K mg B .non .non
  | bl (b : Bool) : At K mg B (.bl b) (.bl b)
  | int (i : Int) : At K mg B (.int i) (.int i)
  | str (x : Str) : At K mg B (.str x) (.str x)
  | tup {a : Addr} {xs : List V} {ds : List D} : SqT K B a xs → AtL K mg B xs ds → At K mg B (.ref a) (.tup ds)
  | lst {a : Addr} {xs : List V} {ds : List D} : B a = some (.lst xs) → AtL K mg B xs ds → At K mg B (.ref a) (.lst ds)
  | scr {a : Addr} {ns : List Int} : SqL K B a (ns.map V.int) → At K mg B (.ref a) (.scr ns)
  | dic {a : Addr} : B a = some (.dK []) → At K mg B (.ref a) .dic
  | obj {a C dx : Addr} {fs : List (Str × V)} {c : Str} {ns : List Str} {ds : List D} : mg c = some (.ref C) → B a = some (.ins C dx fs) → fs.map (·.1) = ns → AtL K mg B (fs.map (·.2)) ds → At K mg B (.ref a) (.obj c ns ds)
inductive AtL (K : PySem.W.Frag) (mg : Str → Option Value) (B : Hp) : List V → List D → Prop
  | nil : AtL K mg B [] []
  | cons {x : V} {d : D} {xs : List V} {ds : List D} : At K mg B x d → AtL K mg B xs ds → AtL K mg B (x :: xs) (d :: ds)
end

theorem seqT {K : PySem.W.Frag} {H H' : Hp} {a : Addr} {xs : List V} (e : Same H H') (h : SqT K H a xs) : SqT K H' a xs := by
  rcases h with (h | ⟨o, h⟩) | h
  · exact .inl (.inl (e _ _ h))
  · exact .inl (.inr ⟨o, e _ _ h⟩)
  · exact .inr h
section
variable {K : PySem.W.Frag} {mg : Str → Option Value} {B B' : Hp}
mutual
theorem At.mono (e : Same B B') : ∀ {v : V} {d : D}, At K mg B v d → At K mg B' v d
  | _, _, .non => .non
  | _, _, .bl b => .bl b
  | _, _, .int i => .int i
  | _, _, .str x => .str x
  | _, _, .tup h r => .tup (seqT e h) (AtL.mono e r)
  | _, _, .lst h r => .lst (e _ _ h) (AtL.mono e r)
  | _, _, .scr h => .scr (e.seq h)
  | _, _, .dic h => .dic (e _ _ h)
  | _, _, .obj h1 h2 h3 r => .obj h1 (e _ _ h2) h3 (AtL.mono e r)
theorem AtL.mono (e : Same B B') : ∀ {xs : List V} {ds : List D}, AtL K mg B xs ds → AtL K mg B' xs ds
  | _, _, .nil => .nil
  | _, _, .cons r t => .cons (At.mono e r) (AtL.mono e t)
end
theorem AtL.length : ∀ {xs : List V} {ds : List D}, AtL K mg B xs ds → xs.length = ds.length
  | _, _, .nil => rfl
  | _, _, .cons _ t => congrArg (· + 1) (AtL.length t)
theorem AtL.app : ∀ {xs ys : List V} {ds es : List D}, AtL K mg B xs ds → AtL K mg B ys es → AtL K mg B (xs ++ ys) (ds ++ es)
  | _, _, _, _, .nil, s => s
  | _, _, _, _, .cons r t, s => .cons r (AtL.app t s)
theorem AtL.get : ∀ {xs : List V} {ds : List D} {i : Nat} {d : D}, AtL K mg B xs ds → ds[i]? = some d → ∃ x, xs[i]? = some x ∧ At K mg B x d
  | _, _, _, _, .nil, e => by simp at e
  | _, _, 0, d, .cons r _, e => by simp at e; subst e; exact ⟨_, rfl, r⟩
  | _, _, i + 1, d, .cons _ t, e => by
    obtain ⟨x, h1, h2⟩ := AtL.get (i := i) (d := d) t (by simpa using e)
    exact ⟨x, by simpa using h1, h2⟩
theorem AtL.get' : ∀ {xs : List V} {ds : List D} {i : Nat} {x : V}, AtL K mg B xs ds → xs[i]? = some x → ∃ d, ds[i]? = some d ∧ At K mg B x d
  | _, _, _, _, .nil, e => by simp at e
  | _, _, 0, d, .cons r _, e => by simp at e; subst e; exact ⟨_, rfl, r⟩
  | _, _, i + 1, d, .cons _ t, e => by
    obtain ⟨x, h1, h2⟩ := AtL.get' (i := i) (x := d) t (by simpa using e)
    exact ⟨x, by simpa using h1, h2⟩
theorem AtL.drop : ∀ {xs : List V} {ds : List D} (n : Nat), AtL K mg B xs ds → AtL K mg B (xs.drop n) (ds.drop n)
  | _, _, 0, r => r
  | _, _, _ + 1, .nil => .nil
  | _, _, n + 1, .cons _ t => AtL.drop n t
theorem AtL.take : ∀ {xs : List V} {ds : List D} (n : Nat), AtL K mg B xs ds → AtL K mg B (xs.take n) (ds.take n)
  | _, _, 0, _ => .nil
  | _, _, _ + 1, .nil => .nil
  | _, _, n + 1, .cons r t => .cons r (AtL.take n t)
theorem AtL.set {x : V} {d : D} (r : At K mg B x d) : ∀ {xs : List V} {ds : List D} (i : Nat), AtL K mg B xs ds → AtL K mg B (xs.set i x) (ds.set i d)
  | _, _, _, .nil => .nil
  | _, _, 0, .cons _ t => .cons r t
  | _, _, i + 1, .cons q t => .cons q (AtL.set r i t)
theorem AtL.rev : ∀ {xs : List V} {ds : List D}, AtL K mg B xs ds → AtL K mg B xs.reverse ds.reverse
  | _, _, .nil => .nil
  | _, _, .cons r t => by
    rw [List.reverse_cons, List.reverse_cons]
    exact (AtL.rev t).app (.cons r .nil)
theorem AtL.rep {x : V} {d : D} (r : At K mg B x d) : ∀ n : Nat, AtL K mg B (List.replicate n x) (List.replicate n d)
  | 0 => .nil
  | n + 1 => .cons r (AtL.rep r n)
theorem At.int_inv {v : V} {i : Int} (h : At K mg B v (.int i)) : v = .int i := by cases h; rfl
theorem At.bl_inv {v : V} {b : Bool} (h : At K mg B v (.bl b)) : v = .bl b := by cases h; rfl
theorem At.str_inv {v : V} {x : Str} (h : At K mg B v (.str x)) : v = .str x := by cases h; rfl
theorem At.non_inv {v : V} (h : At K mg B v .non) : v = .non := by cases h; rfl
theorem At.tup_inv {v : V} {ds : List D} (h : At K mg B v (.tup ds)) : ∃ a xs, v = .ref a ∧ SqT K B a xs ∧ AtL K mg B xs ds := by
  cases h with | tup h r => exact ⟨_, _, rfl, h, r⟩
theorem At.lst_inv {v : V} {ds : List D} (h : At K mg B v (.lst ds)) : ∃ a xs, v = .ref a ∧ B a = some (.lst xs) ∧ AtL K mg B xs ds := by
  cases h with | lst h r => exact ⟨_, _, rfl, h, r⟩
theorem At.scr_inv {v : V} {ns : List Int} (h : At K mg B v (.scr ns)) : ∃ a, v = .ref a ∧ SqL K B a (ns.map V.int) := by
  cases h with | scr h => exact ⟨_, rfl, h⟩
theorem At.obj_inv {v : V} {c : Str} {ns : List Str} {ds : List D} (h : At K mg B v (.obj c ns ds)) : ∃ a C dx fs, v = .ref a ∧ mg c = some (.ref C) ∧ B a = some (.ins C dx fs) ∧ fs.map (·.1) = ns ∧ AtL K mg B (fs.map (·.2)) ds := by
  cases h with | obj h1 h2 h3 r => exact ⟨_, _, _, _, rfl, h1, h2, h3, r⟩
theorem AtL.ints : ∀ {xs : List V} {ns : List Int}, AtL K mg B xs (ns.map D.int) → xs = ns.map V.int
  | [], [], _ => rfl
  | _ :: _, _ :: _, .cons r t => by rw [r.int_inv, AtL.ints t]; rfl
theorem AtL.of_ints : ∀ ns : List Int, AtL K mg B (ns.map V.int) (ns.map D.int)
  | [] => .nil
  | n :: ns => .cons (.int n) (AtL.of_ints ns)
end

/-! ### slots, results -/
/-- what a slot holds: nothing known, a datum, a list of one's own (r: the caller's, handed by reference), an instance of one's own -/
inductive Sl where
  | no | val (d : D) | own (r : Bool) (ds : List D) | oin (r : Bool) (c : Str) (ns : List Str) (ds : List D)
abbrev En := List Sl
def Sl.isOwn : Sl → Bool
  | .own _ _ => true | .oin _ _ _ _ => true | _ => false
def Sl.isRef : Sl → Bool
  | .own r _ => r | .oin r _ _ _ => r | _ => false
inductive Res (α : Type) where
  | ok (a : α) (e : En) | exc (x : D) (e : En) | bad
abbrev M (α : Type) := En → Res α
def Res.wp {α : Type} (r : Res α) (Q : α → En → Prop) (E : D → En → Prop) : Prop := match r with
  | .ok a e => Q a e | .exc x e => E x e | .bad => False
def bd {α β : Type} (m : M α) (f : α → M β) : M β := fun e => match m e with
  | .ok a e' => f a e' | .exc x e' => .exc x e' | .bad => .bad
def pu {α : Type} (a : α) : M α := fun e => .ok a e
def li {α : Type} (o : Option α) : M α := fun e => match o with
  | some a => .ok a e | none => .bad
theorem wp_bd {α β : Type} {m : M α} {f : α → M β} {e : En} {Q : β → En → Prop} {E : D → En → Prop} : (bd m f e).wp Q E ↔ (m e).wp (fun a e' => (f a e').wp Q E) E := by
  unfold bd
  cases m e <;> exact Iff.rfl
theorem Res.wp.imp {α : Type} {r : Res α} {Q Q' : α → En → Prop} {E E' : D → En → Prop} (h : r.wp Q E) (hQ : ∀ a e, Q a e → Q' a e) (hE : ∀ x e, E x e → E' x e) : r.wp Q' E' := by
  cases r with
  | ok a e => exact hQ a e h
  | exc x e => exact hE x e h
  | bad => exact h
theorem li_some {α : Type} {a : α} {e : En} : li (some a) e = .ok a e := rfl
theorem wp_li {α : Type} {o : Option α} {e : En} {Q : α → En → Prop} {E : D → En → Prop} (h : (li o e).wp Q E) : ∃ a, o = some a ∧ Q a e := by
  cases o with
  | none => exact h.elim
  | some a => exact ⟨a, rfl, h⟩

/-! ### states -/
/-- the entry of a def: what was known, the heap, the addresses of what is handed by reference, the slots -/
structure Ent where
  B0 : Hp
  H0 : Hp
  R : List Addr
  s0 : St
def OwnA (Z : Ent) (B : Hp) (i : Nat) (r : Bool) (a : Addr) : Prop := B a = none ∧ (r = false → Z.H0 a = none) ∧ (r = true → a ∈ Z.R ∧ Z.s0[i]? = some (some (.ref a)))
def SlAt (K : PySem.W.Frag) (mg : Str → Option Value) (Z : Ent) (B H : Hp) (i : Nat) (o : Option (Option V)) : Sl → Prop
  | .no => True
  | .val d => ∃ v, o = some (some v) ∧ At K mg B v d
  | .own r ds => ∃ a xs, o = some (some (.ref a)) ∧ H a = some (.lst xs) ∧ AtL K mg B xs ds ∧ OwnA Z B i r a
  | .oin r c ns ds => ∃ a C dx fs, o = some (some (.ref a)) ∧ mg c = some (.ref C) ∧ H a = some (.ins C dx fs) ∧ fs.map (·.1) = ns ∧ AtL K mg B (fs.map (·.2)) ds ∧ OwnA Z B i r a
def ownAt (e : En) (i : Nat) : Prop := ∃ s, e[i]? = some s ∧ s.isOwn = true
structure SR (K : PySem.W.Frag) (mg : Str → Option Value) (Z : Ent) (B : Hp) (σ : St) (H : Hp) (e : En) : Prop where
  le : Same Z.B0 B
  bh : Same B H
  fh : ∀ a o, Z.H0 a = some o → a ∉ Z.R → H a = some o
  nb : ∀ a o, B a = some o → Z.B0 a = some o ∨ Z.H0 a = none
  dm : ∀ a o, Z.H0 a = some o → ∃ o', H a = some o'
  ln : σ.length = e.length
  sl : ∀ i s, e[i]? = some s → SlAt K mg Z B H i σ[i]? s
  ds : ∀ i j a, i ≠ j → ownAt e i → ownAt e j → σ[i]? = some (some (.ref a)) → σ[j]? ≠ some (some (.ref a))
/-- no slot of one's own is at p -/
def Free (σ : St) (e : En) (p : Addr) : Prop := ∀ i, ownAt e i → σ[i]? ≠ some (some (.ref p))

section
variable {K : PySem.W.Frag} {mg : Str → Option Value} {Z : Ent} {B B' : Hp} {σ : St} {H H' : Hp} {e e' : En} {p : Addr} {o : HO}
theorem SlAt.mono {i : Nat} {q : Option (Option V)} {s : Sl} (h : SlAt K mg Z B H i q s) (l : Same B B') (hb : ∀ a o, s.isOwn = true → q = some (some (.ref a)) → H a = some o → B a = none → B' a = none ∧ H' a = some o) : SlAt K mg Z B' H' i q s := by
  cases s with
  | no => trivial
  | val d =>
    obtain ⟨v, e, r⟩ := h
    exact ⟨v, e, r.mono l⟩
  | own r ds =>
    obtain ⟨a, xs, e, h1, h2, h3⟩ := h
    obtain ⟨z1, z2⟩ := hb a _ rfl e h1 h3.1
    exact ⟨a, xs, e, z2, h2.mono l, z1, h3.2⟩
  | oin r c ns ds =>
    obtain ⟨a, C, dx, fs, e, h0, h1, h2, h3, h4⟩ := h
    obtain ⟨z1, z2⟩ := hb a _ rfl e h1 h4.1
    exact ⟨a, C, dx, fs, e, h0, z2, h2, h3.mono l, z1, h4.2⟩
theorem SlAt.at_own {i : Nat} {q : Option (Option V)} {s : Sl} (h : SlAt K mg Z B H i q s) (hs : s.isOwn = true) : ∃ a o, q = some (some (.ref a)) ∧ H a = some o ∧ OwnA Z B i s.isRef a := by
  cases s with
  | no => cases hs
  | val d => cases hs
  | own r ds =>
    obtain ⟨a, xs, e, h1, h2, h3⟩ := h
    exact ⟨a, _, e, h1, h3⟩
  | oin r c ns ds =>
    obtain ⟨a, C, dx, fs, e, h0, h1, h2, h3, h4⟩ := h
    exact ⟨a, _, e, h1, h4⟩
/-- a new object is known from now on -/
theorem SR.new (S : SR K mg Z B σ H e) (hp : H p = none) : SR K mg Z (upd B p o) σ (upd H p o) e ∧ Same B (upd B p o) := by
  have hB : B p = none := S.bh.free hp
  have h0 : Z.H0 p = none := by
    cases q : Z.H0 p with
    | none => rfl
    | some u =>
      obtain ⟨o', z⟩ := S.dm p u q
      rw [hp] at z; cases z
  have l : Same B (upd B p o) := fun b u q => by rw [upd_ne (ne_of_none q hB)]; exact q
  refine ⟨⟨S.le.trans l, fun b u q => ?_, fun b u q n => ?_, fun b u q => ?_, fun b u q => ?_, S.ln, fun i s q => (S.sl i s q).mono l fun a u _ _ h1 h2 => ?_, S.ds⟩, l⟩
  · by_cases hb : b = p
    · subst hb; rw [upd_same] at q ⊢; exact q
    · rw [upd_ne hb] at q ⊢; exact S.bh b u q
  · rw [upd_ne (ne_of_none (S.fh b u q n) hp)]; exact S.fh b u q n
  · by_cases hb : b = p
    · subst hb; exact .inr h0
    · rw [upd_ne hb] at q; exact S.nb b u q
  · obtain ⟨o', z⟩ := S.dm b u q
    exact ⟨o', by rw [upd_ne (ne_of_none z hp)]; exact z⟩
  · have ne := ne_of_none h1 hp
    exact ⟨by rw [upd_ne ne]; exact h2, by rw [upd_ne ne]; exact h1⟩
/-- a new object that is not known yet -/
theorem SR.newO (S : SR K mg Z B σ H e) (hp : H p = none) : SR K mg Z B σ (upd H p o) e ∧ B p = none ∧ Z.H0 p = none ∧ Free σ e p := by
  have hB : B p = none := S.bh.free hp
  have h0 : Z.H0 p = none := by
    cases q : Z.H0 p with
    | none => rfl
    | some u =>
      obtain ⟨o', z⟩ := S.dm p u q
      rw [hp] at z; cases z
  refine ⟨⟨S.le, fun b u q => ?_, fun b u q n => ?_, S.nb, fun b u q => ?_, S.ln, fun i s q => (S.sl i s q).mono (Same.refl B) fun a u _ _ h1 h2 => ?_, S.ds⟩, hB, h0, fun i ⟨s, q, hs⟩ z => ?_⟩
  · rw [upd_ne (ne_of_none (S.bh b u q) hp)]; exact S.bh b u q
  · rw [upd_ne (ne_of_none (S.fh b u q n) hp)]; exact S.fh b u q n
  · obtain ⟨o', z⟩ := S.dm b u q
    exact ⟨o', by rw [upd_ne (ne_of_none z hp)]; exact z⟩
  · exact ⟨h2, by rw [upd_ne (ne_of_none h1 hp)]; exact h1⟩
  · obtain ⟨a, u, e1, h1, _⟩ := (S.sl i s q).at_own hs
    rw [z] at e1
    cases e1
    rw [hp] at h1; cases h1
/-- what stands is known from now on -/
theorem SR.freeze (S : SR K mg Z B σ H e) (hp : H p = some o) (hB : B p = none) (h0 : Z.H0 p = none) (hf : Free σ e p) : SR K mg Z (upd B p o) σ H e ∧ Same B (upd B p o) := by
  have l : Same B (upd B p o) := fun b u q => by rw [upd_ne (ne_of_none q hB)]; exact q
  refine ⟨⟨S.le.trans l, fun b u q => ?_, S.fh, fun b u q => ?_, S.dm, S.ln, fun i s q => (S.sl i s q).mono l fun a u hs e1 h1 h2 => ?_, S.ds⟩, l⟩
  · by_cases hb : b = p
    · subst hb; rw [upd_same] at q; cases q; exact hp
    · rw [upd_ne hb] at q; exact S.bh b u q
  · by_cases hb : b = p
    · subst hb; exact .inr h0
    · rw [upd_ne hb] at q; exact S.nb b u q
  · have ne : a ≠ p := fun z => hf i ⟨s, q, hs⟩ (by rw [e1, z])
    exact ⟨by rw [upd_ne ne]; exact h2, h1⟩
theorem ownAt_set {i j : Nat} {s : Sl} (h : ownAt (e.set i s) j) : (j = i ∧ s.isOwn = true) ∨ (j ≠ i ∧ ownAt e j) := by
  obtain ⟨s', q, hs⟩ := h
  by_cases hj : j = i
  · subst hj
    rw [List.getElem?_set] at q
    simp at q
    obtain ⟨_, rfl⟩ := q
    exact .inl ⟨rfl, hs⟩
  · rw [List.getElem?_set_ne (Ne.symm hj)] at q
    exact .inr ⟨hj, s', q, hs⟩
/-- a slot is stored: a datum -/
theorem SR.set {i : Nat} {v : V} {d : D} (S : SR K mg Z B σ H e) (r : At K mg B v d) : SR K mg Z B (σ.set i (some v)) H (e.set i (.val d)) := by
  refine ⟨S.le, S.bh, S.fh, S.nb, S.dm, by simp [S.ln], fun j s q => ?_, fun j k a hjk hj hk e1 => ?_⟩
  · by_cases hj : j = i
    · subst hj
      rw [List.getElem?_set] at q ⊢
      simp only [if_true] at q ⊢
      split at q
      · cases q
        rename_i hlt
        rw [if_pos (by rw [S.ln]; exact hlt)]
        exact ⟨v, rfl, r⟩
      · cases q
    · rw [List.getElem?_set_ne (Ne.symm hj)] at q ⊢
      exact S.sl j s q
  · rcases ownAt_set hj with ⟨_, z⟩ | ⟨n1, hj'⟩
    · cases z
    · rcases ownAt_set hk with ⟨_, z⟩ | ⟨n2, hk'⟩
      · cases z
      · rw [List.getElem?_set_ne (Ne.symm n1)] at e1
        rw [List.getElem?_set_ne (Ne.symm n2)]
        exact S.ds j k a hjk hj' hk' e1
/-- a slot is stored: something new of one's own at p -/
theorem SR.setO {i : Nat} {s : Sl} (S : SR K mg Z B σ H e) (hf : Free σ e p) (hs : i < e.length → SlAt K mg Z B H i (some (some (.ref p))) s) : SR K mg Z B (σ.set i (some (.ref p))) H (e.set i s) := by
  refine ⟨S.le, S.bh, S.fh, S.nb, S.dm, by simp [S.ln], fun j s' q => ?_, fun j k a hjk hj hk e1 => ?_⟩
  · by_cases hj : j = i
    · subst hj
      rw [List.getElem?_set] at q ⊢
      simp only [if_true] at q ⊢
      split at q
      · cases q
        rename_i hlt
        rw [if_pos (by rw [S.ln]; exact hlt)]
        exact hs hlt
      · cases q
    · rw [List.getElem?_set_ne (Ne.symm hj)] at q ⊢
      exact S.sl j s' q
  · rcases ownAt_set hj with ⟨z1, _⟩ | ⟨n1, hj'⟩
    · subst z1
      rcases ownAt_set hk with ⟨z2, _⟩ | ⟨n2, hk'⟩
      · exact absurd z2.symm hjk
      · rw [List.getElem?_set] at e1
        simp only [if_true] at e1
        split at e1
        · cases e1
          rw [List.getElem?_set_ne (Ne.symm n2)]
          exact hf k hk'
        · cases e1
    · rw [List.getElem?_set_ne (Ne.symm n1)] at e1
      rcases ownAt_set hk with ⟨z2, _⟩ | ⟨n2, hk'⟩
      · subst z2
        rw [List.getElem?_set]
        simp only [if_true]
        split
        · intro z
          cases z
          exact hf j hj' e1
        · intro z; cases z
      · rw [List.getElem?_set_ne (Ne.symm n2)]
        exact S.ds j k a hjk hj' hk' e1
/-- what a slot holds is told less -/
theorem SR.weak {i : Nat} {s : Sl} (S : SR K mg Z B σ H e) (hs : i < e.length → SlAt K mg Z B H i σ[i]? s) (ho : s.isOwn = true → ownAt e i) : SR K mg Z B σ H (e.set i s) := by
  refine ⟨S.le, S.bh, S.fh, S.nb, S.dm, by simp [S.ln], fun j s' q => ?_, fun j k a hjk hj hk e1 => ?_⟩
  · by_cases hj : j = i
    · subst hj
      rw [List.getElem?_set] at q
      simp only [if_true] at q
      split at q
      · cases q
        rename_i hlt
        exact hs hlt
      · cases q
    · rw [List.getElem?_set_ne (Ne.symm hj)] at q
      exact S.sl j s' q
  · have z1 : ownAt e j := (ownAt_set hj).elim (fun z => z.1 ▸ ho z.2) fun z => z.2
    have z2 : ownAt e k := (ownAt_set hk).elim (fun z => z.1 ▸ ho z.2) fun z => z.2
    exact S.ds j k a hjk z1 z2 e1
/-- an object of one's own is written -/
theorem SR.write {i : Nat} {s : Sl} {a : Addr} {o : HO} (S : SR K mg Z B σ H e) (hi : ownAt e i) (ha : σ[i]? = some (some (.ref a))) (hs : SlAt K mg Z B (upd H a o) i σ[i]? s) (ho : s.isOwn = true) : SR K mg Z B σ (upd H a o) (e.set i s) := by
  obtain ⟨s0, q0, hs0⟩ := hi
  obtain ⟨a', o', e1, h1, hB, hr, hr'⟩ := (S.sl i s0 q0).at_own hs0
  rw [ha] at e1
  cases e1
  refine ⟨S.le, fun b u q => ?_, fun b u q n => ?_, S.nb, fun b u q => ?_, by simp [S.ln], fun j s' q => ?_, fun j k b hjk hj hk e2 => ?_⟩
  · rw [upd_ne (ne_of_none q hB)]; exact S.bh b u q
  · have ne : b ≠ a := fun z => by
      subst z
      cases hrf : s0.isRef with
      | false => rw [hr hrf] at q; cases q
      | true => exact n (hr' hrf).1
    rw [upd_ne ne]; exact S.fh b u q n
  · by_cases hb : b = a
    · subst hb; exact ⟨o, upd_same⟩
    · obtain ⟨o', z⟩ := S.dm b u q
      exact ⟨o', by rw [upd_ne hb]; exact z⟩
  · by_cases hj : j = i
    · subst hj
      rw [List.getElem?_set] at q
      simp only [if_true] at q
      split at q
      · cases q; exact hs
      · cases q
    · rw [List.getElem?_set_ne (Ne.symm hj)] at q
      refine (S.sl j s' q).mono (Same.refl B) fun b u hs' e2 h2 h3 => ⟨h3, ?_⟩
      have ne : b ≠ a := fun z => by
        subst z
        exact S.ds i j b (Ne.symm hj) ⟨s0, q0, hs0⟩ ⟨s', q, hs'⟩ ha e2
      rw [upd_ne ne]; exact h2
  · have z1 : ownAt e j := (ownAt_set hj).elim (fun z => z.1 ▸ ⟨s0, q0, hs0⟩) fun z => z.2
    have z2 : ownAt e k := (ownAt_set hk).elim (fun z => z.1 ▸ ⟨s0, q0, hs0⟩) fun z => z.2
    exact S.ds j k b hjk z1 z2 e2
end

/-! ### judgements -/
/-- an exception that carries one field -/
def XAt (K : PySem.W.Frag) (mg : Str → Option Value) (B H : Hp) (x : D) (cls : Value) (dd : Option Addr) : Prop :=
  ∃ c n d C a v, x = .obj c [n] [d] ∧ mg c = some (.ref C) ∧ cls = .ref C ∧ dd = some a ∧ H a = some (.xd [(n, v)]) ∧ At K mg B v d
def PV (K : PySem.W.Frag) (mg : Str → Option Value) (Z : Ent) (B : Hp) (σ : St) (Q : VK) : D → En → Prop := fun d e' => ∀ v B' H', SR K mg Z B' σ H' e' → Same B B' → At K mg B' v d → Q v H'
def PX (K : PySem.W.Frag) (mg : Str → Option Value) (Z : Ent) (B : Hp) (σ : St) (W : WX) : D → En → Prop := fun x e' => ∀ cls dd B' H', SR K mg Z B' σ H' e' → Same B B' → XAt K mg B' H' x cls dd → W cls dd σ H'
def PB (K : PySem.W.Frag) (mg : Str → Option Value) (Z : Ent) (B : Hp) (σ : St) (Q : Bool → Hp → Prop) : Bool → En → Prop := fun b e' => ∀ B' H', SR K mg Z B' σ H' e' → Same B B' → Q b H'
def PL (K : PySem.W.Frag) (mg : Str → Option Value) (Z : Ent) (B : Hp) (σ : St) (Q : List V → Hp → Prop) : List D → En → Prop := fun ds e' => ∀ vs B' H', SR K mg Z B' σ H' e' → Same B B' → AtL K mg B' vs ds → Q vs H'
/-- a new list, not known yet -/
def PN (K : PySem.W.Frag) (mg : Str → Option Value) (Z : Ent) (B : Hp) (σ : St) (Q : VK) : List D → En → Prop := fun ds e' => ∀ p xs B' H', SR K mg Z B' σ H' e' → Same B B' → H' p = some (.lst xs) → AtL K mg B' xs ds → B' p = none → Z.H0 p = none → Free σ e' p → Q (.ref p) H'
inductive Fl where
  | nx | rt (d : D) | bk | ct | rn (ds : List D)
def PF (K : PySem.W.Frag) (mg : Str → Option Value) (Z : Ent) (B : Hp) (Y : Ends) : Fl → En → Prop := fun f e' => match f with
  | .nx => ∀ σ' B' H', SR K mg Z B' σ' H' e' → Same B B' → Y.nx σ' H'
  | .rt d => ∀ v σ' B' H', SR K mg Z B' σ' H' e' → Same B B' → At K mg B' v d → Y.rt v H'
  | .bk => ∀ σ' B' H', SR K mg Z B' σ' H' e' → Same B B' → Y.bk σ' H'
  | .ct => ∀ σ' B' H', SR K mg Z B' σ' H' e' → Same B B' → Y.ct σ' H'
  | .rn ds => ∀ p xs σ' B' H', SR K mg Z B' σ' H' e' → Same B B' → H' p = some (.lst xs) → AtL K mg B' xs ds → B' p = none → Z.H0 p = none → Free σ' e' p → Y.rt (.ref p) H'
def PXs (K : PySem.W.Frag) (mg : Str → Option Value) (Z : Ent) (B : Hp) (W : WX) : D → En → Prop := fun x e' => ∀ cls dd σ' B' H', SR K mg Z B' σ' H' e' → Same B B' → XAt K mg B' H' x cls dd → W cls dd σ' H'

def EvD (K : PySem.W.Frag) (mg : Str → Option Value) (W : WX) (te : TE) (f : M D) : Prop := ∀ Z B σ H e (Q : VK), SR K mg Z B σ H e → (f e).wp (PV K mg Z B σ Q) (PX K mg Z B σ W) → te σ H Q
def EvB (K : PySem.W.Frag) (mg : Str → Option Value) (W : WX) (tt : TT) (f : M Bool) : Prop := ∀ Z B σ H e (Q : Bool → Hp → Prop), SR K mg Z B σ H e → (f e).wp (PB K mg Z B σ Q) (PX K mg Z B σ W) → tt σ H Q
def EvL (K : PySem.W.Frag) (mg : Str → Option Value) (W : WX) (ta : TA) (f : M (List D)) : Prop := ∀ Z B σ H e (Q : List V → Hp → Prop), SR K mg Z B σ H e → (f e).wp (PL K mg Z B σ Q) (PX K mg Z B σ W) → ta σ H Q
def EvN (K : PySem.W.Frag) (mg : Str → Option Value) (W : WX) (te : TE) (f : M (List D)) : Prop := ∀ Z B σ H e (Q : VK), SR K mg Z B σ H e → (f e).wp (PN K mg Z B σ Q) (PX K mg Z B σ W) → te σ H Q
def EvS (K : PySem.W.Frag) (mg : Str → Option Value) (W : WX) (ts : TS) (f : M Fl) : Prop := ∀ Z B σ H e (Y : Ends), SR K mg Z B σ H e → (f e).wp (PF K mg Z B Y) (PXs K mg Z B W) → ts Y σ H

def PED (X : Cx) (W : WX) (a : Expr) (f : M D) : Prop := ∃ te, PE X a te ∧ EvD X.K X.mg W te f
def PBD (X : Cx) (W : WX) (a : Expr) (f : M Bool) : Prop := ∃ tt, PT X a tt ∧ EvB X.K X.mg W tt f
def PAD (X : Cx) (W : WX) (as : List Expr) (f : M (List D)) : Prop := ∃ ta, PA X as ta ∧ EvL X.K X.mg W ta f
def PND (X : Cx) (W : WX) (a : Expr) (f : M (List D)) : Prop := ∃ te, PE X a te ∧ EvN X.K X.mg W te f
def PSD (X : Cx) (W : WX) (st : Stmt) (f : M Fl) : Prop := ∃ ts, PS X st ts ∧ EvS X.K X.mg W ts f
def PSsD (X : Cx) (W : WX) (st : List Stmt) (f : M Fl) : Prop := ∃ ts, PSs X st ts ∧ EvS X.K X.mg W ts f

section
variable {K : PySem.W.Frag} {mg : Str → Option Value} {Z : Ent} {B B1 : Hp} {σ : St} {W : WX}
theorem PV.up {Q : VK} {d : D} {e : En} (l : Same B B1) (h : PV K mg Z B σ Q d e) : PV K mg Z B1 σ Q d e := fun v B' H' S l' a => h v B' H' S (l.trans l') a
theorem PX.up {d : D} {e : En} (l : Same B B1) (h : PX K mg Z B σ W d e) : PX K mg Z B1 σ W d e := fun c dd B' H' S l' a => h c dd B' H' S (l.trans l') a
theorem PB.up {Q : Bool → Hp → Prop} {d : Bool} {e : En} (l : Same B B1) (h : PB K mg Z B σ Q d e) : PB K mg Z B1 σ Q d e := fun B' H' S l' => h B' H' S (l.trans l')
theorem PL.up {Q : List V → Hp → Prop} {d : List D} {e : En} (l : Same B B1) (h : PL K mg Z B σ Q d e) : PL K mg Z B1 σ Q d e := fun v B' H' S l' a => h v B' H' S (l.trans l') a
theorem PN.up {Q : VK} {d : List D} {e : En} (l : Same B B1) (h : PN K mg Z B σ Q d e) : PN K mg Z B1 σ Q d e := fun p xs B' H' S l' a => h p xs B' H' S (l.trans l') a
theorem PF.up {Y : Ends} {f : Fl} {e : En} (l : Same B B1) (h : PF K mg Z B Y f e) : PF K mg Z B1 Y f e := by
  cases f with
  | nx => exact fun σ' B' H' S l' => h σ' B' H' S (l.trans l')
  | rt d => exact fun v σ' B' H' S l' a => h v σ' B' H' S (l.trans l') a
  | bk => exact fun σ' B' H' S l' => h σ' B' H' S (l.trans l')
  | ct => exact fun σ' B' H' S l' => h σ' B' H' S (l.trans l')
  | rn ds => exact fun p xs σ' B' H' S l' a1 a2 a3 a4 a5 => h p xs σ' B' H' S (l.trans l') a1 a2 a3 a4 a5
theorem PXs.up {x : D} {e : En} (l : Same B B1) (h : PXs K mg Z B W x e) : PXs K mg Z B1 W x e := fun c dd σ' B' H' S l' a => h c dd σ' B' H' S (l.trans l') a
theorem PXs.at {x : D} {e : En} (h : PXs K mg Z B W x e) : PX K mg Z B σ W x e := fun c dd B' H' S l' a => h c dd σ B' H' S l' a
theorem upV {r : Res D} {Q : VK} (l : Same B B1) (h : r.wp (PV K mg Z B σ Q) (PX K mg Z B σ W)) : r.wp (PV K mg Z B1 σ Q) (PX K mg Z B1 σ W) := h.imp (fun _ _ => PV.up l) fun _ _ => PX.up l
theorem upB {r : Res Bool} {Q : Bool → Hp → Prop} (l : Same B B1) (h : r.wp (PB K mg Z B σ Q) (PX K mg Z B σ W)) : r.wp (PB K mg Z B1 σ Q) (PX K mg Z B1 σ W) := h.imp (fun _ _ => PB.up l) fun _ _ => PX.up l
theorem upL {r : Res (List D)} {Q : List V → Hp → Prop} (l : Same B B1) (h : r.wp (PL K mg Z B σ Q) (PX K mg Z B σ W)) : r.wp (PL K mg Z B1 σ Q) (PX K mg Z B1 σ W) := h.imp (fun _ _ => PL.up l) fun _ _ => PX.up l
theorem upN {r : Res (List D)} {Q : VK} (l : Same B B1) (h : r.wp (PN K mg Z B σ Q) (PX K mg Z B σ W)) : r.wp (PN K mg Z B1 σ Q) (PX K mg Z B1 σ W) := h.imp (fun _ _ => PN.up l) fun _ _ => PX.up l
theorem upF {r : Res Fl} {Y : Ends} (l : Same B B1) (h : r.wp (PF K mg Z B Y) (PXs K mg Z B W)) : r.wp (PF K mg Z B1 Y) (PXs K mg Z B1 W) := h.imp (fun _ _ => PF.up l) fun _ _ => PXs.up l

/-! ### the simplest rules -/
variable {ta tb te : TE} {fa fb : M D}
theorem EvD.then {α : Type} {P : α → En → Prop} {E : D → En → Prop} {g : D → M α} (ha : EvD K mg W ta fa) {H : Hp} {e : En} {Q : VK} (S : SR K mg Z B σ H e) (h : (bd fa g e).wp P E) (hE : ∀ x e', E x e' → PX K mg Z B σ W x e')
    (k : ∀ d e' v B' H', SR K mg Z B' σ H' e' → Same B B' → At K mg B' v d → (g d e').wp P E → Q v H') : ta σ H Q := by
  refine ha Z B σ H e Q S ((wp_bd.mp h).imp (fun d e' q v B' H' S' l a => k d e' v B' H' S' l a q) fun x e' q => hE x e' q)
theorem EvB.then {α : Type} {P : α → En → Prop} {E : D → En → Prop} {tt : TT} {fa : M Bool} {g : Bool → M α} (ha : EvB K mg W tt fa) {H : Hp} {e : En} {Q : Bool → Hp → Prop} (S : SR K mg Z B σ H e) (h : (bd fa g e).wp P E) (hE : ∀ x e', E x e' → PX K mg Z B σ W x e')
    (k : ∀ d e' B' H', SR K mg Z B' σ H' e' → Same B B' → (g d e').wp P E → Q d H') : tt σ H Q := by
  refine ha Z B σ H e Q S ((wp_bd.mp h).imp (fun d e' q B' H' S' l => k d e' B' H' S' l q) fun x e' q => hE x e' q)
theorem EvL.then {α : Type} {P : α → En → Prop} {E : D → En → Prop} {tt : TA} {fa : M (List D)} {g : List D → M α} (ha : EvL K mg W tt fa) {H : Hp} {e : En} {Q : List V → Hp → Prop} (S : SR K mg Z B σ H e) (h : (bd fa g e).wp P E) (hE : ∀ x e', E x e' → PX K mg Z B σ W x e')
    (k : ∀ d e' v B' H', SR K mg Z B' σ H' e' → Same B B' → AtL K mg B' v d → (g d e').wp P E → Q v H') : tt σ H Q := by
  refine ha Z B σ H e Q S ((wp_bd.mp h).imp (fun d e' q v B' H' S' l a => k d e' v B' H' S' l a q) fun x e' q => hE x e' q)
theorem EvN.then {α : Type} {P : α → En → Prop} {E : D → En → Prop} {fa : M (List D)} {g : List D → M α} (ha : EvN K mg W ta fa) {H : Hp} {e : En} {Q : VK} (S : SR K mg Z B σ H e) (h : (bd fa g e).wp P E) (hE : ∀ x e', E x e' → PX K mg Z B σ W x e')
    (k : ∀ d e' p xs B' H', SR K mg Z B' σ H' e' → Same B B' → H' p = some (.lst xs) → AtL K mg B' xs d → B' p = none → Z.H0 p = none → Free σ e' p → (g d e').wp P E → Q (.ref p) H') : ta σ H Q := by
  refine ha Z B σ H e Q S ((wp_bd.mp h).imp (fun d e' q p xs B' H' S' l a1 a2 a3 a4 a5 => k d e' p xs B' H' S' l a1 a2 a3 a4 a5 q) fun x e' q => hE x e' q)
end
end Dl

set_option maxHeartbeats 1000000
/-! Layer D, part 1: expressions. -/
namespace Dl
open PySem PySem.Spec PyProof.Rows L2

def orM {α : Type} (a b : M α) : M α := fun e => match a e with
  | .bad => b e | r => r
theorem wp_or {α : Type} {a b : M α} {e : En} {Q : α → En → Prop} {E : D → En → Prop} (h : (orM a b e).wp Q E) : (a e).wp Q E ∨ (b e).wp Q E := by
  unfold orM at h
  cases q : a e with
  | ok x e' => rw [q] at h; exact .inl h
  | exc x e' => rw [q] at h; exact .inl h
  | bad => rw [q] at h; exact .inr h
def OpD (K : PySem.W.Frag) (mg : Str → Option Value) (W : WX) (r : R2) (o : D → D → M D) : Prop := ∀ Z B σ H e x y a b (Q : VK), SR K mg Z B σ H e → At K mg B x a → At K mg B y b → (o a b e).wp (PV K mg Z B σ Q) (PX K mg Z B σ W) → r x y H Q
def ClD (K : PySem.W.Frag) (mg : Str → Option Value) (W : WX) (r : List V → Hp → VK → Prop) (o : List D → M D) : Prop := ∀ Z B σ H e xs as (Q : VK), SR K mg Z B σ H e → AtL K mg B xs as → (o as e).wp (PV K mg Z B σ Q) (PX K mg Z B σ W) → r xs H Q
theorem OpD.or {K : PySem.W.Frag} {mg : Str → Option Value} {W : WX} {r r' : R2} {o o' : D → D → M D} (h : OpD K mg W r o) (h' : OpD K mg W r' o') : OpD K mg W (fun x y H Q => r x y H Q ∨ r' x y H Q) (fun a b => orM (o a b) (o' a b)) :=
  fun Z B σ H e x y a b Q S ha hb q => (wp_or q).elim (fun q => .inl (h Z B σ H e x y a b Q S ha hb q)) fun q => .inr (h' Z B σ H e x y a b Q S ha hb q)
theorem ClD.or {K : PySem.W.Frag} {mg : Str → Option Value} {W : WX} {r r' : List V → Hp → VK → Prop} {o o' : List D → M D} (h : ClD K mg W r o) (h' : ClD K mg W r' o') : ClD K mg W (fun x H Q => r x H Q ∨ r' x H Q) (fun a => orM (o a) (o' a)) :=
  fun Z B σ H e x a Q S ha q => (wp_or q).elim (fun q => .inl (h Z B σ H e x a Q S ha q)) fun q => .inr (h' Z B σ H e x a Q S ha q)
theorem opR_or {X : Cx} {f : Value → Value → Sem Value} {r r' : R2} (h : OpR X f r) (h' : OpR X f r') : OpR X f (fun x y H Q => r x y H Q ∨ r' x y H Q) := by
  intro pins s σ H x y v u Q I rx ry q
  rcases q with q | q
  · exact h pins s σ H x y v u Q I rx ry q
  · exact h' pins s σ H x y v u Q I rx ry q

/-! ### ints -/
def opI (c : Int → Int → Bool) (g : Int → Int → D) : D → D → M D := fun a b => li (match a, b with
  | .int i, .int j => if c i j = true then some (g i j) else none
  | _, _ => none)
def dAdd : D → D → M D := opI (fun _ _ => true) fun i j => .int (i + j)
def dSub : D → D → M D := opI (fun _ _ => true) fun i j => .int (i - j)
def cMul (i j : Int) : Bool := decide ((-(2 ^ 64) < i ∧ i < 2 ^ 64) ∨ (-(2 ^ 64) < j ∧ j < 2 ^ 64)) || decide (i.natAbs.log2 + j.natAbs.log2 < 1000000)
def dMul : D → D → M D := opI cMul fun i j => .int (i * j)
def dMod : D → D → M D := opI (fun _ j => decide (0 < j)) fun i j => .int (i % j)
def dDiv : D → D → M D := opI (fun _ j => decide (0 < j ∧ j.natAbs.log2 < 9000)) fun i j => .int (i / j)
def dPow : D → D → M D := opI (fun i j => decide (0 ≤ j ∧ j ≤ 1000000 ∧ i.natAbs < 2 ^ 64)) fun i j => .int (i ^ j.toNat)
def dLt : D → D → M D := opI (fun _ _ => true) fun i j => .bl (decide (i < j))
def dLe : D → D → M D := opI (fun _ _ => true) fun i j => .bl (decide (i ≤ j))
def dGt : D → D → M D := opI (fun _ _ => true) fun i j => .bl (decide (j < i))
def dGe : D → D → M D := opI (fun _ _ => true) fun i j => .bl (decide (j ≤ i))
section
variable {K : PySem.W.Frag} {mg : Str → Option Value} {W : WX}
theorem opI_wp {c : Int → Int → Bool} {g : Int → Int → D} {a b : D} {e : En} {Q : D → En → Prop} {E : D → En → Prop} (h : (opI c g a b e).wp Q E) : ∃ i j, a = .int i ∧ b = .int j ∧ c i j = true ∧ Q (g i j) e := by
  obtain ⟨d, h1, h2⟩ := wp_li h
  cases a with
  | int i =>
    cases b with
    | int j =>
      have h1 : (if c i j = true then some (g i j) else none) = some d := h1
      split at h1
      · cases h1; exact ⟨i, j, rfl, rfl, by assumption, h2⟩
      · cases h1
    | _ => cases h1
  | _ => cases h1
theorem opD_I {C : Int → Int → Prop} {g : Int → Int → V} {gd : Int → Int → D} {c : Int → Int → Bool} (hc : ∀ i j, c i j = true → C i j) (hg : ∀ B i j, At K mg B (g i j) (gd i j)) : OpD K mg W (rI C g) (opI c gd) := by
  intro Z B σ H e x y a b Q S ha hb q
  obtain ⟨i, j, rfl, rfl, h1, h2⟩ := opI_wp q
  exact ⟨i, j, ha.int_inv, hb.int_inv, hc i j h1, h2 _ B H S (Same.refl B) (hg B i j)⟩
theorem opD_I0 {g : Int → Int → V} {gd : Int → Int → D} {c : Int → Int → Bool} (hg : ∀ B i j, At K mg B (g i j) (gd i j)) : OpD K mg W (rI0 g) (opI c gd) := by
  intro Z B σ H e x y a b Q S ha hb q
  obtain ⟨i, j, rfl, rfl, h1, h2⟩ := opI_wp q
  exact ⟨i, j, ha.int_inv, hb.int_inv, h2 _ B H S (Same.refl B) (hg B i j)⟩
theorem od_add : OpD K mg W (rI0 fun i j => .int (i + j)) dAdd := opD_I0 fun _ _ _ => .int _
theorem od_sub : OpD K mg W (rI0 fun i j => .int (i - j)) dSub := opD_I0 fun _ _ _ => .int _
theorem od_mod : OpD K mg W (rI (fun _ j => 0 < j) fun i j => .int (i % j)) dMod := opD_I (fun _ _ h => of_decide_eq_true h) fun _ _ _ => .int _
theorem od_div : OpD K mg W (rI CDivW fun i j => .int (i / j)) dDiv := opD_I (fun _ j h => (of_decide_eq_true h : 0 < j ∧ j.natAbs.log2 < 9000)) fun _ _ _ => .int _
theorem od_pow : OpD K mg W (rI CPow fun i j => .int (i ^ j.toNat)) dPow := opD_I (fun i j h => (of_decide_eq_true h : 0 ≤ j ∧ j ≤ 1000000 ∧ i.natAbs < 2 ^ 64)) fun _ _ _ => .int _
theorem od_lt : OpD K mg W (rI0 fun i j => .bl (decide (i < j))) dLt := opD_I0 fun _ _ _ => .bl _
theorem od_le : OpD K mg W (rI0 fun i j => .bl (decide (i ≤ j))) dLe := opD_I0 fun _ _ _ => .bl _
theorem od_gt : OpD K mg W (rI0 fun i j => .bl (decide (j < i))) dGt := opD_I0 fun _ _ _ => .bl _
theorem od_ge : OpD K mg W (rI0 fun i j => .bl (decide (j ≤ i))) dGe := opD_I0 fun _ _ _ => .bl _
def CMulU (i j : Int) : Prop := CMul i j ∨ CMulW i j
theorem od_mul : OpD K mg W (rI CMulU fun i j => .int (i * j)) dMul := opD_I (fun i j h => by
  unfold cMul at h
  rcases Bool.or_eq_true _ _ ▸ h with h | h
  · exact Or.inl (of_decide_eq_true h : (-(2 ^ 64) < i ∧ i < 2 ^ 64) ∨ (-(2 ^ 64) < j ∧ j < 2 ^ 64))
  · exact Or.inr (of_decide_eq_true h : i.natAbs.log2 + j.natAbs.log2 < 1000000)) fun _ _ _ => .int _
end
theorem op_mulU {X : Cx} : OpR X (binaryOp .Mult) (rI CMulU fun i j => .int (i * j)) := L2.opI fun i j _ _ _ _ _ hc q => mul_int q (Or.elim (show CMul i j ∨ CMulW i j from hc) (fun h => h.ok) fun h => h.ok)

/-! ### lists and tuples -/
def dCatL : D → D → M D := fun a b => li (match a, b with
  | .lst xs, .lst ys => if xs.length + ys.length ≤ 16777216 then some (.lst (xs ++ ys)) else none
  | _, _ => none)
def dCatT : D → D → M D := fun a b => li (match a, b with
  | .tup xs, .tup ys => if xs.length + ys.length ≤ 16777216 then some (.tup (xs ++ ys)) else none
  | _, _ => none)
def dRepL : D → D → M D := fun a b => li (match a, b with
  | .lst xs, .int k => if k < 2 ^ 63 ∧ -(2 ^ 63) ≤ k ∧ xs.length * k.toNat ≤ 16777216 then some (.lst (List.replicate k.toNat xs).flatten) else none
  | _, _ => none)
section
variable {K : PySem.W.Frag} {mg : Str → Option Value} {W : WX}
theorem AtL.reps {B : Hp} {xs : List V} {ds : List D} (h : AtL K mg B xs ds) : ∀ n : Nat, AtL K mg B (List.replicate n xs).flatten (List.replicate n ds).flatten
  | 0 => .nil
  | n + 1 => by
    rw [List.replicate_succ, List.replicate_succ, List.flatten_cons, List.flatten_cons]
    exact h.app (AtL.reps h n)
theorem sz {n : Nat} (h : n ≤ 16777216) : n ≤ sizeLine := by rw [sizeLine_eq]; exact h
theorem od_catL : OpD K mg W rCat dCatL := by
  intro Z B σ H e x y a b Q S ha hb q
  obtain ⟨d, h1, h2⟩ := wp_li q
  cases a with
  | lst as =>
    cases b with
    | lst bs =>
      have h1 : (if as.length + bs.length ≤ 16777216 then some (D.lst (as ++ bs)) else none) = some d := h1
      split at h1
      · cases h1
        obtain ⟨p, xs, rfl, e1, r1⟩ := ha.lst_inv
        obtain ⟨p2, ys, rfl, e2, r2⟩ := hb.lst_inv
        refine ⟨p, p2, xs, ys, rfl, rfl, S.bh _ _ e1, S.bh _ _ e2, sz (by rw [r1.length, r2.length]; assumption), fun q hq => ?_⟩
        obtain ⟨S', l⟩ := S.new (o := .lst (xs ++ ys)) hq
        exact h2 _ _ _ S' l (.lst upd_same ((r1.mono l).app (r2.mono l)))
      · cases h1
    | _ => cases h1
  | _ => cases h1
theorem od_repL : OpD K mg W rRep dRepL := by
  intro Z B σ H e x y a b Q S ha hb q
  obtain ⟨d, h1, h2⟩ := wp_li q
  cases a with
  | lst as =>
    cases b with
    | int k =>
      have h1 : (if k < 2 ^ 63 ∧ -(2 ^ 63) ≤ k ∧ as.length * k.toNat ≤ 16777216 then some (D.lst (List.replicate k.toNat as).flatten) else none) = some d := h1
      split at h1
      · rename_i hc
        cases h1
        obtain ⟨p, xs, rfl, e1, r1⟩ := ha.lst_inv
        refine ⟨p, k, xs, rfl, hb.int_inv, S.bh _ _ e1, hc.2.1, hc.1, sz (by rw [r1.length]; exact hc.2.2), fun q hq => ?_⟩
        obtain ⟨S', l⟩ := S.new (o := .lst (List.replicate k.toNat xs).flatten) hq
        exact h2 _ _ _ S' l (.lst upd_same ((r1.mono l).reps _))
      · cases h1
    | _ => cases h1
  | _ => cases h1
end

/-! ### names, constants, operators -/
def fVar (i : Nat) : M D := fun e => match e[i]? with
  | some (.val d) => .ok d e | _ => .bad
def fC (d : D) : M D := fun e => .ok d e
def f2 (o : D → D → M D) (fa fb : M D) : M D := bd fa fun a => bd fb fun b => o a b
def fB (fa : M D) : M Bool := bd fa fun d => li (match d with
  | .bl b => some b | _ => none)
def fNot (fa : M Bool) : M Bool := bd fa fun b => pu (!b)
def fAnd (fa fb : M Bool) : M Bool := bd fa fun b => if b = true then fb else pu false
def fOr (fa fb : M Bool) : M Bool := bd fa fun b => if b = true then pu true else fb
def fBl (fa : M Bool) : M D := bd fa fun b => pu (.bl b)
def fIf {α : Type} (c : M Bool) (fa fb : M α) : M α := bd c fun b => if b = true then fa else fb
section
variable {X : Cx} {W : WX} {a b : Expr} {fa fb : M D} {ga gb : M Bool} {pos : Pos}
theorem ped_var (i : Nat) {x : Str} (hN : X.N[i]? = some x := by rfl) (hv : Vis X.env.scope x := by first | exact Or.inl rfl | exact Or.inr (Or.inl rfl) | exact Or.inr (Or.inr rfl)) (hd : (x == ("__debug__" : Str)) = false := by decide)
    (hcd : (x == ("__classdict__" : Str)) = false := by decide) : PED X W (.Name x pos) (fVar i) := by
  refine ⟨_, pe_var hN hv hd hcd, fun Z B σ H e Q S h => ?_⟩
  unfold fVar at h
  cases q : e[i]? with
  | none => rw [q] at h; exact False.elim h
  | some s =>
    rw [q] at h
    cases s with
    | val d =>
      obtain ⟨v, ev, r⟩ := S.sl i _ q
      exact ⟨v, ev, h v B H S (Same.refl B) r⟩
    | _ => exact False.elim h
theorem ped_c {v : V} {d : D} (h : PE X a (tC v)) (r : ∀ B, At X.K X.mg B v d) : PED X W a (fC d) := ⟨_, h, fun Z B σ H e Q S q => q v B H S (Same.refl B) (r B)⟩
theorem ped_int {i j pos} : PED X W (.Constant (.int i) j pos) (fC (.int i)) := ped_c pe_int fun _ => .int _
theorem ped_bl {b j pos} : PED X W (.Constant (.bool b) j pos) (fC (.bl b)) := ped_c pe_bl fun _ => .bl _
theorem ped_non {j pos} : PED X W (.Constant .none j pos) (fC .non) := ped_c pe_non fun _ => .non
theorem ped_str {x j pos} : PED X W (.Constant (.str x) j pos) (fC (.str x)) := ped_c pe_str fun _ => .str _
theorem evD_op {K : PySem.W.Frag} {mg : Str → Option Value} {ta tb : TE} {r : R2} {o : D → D → M D} (ea : EvD K mg W ta fa) (eb : EvD K mg W tb fb) (hd : OpD K mg W r o) : EvD K mg W (tOp r ta tb) (f2 o fa fb) := by
  intro Z B σ H e Q S h
  refine ea.then S h (fun x e' q => q) fun d e1 v B1 H1 S1 l1 a1 h1 => ?_
  refine eb.then S1 h1 (fun x e' q => PX.up l1 q) fun d2 e2 v2 B2 H2 S2 l2 a2 h2 => ?_
  exact hd Z B2 σ H2 e2 v v2 d d2 Q S2 (a1.mono l2) a2 (upV (l1.trans l2) h2)
theorem ped_op {op : Operator} {r : R2} {o : D → D → M D} (ho : OpR X (binaryOp op) r) (hd : OpD X.K X.mg W r o) (ha : PED X W a fa) (hb : PED X W b fb) : PED X W (.BinOp a op b pos) (f2 o fa fb) := by
  obtain ⟨ta, pa, ea⟩ := ha
  obtain ⟨tb, pb, eb⟩ := hb
  exact ⟨_, pe_op ho pa pb, evD_op ea eb hd⟩
theorem ped_un {op : UnaryOp} {r : V → Hp → VK → Prop} {o : D → M D} (ho : UnR X (unaryOp op) r) (hd : ∀ Z B σ H e x d (Q : VK), SR X.K X.mg Z B σ H e → At X.K X.mg B x d → (o d e).wp (PV X.K X.mg Z B σ Q) (PX X.K X.mg Z B σ W) → r x H Q) (ha : PED X W a fa) : PED X W (.UnaryOp op a pos) (bd fa o) := by
  obtain ⟨ta, pa, ea⟩ := ha
  refine ⟨_, pe_un ho pa, fun Z B σ H e Q S h => ?_⟩
  refine ea.then S h (fun x e' q => q) fun d e1 v B1 H1 S1 l1 a1 h1 => ?_
  exact hd Z B1 σ H1 e1 v d Q S1 a1 (upV l1 h1)
def dNeg : D → M D := fun d => li (match d with
  | .int i => some (.int (-i)) | _ => none)
theorem ped_neg (ha : PED X W a fa) : PED X W (.UnaryOp .USub a pos) (bd fa dNeg) := by
  refine ped_un un_neg (fun Z B σ H e x d Q S r h => ?_) ha
  obtain ⟨z, h1, h2⟩ := wp_li h
  cases d with
  | int i =>
    cases h1
    exact ⟨i, r.int_inv, h2 _ B H S (Same.refl B) (.int _)⟩
  | _ => cases h1
/-- a comparison by its operator's rule, as a value -/
theorem ped_cmp {op : CmpOp} {r : R2} {o : D → D → M D} (ho : OpR X (compareOp op) r) (hd : OpD X.K X.mg W r o) (ha : PED X W a fa) (hb : PED X W b fb) (h1 : behindInMarks op b = false := by first | exact nobehind _ (by decide) (by decide) | rfl) : PED X W (.Compare a [op] [b] pos) (f2 o fa fb) := by
  obtain ⟨ta, pa, ea⟩ := ha
  obtain ⟨tb, pb, eb⟩ := hb
  exact ⟨_, pe_cmpR ho pa pb h1, evD_op ea eb hd⟩
/-- an expression that gives a bool, as a test -/
theorem evB_of {K : PySem.W.Frag} {mg : Str → Option Value} {ta : TE} (ea : EvD K mg W ta fa) : EvB K mg W (tB ta) (fB fa) := by
  intro Z B σ H e Q S h
  refine ea.then S h (fun x e' q => q) fun d e1 v B1 H1 S1 l1 a1 h1 => ?_
  obtain ⟨b, hb, h2⟩ := wp_li h1
  cases d with
  | bl c =>
    cases hb
    exact ⟨_, a1.bl_inv, h2 B1 H1 S1 l1⟩
  | _ => cases hb
theorem pbd_cmp {op : CmpOp} {r : R2} {o : D → D → M D} (ho : OpR X (compareOp op) r) (hd : OpD X.K X.mg W r o) (ha : PED X W a fa) (hb : PED X W b fb) (h1 : behindInMarks op b = false := by first | exact nobehind _ (by decide) (by decide) | rfl) : PBD X W (.Compare a [op] [b] pos) (fB (f2 o fa fb)) := by
  obtain ⟨ta, pa, ea⟩ := ha
  obtain ⟨tb, pb, eb⟩ := hb
  exact ⟨_, pt_cmpR ho pa pb h1, evB_of (evD_op ea eb hd)⟩
theorem pbd_val (ha : PED X W a fa) (he : ∀ whole, isTrue a X.env whole = (do let v ← whole; standAt a.pos; holding [v] (truthy v)) := by intro _; rfl) : PBD X W a (fB fa) := by
  obtain ⟨ta, pa, ea⟩ := ha
  exact ⟨_, pt_val pa he, evB_of ea⟩
theorem pbd_not (ha : PBD X W a ga) : PBD X W (.UnaryOp .Not a pos) (fNot ga) := by
  obtain ⟨ta, pa, ea⟩ := ha
  refine ⟨_, pt_not pa, fun Z B σ H e Q S h => ?_⟩
  exact ea.then S h (fun x e' q => q) fun d e1 B1 H1 S1 l1 h1 => h1 B1 H1 S1 l1
def PWD (X : Cx) (W : WX) (a : Expr) (f : M Bool) : Prop := ∃ tt, PW X a tt ∧ EvB X.K X.mg W tt f
theorem PWD.pt (h : PWD X W a ga) : PBD X W a ga := by
  obtain ⟨ta, pa, ea⟩ := h
  exact ⟨_, pa.pt, ea⟩
theorem pwd_and1 (h : PBD X W a ga) : PWD X W (.BoolOp .And [a] pos) ga := by
  obtain ⟨ta, pa, ea⟩ := h
  exact ⟨_, pw_and1 pa, ea⟩
theorem pwd_or1 (h : PBD X W a ga) : PWD X W (.BoolOp .Or [a] pos) ga := by
  obtain ⟨ta, pa, ea⟩ := h
  exact ⟨_, pw_or1 pa, ea⟩
variable {rest : List Expr}
theorem pwd_and (ha : PBD X W a ga) (hb : PWD X W (.BoolOp .And (b :: rest) pos) gb) : PWD X W (.BoolOp .And (a :: b :: rest) pos) (fAnd ga gb) := by
  obtain ⟨ta, pa, ea⟩ := ha
  obtain ⟨tb, pb, eb⟩ := hb
  refine ⟨_, pw_and pa pb, fun Z B σ H e Q S h => ?_⟩
  refine ea.then S h (fun x e' q => q) fun d e1 B1 H1 S1 l1 h1 => ?_
  cases d with
  | true => exact eb Z B1 σ H1 e1 Q S1 (upB l1 h1)
  | false => exact h1 B1 H1 S1 l1
theorem pwd_or (ha : PBD X W a ga) (hb : PWD X W (.BoolOp .Or (b :: rest) pos) gb) : PWD X W (.BoolOp .Or (a :: b :: rest) pos) (fOr ga gb) := by
  obtain ⟨ta, pa, ea⟩ := ha
  obtain ⟨tb, pb, eb⟩ := hb
  refine ⟨_, pw_or pa pb, fun Z B σ H e Q S h => ?_⟩
  refine ea.then S h (fun x e' q => q) fun d e1 B1 H1 S1 l1 h1 => ?_
  cases d with
  | true => exact h1 B1 H1 S1 l1
  | false => exact eb Z B1 σ H1 e1 Q S1 (upB l1 h1)
/-- as values: all but the last are bools -/
def fAndV (fa fb : M D) : M D := bd (fB fa) fun b => if b = true then fb else pu (.bl false)
def fOrV (fa fb : M D) : M D := bd (fB fa) fun b => if b = true then pu (.bl true) else fb
theorem ped_one {op} (ha : PED X W a fa) : PED X W (.BoolOp op [a] pos) fa := by
  obtain ⟨ta, pa, ea⟩ := ha
  exact ⟨_, pe_one pa, ea⟩
theorem ped_and (ha : PED X W a fa) (hb : PED X W (.BoolOp .And (b :: rest) pos) fb) : PED X W (.BoolOp .And (a :: b :: rest) pos) (fAndV fa fb) := by
  obtain ⟨ta, pa, ea⟩ := ha
  obtain ⟨tb, pb, eb⟩ := hb
  refine ⟨_, pe_and pa pb, fun Z B σ H e Q S h => ?_⟩
  have h' := wp_bd.mp h
  refine ea.then S h' (fun x e' q => q) fun d e1 v B1 H1 S1 l1 a1 h1 => ?_
  obtain ⟨c, hc, h2⟩ := wp_li h1
  cases d with
  | bl c' =>
    cases hc
    refine ⟨c, a1.bl_inv, ?_⟩
    cases c with
    | true => exact eb Z B1 σ H1 e1 Q S1 (upV l1 h2)
    | false => exact h2 _ B1 H1 S1 l1 (.bl _)
  | _ => cases hc
theorem ped_or (ha : PED X W a fa) (hb : PED X W (.BoolOp .Or (b :: rest) pos) fb) : PED X W (.BoolOp .Or (a :: b :: rest) pos) (fOrV fa fb) := by
  obtain ⟨ta, pa, ea⟩ := ha
  obtain ⟨tb, pb, eb⟩ := hb
  refine ⟨_, pe_or pa pb, fun Z B σ H e Q S h => ?_⟩
  have h' := wp_bd.mp h
  refine ea.then S h' (fun x e' q => q) fun d e1 v B1 H1 S1 l1 a1 h1 => ?_
  obtain ⟨c, hc, h2⟩ := wp_li h1
  cases d with
  | bl c' =>
    cases hc
    refine ⟨c, a1.bl_inv, ?_⟩
    cases c with
    | false => exact eb Z B1 σ H1 e1 Q S1 (upV l1 h2)
    | true => exact h2 _ B1 H1 S1 l1 (.bl _)
  | _ => cases hc
theorem ped_not (ha : PED X W a fa) : PED X W (.UnaryOp .Not a pos) (fBl (fNot (fB fa))) := by
  obtain ⟨ta, pa, ea⟩ := ha
  refine ⟨_, pe_not pa, fun Z B σ H e Q S h => ?_⟩
  have h' := wp_bd.mp (wp_bd.mp (wp_bd.mp h))
  refine ea Z B σ H e _ S (h'.imp (fun d e1 q v B1 H1 S1 l1 a1 => ?_) fun x e' q => q)
  obtain ⟨c, hc, h2⟩ := wp_li q
  cases d with
  | bl c' =>
    cases hc
    exact ⟨c, a1.bl_inv, h2 _ B1 H1 S1 l1 (.bl _)⟩
  | _ => cases hc
theorem ped_ifExp {c : Expr} {gc : M Bool} (hc : PBD X W c gc) (ha : PED X W a fa) (hb : PED X W b fb) : PED X W (.IfExp c a b pos) (fIf gc fa fb) := by
  obtain ⟨tc, pc, ec⟩ := hc
  obtain ⟨ta, pa, ea⟩ := ha
  obtain ⟨tb, pb, eb⟩ := hb
  refine ⟨_, pe_ifExp pc pa pb, fun Z B σ H e Q S h => ?_⟩
  refine ec.then S h (fun x e' q => q) fun d e1 B1 H1 S1 l1 h1 => ?_
  cases d with
  | true => exact ea Z B1 σ H1 e1 Q S1 (upV l1 h1)
  | false => exact eb Z B1 σ H1 e1 Q S1 (upV l1 h1)
end

/-! ### argument lists, displays -/
def fNil : M (List D) := pu []
def fCons (fa : M D) (fr : M (List D)) : M (List D) := bd fa fun d => bd fr fun ds => pu (d :: ds)
def fStar (fa : M (List D)) (fr : M (List D)) : M (List D) := bd fa fun d => bd fr fun ds => pu (d ++ ds)
/-- the items of a list or a tuple -/
def dItems : D → M (List D) := fun d => li (match d with
  | .lst xs => some xs | .tup xs => some xs | _ => none)
def fLst (fa : M (List D)) : M (List D) := bd fa fun ds => li (if ds.length ≤ 16777216 then some ds else none)
def fL (fa : M (List D)) : M D := bd fa fun ds => pu (.lst ds)
def fTup (fa : M (List D)) : M D := bd fa fun ds => li (if ds.length ≤ 16777216 then some (.tup ds) else none)
section
variable {X : Cx} {W : WX} {a : Expr} {es : List Expr} {fa : M D} {fr : M (List D)} {pos : Pos}
theorem pad_nil : PAD X W [] fNil := ⟨_, pa_nil, fun Z B σ H e Q S h => h [] B H S (Same.refl B) .nil⟩
theorem pad_cons (ha : PED X W a fa) (hr : PAD X W es fr) (hs : starEach (a :: es) X.env = (false, eval a X.env) :: starEach es X.env := by rfl) : PAD X W (a :: es) (fCons fa fr) := by
  obtain ⟨ta, pa, ea⟩ := ha
  obtain ⟨tr, pr, er⟩ := hr
  refine ⟨_, pa_cons pa pr hs, fun Z B σ H e Q S h => ?_⟩
  refine ea.then S h (fun x e' q => q) fun d e1 v B1 H1 S1 l1 a1 h1 => ?_
  refine er.then S1 h1 (fun x e' q => PX.up l1 q) fun ds e2 vs B2 H2 S2 l2 a2 h2 => ?_
  exact h2 _ B2 H2 S2 (l1.trans l2) (.cons (a1.mono l2) a2)
theorem dItems_at {K : PySem.W.Frag} {mg : Str → Option Value} {B : Hp} {v : V} {d : D} {ds : List D} {e : En} {P : List D → En → Prop} {E : D → En → Prop} (r : At K mg B v d) (h : (dItems d e).wp P E) : ∃ ds p xs, P ds e ∧ v = .ref p ∧ (SqT K B p xs ∨ SqL K B p xs) ∧ AtL K mg B xs ds := by
  obtain ⟨ds, h1, h2⟩ := wp_li h
  cases d with
  | lst ys =>
    cases h1
    obtain ⟨p, xs, rfl, e1, r1⟩ := r.lst_inv
    exact ⟨_, p, xs, h2, rfl, .inr (SqL.of e1), r1⟩
  | tup ys =>
    cases h1
    obtain ⟨p, xs, rfl, e1, r1⟩ := r.tup_inv
    exact ⟨_, p, xs, h2, rfl, .inl e1, r1⟩
  | _ => cases h1
theorem pad_star {p : Pos} (ha : PED X W a fa) (hr : PAD X W es fr) (hs : starEach (.Starred a p :: es) X.env = (true, eval a X.env) :: starEach es X.env := by rfl) : PAD X W (.Starred a p :: es) (fStar (bd fa dItems) fr) := by
  obtain ⟨ta, pa, ea⟩ := ha
  obtain ⟨tr, pr, er⟩ := hr
  refine ⟨_, StX.pa_star pa pr hs, fun Z B σ H e Q S h => ?_⟩
  have h' := wp_bd.mp h
  refine ea.then S h' (fun x e' q => q) fun d e1 v B1 H1 S1 l1 a1 h1 => ?_
  obtain ⟨ds, p, xs, h2, rfl, sq, r1⟩ := dItems_at (ds := []) a1 h1
  refine ⟨p, xs, rfl, sq.imp (fun z => seqT S1.bh z) (fun z => S1.bh.seq z), ?_⟩
  refine er.then S1 h2 (fun x e' q => PX.up l1 q) fun es e2 vs B2 H2 S2 l2 a2 h3 => ?_
  exact h3 _ B2 H2 S2 (l1.trans l2) ((r1.mono l2).app a2)
theorem pnd_lst (h : PAD X W es fr) : PND X W (.List es pos) (fLst fr) := by
  obtain ⟨tr, pr, er⟩ := h
  refine ⟨_, pe_lst pr, fun Z B σ H e Q S h => ?_⟩
  refine er.then S h (fun x e' q => q) fun ds e1 vs B1 H1 S1 l1 a1 h1 => ?_
  obtain ⟨d, h2, h3⟩ := wp_li h1
  split at h2
  · cases h2
    refine ⟨sz (by rw [a1.length]; assumption), fun p hp => ?_⟩
    obtain ⟨S2, hB, h0, hf⟩ := S1.newO (o := .lst vs) hp
    exact h3 p vs B1 _ S2 l1 upd_same a1 hB h0 hf
  · cases h2
/-- a new list becomes known -/
theorem ped_new (h : PND X W a fr) : PED X W a (fL fr) := by
  obtain ⟨tr, pr, er⟩ := h
  refine ⟨_, pr, fun Z B σ H e Q S h => ?_⟩
  refine er.then S h (fun x e' q => q) fun ds e1 p xs B1 H1 S1 l1 h1 a1 hB h0 hf h3 => ?_
  obtain ⟨S2, l2⟩ := S1.freeze h1 hB h0 hf
  exact h3 _ _ _ S2 (l1.trans l2) (.lst upd_same (a1.mono l2))
theorem ped_tup {x1} (h : PAD X W es fr) : PED X W (.Tuple es x1 pos) (fTup fr) := by
  obtain ⟨tr, pr, er⟩ := h
  refine ⟨_, pe_tup pr, fun Z B σ H e Q S h => ?_⟩
  refine er.then S h (fun x e' q => q) fun ds e1 vs B1 H1 S1 l1 a1 h1 => ?_
  obtain ⟨d, h2, h3⟩ := wp_li h1
  split at h2
  · cases h2
    refine ⟨sz (by rw [a1.length]; assumption), fun p hp => ?_⟩
    obtain ⟨S2, l2⟩ := S1.new (o := .tup vs) hp
    exact h3 _ _ _ S2 (l1.trans l2) (.tup (SqT.of upd_same) (a1.mono l2))
  · cases h2
end

/-! ### items and slices -/
def dAt : D → D → M D := fun a b => li (match a, b with
  | .lst xs, .int i => atI xs i
  | .tup xs, .int i => atI xs i
  | .scr ns, .int i => (atI ns i).map D.int
  | _, _ => none)
def cutD (xs : List D) (lo hi : Option Int) : List D := (xs.drop (HT.sIx xs.length 0 lo)).take (HT.sIx xs.length xs.length hi - HT.sIx xs.length 0 lo)
def fPart (fa : Option (M D)) : M (Option Int) := match fa with
  | none => pu none
  | some fa => bd fa fun d => li (match d with
    | .int i => some (some i) | _ => none)
section
variable {K : PySem.W.Frag} {mg : Str → Option Value} {W : WX} {B : Hp}
theorem AtL.atI {xs : List V} {ds : List D} {i : Int} {d : D} (h : AtL K mg B xs ds) (e : L2.atI ds i = some d) : ∃ v, L2.atI xs i = some v ∧ At K mg B v d := by
  unfold L2.atI at e ⊢
  rw [h.length]
  cases q : ixN ds.length i with
  | none => rw [q] at e; cases e
  | some j =>
    rw [q] at e
    obtain ⟨x, h1, h2⟩ := h.get (show ds[j]? = some d from e)
    exact ⟨x, h1, h2⟩
theorem atI_map {α β : Type} (f : α → β) (xs : List α) (i : Int) : L2.atI (xs.map f) i = (L2.atI xs i).map f := by
  unfold L2.atI
  rw [List.length_map]
  cases ixN xs.length i with
  | none => rfl
  | some j => show (xs.map f)[j]? = (xs[j]?).map f; rw [List.getElem?_map]
theorem od_at : OpD K mg W (fun x y H Q => rIxL K x y H Q ∨ rIxT K x y H Q) dAt := by
  intro Z B σ H e x y a b Q S ha hb q
  obtain ⟨d, h1, h2⟩ := wp_li q
  cases b with
  | int i =>
    cases a with
    | lst as =>
      obtain ⟨p, xs, rfl, e1, r1⟩ := ha.lst_inv
      obtain ⟨v, e2, r2⟩ := r1.atI (show L2.atI as i = some d from h1)
      exact .inl ⟨p, xs, i, v, rfl, hb.int_inv, SqL.of (S.bh _ _ e1), e2, h2 v B H S (Same.refl B) r2⟩
    | tup as =>
      obtain ⟨p, xs, rfl, e1, r1⟩ := ha.tup_inv
      obtain ⟨v, e2, r2⟩ := r1.atI (show L2.atI as i = some d from h1)
      exact .inr ⟨p, xs, i, v, rfl, hb.int_inv, seqT S.bh e1, e2, h2 v B H S (Same.refl B) r2⟩
    | scr ns =>
      obtain ⟨p, rfl, e1⟩ := ha.scr_inv
      have h1 : (L2.atI ns i).map D.int = some d := h1
      cases q2 : L2.atI ns i with
      | none => rw [q2] at h1; cases h1
      | some n =>
        rw [q2] at h1
        cases h1
        exact .inl ⟨p, _, i, .int n, rfl, hb.int_inv, S.bh.seq e1, by rw [atI_map, q2]; rfl, h2 _ B H S (Same.refl B) (.int n)⟩
    | _ => cases h1
  | _ => cases a <;> cases h1
theorem AtL.cut {xs : List V} {ds : List D} (h : AtL K mg B xs ds) (lo hi : Option Int) : AtL K mg B (cutV xs lo hi) (cutD ds lo hi) := by
  unfold cutV cutD
  rw [h.length]
  exact (h.drop _).take _
end
section
variable {X : Cx} {W : WX} {a b : Expr} {fa fb : M D} {pos p2 : Pos}
theorem ped_ix (ha : PED X W a fa) (hb : PED X W b fb) (hs : PlainIx b := by exact fun _ _ => rfl) : PED X W (.Subscript a b pos) (f2 dAt fa fb) := by
  obtain ⟨ta, pa, ea⟩ := ha
  obtain ⟨tb, pb, eb⟩ := hb
  exact ⟨_, pe_ix (IxR.or ix_list ix_tup) pa pb hs, evD_op ea eb od_at⟩
def POD (X : Cx) (W : WX) (a : Option Expr) (f : M (Option Int)) : Prop := ∃ to, PO X a to ∧ ∀ Z B σ H e (Q : Option Int → Hp → Prop), SR X.K X.mg Z B σ H e → (f e).wp (fun o e' => ∀ B' H', SR X.K X.mg Z B' σ H' e' → Same B B' → Q o H') (PX X.K X.mg Z B σ W) → to σ H Q
theorem pod_none : POD X W none (fPart none) := ⟨_, po_none, fun Z B σ H e Q S h => h B H S (Same.refl B)⟩
theorem pod_some (ha : PED X W a fa) : POD X W (some a) (fPart (some fa)) := by
  obtain ⟨ta, pa, ea⟩ := ha
  refine ⟨_, po_some pa, fun Z B σ H e Q S h => ?_⟩
  refine ea.then S h (fun x e' q => q) fun d e1 v B1 H1 S1 l1 a1 h1 => ?_
  obtain ⟨o, h2, h3⟩ := wp_li h1
  cases d with
  | int i =>
    cases h2
    exact ⟨i, a1.int_inv, h3 B1 H1 S1 l1⟩
  | _ => cases h2
/-- a slice of a list: new -/
def fSlL (fa : M D) (flo fhi : M (Option Int)) : M (List D) := bd fa fun d => bd flo fun lo => bd fhi fun hi => li (match d with
  | .lst xs => some (cutD xs lo hi) | _ => none)
theorem pnd_slice {lo hi : Option Expr} {flo fhi : M (Option Int)} (ha : PED X W a fa) (hl : POD X W lo flo) (hh : POD X W hi fhi) : PND X W (.Subscript a (.Slice lo hi none p2) pos) (fSlL fa flo fhi) := by
  obtain ⟨ta, pa, ea⟩ := ha
  obtain ⟨tl, pl, el⟩ := hl
  obtain ⟨th, ph, eh⟩ := hh
  refine ⟨_, pe_slice sl_list pa pl ph, fun Z B σ H e Q S h => ?_⟩
  refine ea.then S h (fun x e' q => q) fun d e1 v B1 H1 S1 l1 a1 h1 => ?_
  refine el Z B1 σ H1 e1 _ S1 ((wp_bd.mp h1).imp (fun lo e2 q2 B2 H2 S2 l2 => ?_) fun x e' q => PX.up l1 q)
  refine eh Z B2 σ H2 e2 _ S2 ((wp_bd.mp q2).imp (fun hi e3 q3 B3 H3 S3 l3 => ?_) fun x e' q => PX.up (l1.trans l2) q)
  obtain ⟨ds, h2, h3⟩ := wp_li q3
  cases d with
  | lst xs =>
    cases h2
    obtain ⟨p, vs, rfl, e1, r1⟩ := a1.lst_inv
    refine ⟨p, vs, rfl, SqL.of (S3.bh _ _ (l3 _ _ (l2 _ _ e1))), fun q hq => ?_⟩
    obtain ⟨S4, hB, h0, hf⟩ := S3.newO (o := .lst (cutV vs lo hi)) hq
    exact h3 q _ B3 _ S4 ((l1.trans l2).trans l3) upd_same ((r1.mono (l2.trans l3)).cut lo hi) hB h0 hf
  | _ => cases h2
end

/-! ### calls of built-ins -/
section
variable {X : Cx} {W : WX} {es : List Expr} {e : Expr} {fr : M (List D)} {pos p : Pos} {x : Str} {id T : String} {r : List V → Hp → VK → Prop} {o : List D → M D}
theorem evC {K : PySem.W.Frag} {mg : Str → Option Value} {ta : TA} (ea : EvL K mg W ta fr) (hd : ClD K mg W r o) : EvD K mg W (tCB r ta) (bd fr o) := by
  intro Z B σ H e Q S h
  refine ea.then S h (fun x e' q => q) fun ds e1 vs B1 H1 S1 l1 a1 h1 => ?_
  exact hd Z B1 σ H1 e1 vs ds Q S1 a1 (upV l1 h1)
theorem ped_callB (hc : CallR X (.builtin id) r) (hd : ClD X.K X.mg W r o) (hm : X.mg x = none) (hv : bootBuiltins x = some (.builtin id)) (ha : PAD X W (e :: es) fr) (hg : Gl X x := by rfl) (hn : x ≠ "__name__" := by decide) (hdb : (x == ("__debug__" : Str)) = false := by decide)
    (he : starEach (e :: es) X.env = (false, eval e X.env) :: starEach es X.env := by rfl) (hpl : (backTo pos (starEach es X.env)).any (·.1) = false := by rfl) : PED X W (.Call (.Name x p) (e :: es) [] pos) (bd fr o) := by
  obtain ⟨ta, pa, ea⟩ := ha
  exact ⟨_, pe_callB hc hg hm hv pa hn hdb he hpl, evC ea hd⟩
theorem ped_callTy (hc : CallR X (.type T) r) (hd : ClD X.K X.mg W r o) (hm : X.mg x = none) (hv : bootBuiltins x = some (.type T)) (ha : PAD X W (e :: es) fr) (hg : Gl X x := by rfl) (hn : x ≠ "__name__" := by decide) (hdb : (x == ("__debug__" : Str)) = false := by decide)
    (he : starEach (e :: es) X.env = (false, eval e X.env) :: starEach es X.env := by rfl) (hpl : (backTo pos (starEach es X.env)).any (·.1) = false := by rfl) : PED X W (.Call (.Name x p) (e :: es) [] pos) (bd fr o) := by
  obtain ⟨ta, pa, ea⟩ := ha
  exact ⟨_, pe_callTy hc hg hm hv pa hn hdb he hpl, evC ea hd⟩
end
end Dl

set_option maxHeartbeats 1000000
/-! Layer D, part 2: calls, defs, statements. -/
namespace Dl
open PySem PySem.Spec PyProof.Rows L2

/-! ### arguments: data, or what is one's own, by reference -/
inductive Ar where
  | d (d : D) | o (i : Nat)
inductive AtR (K : PySem.W.Frag) (mg : Str → Option Value) (B : Hp) (σ : St) (e : En) : V → Ar → Prop
  | d {v : V} {d : D} : At K mg B v d → AtR K mg B σ e v (.d d)
  | o {v : V} {i : Nat} : ownAt e i → σ[i]? = some (some v) → AtR K mg B σ e v (.o i)
theorem pget {α β : Type} {F : α → β → Prop} : ∀ {xs : List α} {ys : List β} {i : Nat} {y : β}, Paired F xs ys → ys[i]? = some y → ∃ x, xs[i]? = some x ∧ F x y
  | _, _, _, _, .nil, e => by simp at e
  | _, _, 0, _, .cons r _, e => by simp at e; subst e; exact ⟨_, rfl, r⟩
  | _, _, i + 1, y, .cons _ t, e => by
    obtain ⟨x, h1, h2⟩ := pget (i := i) (y := y) t (by simpa using e)
    exact ⟨x, by simpa using h1, h2⟩
def PR (K : PySem.W.Frag) (mg : Str → Option Value) (Z : Ent) (B : Hp) (σ : St) (Q : List V → Hp → Prop) : List Ar → En → Prop := fun as e' => ∀ vs B' H', SR K mg Z B' σ H' e' → Same B B' → Paired (AtR K mg B' σ e') vs as → Q vs H'
def EvR (K : PySem.W.Frag) (mg : Str → Option Value) (W : WX) (ta : TA) (f : M (List Ar)) : Prop := ∀ Z B σ H e (Q : List V → Hp → Prop), SR K mg Z B σ H e → (f e).wp (PR K mg Z B σ Q) (PX K mg Z B σ W) → ta σ H Q
def PRD (X : Cx) (W : WX) (as : List Expr) (f : M (List Ar)) : Prop := ∃ ta, PA X as ta ∧ EvR X.K X.mg W ta f
def isO (i : Nat) : M Unit := fun e => match e[i]? with
  | some (.own _ _) => .ok () e | some (.oin _ _ _ _) => .ok () e | _ => .bad
theorem isO_wp {i : Nat} {e : En} {Q : Unit → En → Prop} {E : D → En → Prop} (h : (isO i e).wp Q E) : ownAt e i ∧ Q () e := by
  unfold isO at h
  cases q : e[i]? with
  | none => rw [q] at h; exact False.elim h
  | some s =>
    rw [q] at h
    cases s with
    | own r ds => exact ⟨⟨_, q, rfl⟩, h⟩
    | oin r c ns ds => exact ⟨⟨_, q, rfl⟩, h⟩
    | _ => exact False.elim h
def rNil : M (List Ar) := pu []
def rD (fa : M D) (fr : M (List Ar)) : M (List Ar) := bd fa fun d => bd fr fun ds => pu (.d d :: ds)
def rO (i : Nat) (fr : M (List Ar)) : M (List Ar) := bd (isO i) fun _ => bd fr fun ds => bd (isO i) fun _ => pu (.o i :: ds)
section
variable {X : Cx} {W : WX} {a : Expr} {es : List Expr} {fa : M D} {fr : M (List Ar)} {pos : Pos}
theorem prd_nil : PRD X W [] rNil := ⟨_, pa_nil, fun Z B σ H e Q S h => h [] B H S (Same.refl B) .nil⟩
theorem AtR.mono {K : PySem.W.Frag} {mg : Str → Option Value} {B B' : Hp} {σ : St} {e e' : En} {v : V} {r : Ar} (h : AtR K mg B σ e v r) (l : Same B B') (he : ∀ i, r = .o i → ownAt e' i) : AtR K mg B' σ e' v r := by
  cases h with
  | d h => exact .d (h.mono l)
  | o h1 h2 => exact .o (he _ rfl) h2
theorem prd_d (ha : PED X W a fa) (hr : PRD X W es fr) (hs : starEach (a :: es) X.env = (false, eval a X.env) :: starEach es X.env := by rfl) : PRD X W (a :: es) (rD fa fr) := by
  obtain ⟨ta, pa, ea⟩ := ha
  obtain ⟨tr, pr, er⟩ := hr
  refine ⟨_, pa_cons pa pr hs, fun Z B σ H e Q S h => ?_⟩
  refine ea.then S h (fun x e' q => q) fun d e1 v B1 H1 S1 l1 a1 h1 => ?_
  refine er Z B1 σ H1 e1 _ S1 ((wp_bd.mp h1).imp (fun ds e2 h2 vs B2 H2 S2 l2 a2 => ?_) fun x e' q => PX.up l1 q)
  exact h2 _ B2 H2 S2 (l1.trans l2) (.cons (.d (a1.mono l2)) a2)
theorem prd_o (i : Nat) {x : Str} (hr : PRD X W es fr) (hN : X.N[i]? = some x := by rfl) (hv : Vis X.env.scope x := by first | exact Or.inl rfl | exact Or.inr (Or.inl rfl) | exact Or.inr (Or.inr rfl)) (hd : (x == ("__debug__" : Str)) = false := by decide)
    (hcd : (x == ("__classdict__" : Str)) = false := by decide) (hs : starEach (.Name x pos :: es) X.env = (false, eval (.Name x pos) X.env) :: starEach es X.env := by rfl) : PRD X W (.Name x pos :: es) (rO i fr) := by
  obtain ⟨tr, pr, er⟩ := hr
  refine ⟨_, pa_cons (pe_var hN hv hd hcd) pr hs, fun Z B σ H e Q S h => ?_⟩
  obtain ⟨h0, h⟩ := isO_wp (wp_bd.mp h)
  obtain ⟨s, q, hs⟩ := h0
  obtain ⟨p, o, e1, _⟩ := (S.sl i s q).at_own hs
  refine ⟨.ref p, e1, ?_⟩
  refine er Z B σ H e _ S ((wp_bd.mp h).imp (fun ds e2 h2 vs B2 H2 S2 l2 a2 => ?_) fun x e' q => q)
  obtain ⟨h3, h4⟩ := isO_wp (wp_bd.mp h2)
  exact h4 _ B2 H2 S2 l2 (.cons (.o h3 e1) a2)
end

/-! ### the promise of a def -/
def spD (K : PySem.W.Frag) (mg : Str → Option Value) (F : En → Res D) : Sp := fun vs H Q E => ∃ B R e, SR K mg ⟨B, H, R, vs.map some⟩ B (vs.map some) H e ∧
  (F e).wp (fun d e' => ∀ v B' H', SR K mg ⟨B, H, R, vs.map some⟩ B' (vs.map some) H' e' → At K mg B' v d → Q v H') fun x e' => ∀ cls dd B' H', SR K mg ⟨B, H, R, vs.map some⟩ B' (vs.map some) H' e' → XAt K mg B' H' x cls dd → E cls dd H'
/-- .. of a def that gives a new list out -/
def spN (K : PySem.W.Frag) (mg : Str → Option Value) (F : En → Res (List D)) : Sp := fun vs H Q E => ∃ B R e, SR K mg ⟨B, H, R, vs.map some⟩ B (vs.map some) H e ∧
  (F e).wp (fun ds e' => ∀ p xs B' H', SR K mg ⟨B, H, R, vs.map some⟩ B' (vs.map some) H' e' → H' p = some (.lst xs) → AtL K mg B' xs ds → B' p = none → H p = none → Q (.ref p) H') fun x e' => ∀ cls dd B' H', SR K mg ⟨B, H, R, vs.map some⟩ B' (vs.map some) H' e' → XAt K mg B' H' x cls dd → E cls dd H'
def toRef : Sl → Sl
  | .own _ ds => .own true ds | .oin _ c ns ds => .oin true c ns ds | _ => .no
def reRef (r : Bool) : Sl → Sl
  | .own _ ds => .own r ds | .oin _ c ns ds => .oin r c ns ds | _ => .no
def toSl (e : En) : Ar → Sl
  | .d d => .val d | .o i => toRef (e.getD i .no)
def findO : List Ar → En → Nat → Option Sl
  | .o k :: as, s :: os, i => if k = i then some s else findO as os i
  | .d _ :: as, _ :: os, i => findO as os i
  | _, _, _ => none
def putG (g : Nat → Sl → Sl) : Nat → En → En
  | _, [] => [] | n, s :: e => g n s :: putG g (n + 1) e
def putO (as : List Ar) (os : En) (e : En) : En := putG (fun i s => match findO as os i with
  | some s' => reRef s.isRef s' | none => s) 0 e
def owns : List Ar → List Nat
  | [] => [] | .o i :: as => i :: owns as | .d _ :: as => owns as
def noDup : List Nat → Bool
  | [] => true | i :: r => !r.contains i && noDup r
def callR (F : En → Res D) (as : List Ar) : M D := fun e => if noDup (owns as) = true then (match F (as.map (toSl e)) with
  | .ok d os => .ok d (putO as os e) | .exc x os => .exc x (putO as os e) | .bad => .bad) else .bad
def callN (F : En → Res (List D)) (as : List Ar) : M (List D) := fun e => if noDup (owns as) = true then (match F (as.map (toSl e)) with
  | .ok d os => .ok d (putO as os e) | .exc x os => .exc x (putO as os e) | .bad => .bad) else .bad
theorem putG_get {g : Nat → Sl → Sl} : ∀ {e : En} {n i : Nat}, (putG g n e)[i]? = (e[i]?).map (g (n + i))
  | [], n, i => by simp [putG]
  | s :: e, n, 0 => by simp [putG]
  | s :: e, n, i + 1 => by
    have := putG_get (g := g) (e := e) (n := n + 1) (i := i)
    simp only [putG, List.getElem?_cons_succ, this]
    congr 2
    omega
theorem putG_len {g : Nat → Sl → Sl} : ∀ {e : En} {n : Nat}, (putG g n e).length = e.length
  | [], n => rfl
  | s :: e, n => by simp [putG, putG_len (e := e)]
theorem findO_some : ∀ {as : List Ar} {os : En} {i : Nat} {s : Sl}, findO as os i = some s → ∃ j : Nat, as[j]? = some (Ar.o i) ∧ os[j]? = some s
  | .o k :: as, s :: os, i, s', h => by
    unfold findO at h
    split at h
    · rename_i hk; cases h; exact ⟨0, by simp [hk], rfl⟩
    · obtain ⟨j, h1, h2⟩ := findO_some h; exact ⟨j + 1, by simpa using h1, by simpa using h2⟩
  | .d _ :: as, s :: os, i, s', h => by
    unfold findO at h
    obtain ⟨j, h1, h2⟩ := findO_some h; exact ⟨j + 1, by simpa using h1, by simpa using h2⟩
  | [], _, _, _, h => by cases h
  | .o _ :: _, [], _, _, h => by cases h
  | .d _ :: _, [], _, _, h => by cases h
theorem findO_none : ∀ {as : List Ar} {os : En} {i j : Nat}, findO as os i = none → os.length = as.length → as[j]? ≠ some (Ar.o i)
  | .o k :: as, s :: os, i, j, h, hl => by
    unfold findO at h
    split at h
    · cases h
    · rename_i hk
      cases j with
      | zero => simp [hk]
      | succ j => simpa using findO_none (j := j) h (by simpa using hl)
  | .d _ :: as, s :: os, i, j, h, hl => by
    unfold findO at h
    cases j with
    | zero => simp
    | succ j => simpa using findO_none (j := j) h (by simpa using hl)
  | [], _, _, _, _, _ => by simp
  | .o _ :: _, [], _, _, _, hl => by cases hl
  | .d _ :: _, [], _, _, _, hl => by cases hl
theorem mem_owns : ∀ {as : List Ar} {i j : Nat}, as[j]? = some (.o i) → i ∈ owns as
  | .o k :: as, i, 0, h => by simp at h; simp [owns, h]
  | .o k :: as, i, j + 1, h => by simp [owns, mem_owns (as := as) (j := j) (by simpa using h)]
  | .d _ :: as, i, 0, h => by simp at h
  | .d _ :: as, i, j + 1, h => by simpa [owns] using mem_owns (as := as) (j := j) (by simpa using h)
theorem noDup_inj : ∀ {as : List Ar} {i j k : Nat}, noDup (owns as) = true → as[j]? = some (.o i) → as[k]? = some (.o i) → j = k
  | .o m :: as, i, j, k, h, h1, h2 => by
    simp only [owns, noDup, Bool.and_eq_true, Bool.not_eq_true'] at h
    cases j with
    | zero =>
      cases k with
      | zero => rfl
      | succ k =>
        have e : m = i := by simpa using h1
        have := mem_owns (as := as) (j := k) (by simpa using h2)
        subst e
        simp [this] at h
    | succ j =>
      cases k with
      | zero =>
        have e : m = i := by simpa using h2
        have := mem_owns (as := as) (j := j) (by simpa using h1)
        subst e
        simp [this] at h
      | succ k => exact congrArg (· + 1) (noDup_inj h.2 (by simpa using h1) (by simpa using h2))
  | .d _ :: as, i, j, k, h, h1, h2 => by
    cases j with
    | zero => simp at h1
    | succ j =>
      cases k with
      | zero => simp at h2
      | succ k => exact congrArg (· + 1) (noDup_inj (as := as) h (by simpa using h1) (by simpa using h2))
  | [], _, _, _, _, h, _ => by simp at h

section
variable {K : PySem.W.Frag} {mg : Str → Option Value} {Z : Ent} {B B' : Hp} {σ : St} {H H' : Hp} {e e' : En}
/-- behind a call: what the callee leaves, in the caller's state -/
theorem SR.after {R : List Addr} {s0 σ' : St} {os : En} (S : SR K mg Z B σ H e) (S' : SR K mg ⟨B, H, R, s0⟩ B' σ' H' os) (hl : e'.length = e.length) (hR : ∀ a ∈ R, Z.H0 a = none ∨ a ∈ Z.R)
    (hs : ∀ i s', e'[i]? = some s' → (e[i]? = some s' ∧ ∀ a, s'.isOwn = true → σ[i]? = some (some (.ref a)) → a ∉ R) ∨ (SlAt K mg Z B' H' i σ[i]? s' ∧ (s'.isOwn = true → ownAt e i))) : SR K mg Z B' σ H' e' := by
  have back : ∀ a o, H a = some o → B a = none → B' a = none := fun a o h n => by
    cases q : B' a with
    | none => rfl
    | some u =>
      rcases S'.nb a u q with z | z
      · have z : B a = some u := z
        rw [n] at z; cases z
      · have z : H a = none := z
        rw [h] at z; cases z
  have own : ∀ i, ownAt e' i → ownAt e i := fun i ⟨s', q, ho⟩ => by
    rcases hs i s' q with z | z
    · exact ⟨s', z.1, ho⟩
    · exact z.2 ho
  refine ⟨S.le.trans S'.le, S'.bh, fun a o h n => S'.fh a o (S.fh a o h n) fun m => ?_, fun a o h => ?_, fun a o h => ?_, S.ln.trans hl.symm, fun i s' q => ?_, fun i j a hij hi hj => S.ds i j a hij (own i hi) (own j hj)⟩
  · rcases hR a m with z | z
    · rw [h] at z; cases z
    · exact n z
  · rcases S'.nb a o h with z | z
    · exact S.nb a o z
    · refine .inr ?_
      cases q : Z.H0 a with
      | none => rfl
      | some u =>
        obtain ⟨o', w⟩ := S.dm a u q
        rw [show H a = none from z] at w; cases w
  · obtain ⟨o', w⟩ := S.dm a o h
    exact S'.dm a o' w
  · rcases hs i s' q with z | z
    · refine (S.sl i s' z.1).mono S'.le fun a o ho h1 h2 h3 => ⟨back a o h2 h3, S'.fh a o h2 (z.2 a ho h1)⟩
    · exact z.1

def ownR (σ : St) : List Ar → List Addr
  | [] => [] | .d _ :: as => ownR σ as | .o i :: as => match σ[i]? with
    | some (some (.ref a)) => a :: ownR σ as | _ => ownR σ as
theorem mem_ownR {σ : St} : ∀ {as : List Ar} {a : Addr}, a ∈ ownR σ as ↔ ∃ j i : Nat, as[j]? = some (Ar.o i) ∧ σ[i]? = some (some (V.ref a))
  | [], a => by simp [ownR]
  | .d _ :: as, a => by
    have ih := mem_ownR (σ := σ) (as := as) (a := a)
    simp only [ownR, ih]
    constructor
    · rintro ⟨j, i, h1, h2⟩; exact ⟨j + 1, i, by simpa using h1, h2⟩
    · rintro ⟨j, i, h1, h2⟩
      cases j with
      | zero => simp at h1
      | succ j => exact ⟨j, i, by simpa using h1, h2⟩
  | .o k :: as, a => by
    have ih := mem_ownR (σ := σ) (as := as) (a := a)
    constructor
    · intro h
      unfold ownR at h
      split at h
      · rename_i b hb
        rcases List.mem_cons.mp h with z | z
        · subst z; exact ⟨0, k, rfl, hb⟩
        · obtain ⟨j, i, h1, h2⟩ := ih.mp z; exact ⟨j + 1, i, by simpa using h1, h2⟩
      · obtain ⟨j, i, h1, h2⟩ := ih.mp h; exact ⟨j + 1, i, by simpa using h1, h2⟩
    · rintro ⟨j, i, h1, h2⟩
      cases j with
      | zero =>
        have e : k = i := by simpa using h1
        subst e
        unfold ownR
        rw [h2]
        exact List.mem_cons_self
      | succ j =>
        have z := ih.mpr ⟨j, i, by simpa using h1, h2⟩
        unfold ownR
        split
        · exact List.mem_cons_of_mem _ z
        · exact z
theorem SR.enter {vs : List V} {as : List Ar} (S : SR K mg Z B σ H e) (r : Paired (AtR K mg B σ e) vs as) (nd : noDup (owns as) = true) : SR K mg ⟨B, H, ownR σ as, vs.map some⟩ B (vs.map some) H (as.map (toSl e)) := by
  refine ⟨Same.refl B, S.bh, fun a o h _ => h, fun a o h => .inl h, fun a o h => ⟨o, h⟩, by simp [Paired.length r], fun j s q => ?_, fun j k a hjk hj hk e1 e2 => ?_⟩
  · rw [List.getElem?_map] at q
    cases ha : as[j]? with
    | none => rw [ha] at q; cases q
    | some x =>
      rw [ha] at q
      obtain ⟨v, hv, rv⟩ := pget r ha
      have q : toSl e x = s := Option.some.inj q
      subst q
      have hv' : (vs.map some)[j]? = some (some v) := by rw [List.getElem?_map, hv]; rfl
      rw [hv']
      cases rv with
      | d h => exact ⟨v, rfl, h⟩
      | @o i h1 h2 =>
        obtain ⟨s, q, hs⟩ := h1
        have gd : e.getD i .no = s := by rw [List.getD_eq_getElem?_getD, q]; rfl
        have z := S.sl i s q
        cases s with
        | own r ds =>
          obtain ⟨a, xs, e1, p1, p2, p3⟩ := z
          rw [h2] at e1
          cases e1
          show SlAt K mg _ B H j _ (toRef (e.getD i .no))
          rw [gd]
          exact ⟨a, xs, rfl, p1, p2, p3.1, (fun z => nomatch z), fun _ => ⟨mem_ownR.mpr ⟨j, i, ha, h2⟩, hv'⟩⟩
        | oin r c ns ds =>
          obtain ⟨a, C, dx, fs, e1, p0, p1, p2, p3, p4⟩ := z
          rw [h2] at e1
          cases e1
          show SlAt K mg _ B H j _ (toRef (e.getD i .no))
          rw [gd]
          exact ⟨a, C, dx, fs, rfl, p0, p1, p2, p3, p4.1, (fun z => nomatch z), fun _ => ⟨mem_ownR.mpr ⟨j, i, ha, h2⟩, hv'⟩⟩
        | no => cases hs
        | val d => cases hs
  · have key : ∀ j, ownAt (as.map (toSl e)) j → (vs.map some)[j]? = some (some (.ref a)) → ∃ i, as[j]? = some (.o i) ∧ ownAt e i ∧ σ[i]? = some (some (.ref a)) := fun j ⟨s, q, hs⟩ e1 => by
      rw [List.getElem?_map] at q
      cases ha : as[j]? with
      | none => rw [ha] at q; cases q
      | some x =>
        rw [ha] at q
        obtain ⟨v, hv, rv⟩ := pget r ha
        have q : toSl e x = s := Option.some.inj q
        subst q
        rw [List.getElem?_map, hv] at e1
        cases e1
        cases rv with
        | d h => cases hs
        | @o i h1 h2 => exact ⟨i, rfl, h1, h2⟩
    obtain ⟨i, a1, o1, s1⟩ := key j hj e1
    obtain ⟨i2, a2, o2, s2⟩ := key k hk e2
    by_cases hi : i = i2
    · subst hi
      exact hjk (noDup_inj nd a1 a2)
    · exact S.ds i i2 a hi o1 o2 s1 s2
theorem isOwn_reRef {r : Bool} {s : Sl} (h : (reRef r s).isOwn = true) : s.isOwn = true := by cases s <;> first | rfl | cases h
theorem SR.leave {vs : List V} {as : List Ar} {os : En} (S : SR K mg Z B σ H e) (r : Paired (AtR K mg B σ e) vs as) (S' : SR K mg ⟨B, H, ownR σ as, vs.map some⟩ B' (vs.map some) H' os) : SR K mg Z B' σ H' (putO as os e) := by
  have hl : os.length = as.length := by rw [← S'.ln, List.length_map, Paired.length r]
  refine S.after S' (by unfold putO; exact putG_len) (fun a m => ?_) fun i s' q => ?_
  · obtain ⟨j, i, h1, h2⟩ := mem_ownR.mp m
    obtain ⟨v, hv, rv⟩ := pget r h1
    cases rv with
    | o h3 h4 =>
      obtain ⟨s, q, hs⟩ := h3
      obtain ⟨a', o, e1, _, _, p2, p3⟩ := (S.sl i s q).at_own hs
      rw [h2] at e1
      cases e1
      cases hr : s.isRef with
      | false => exact .inl (p2 hr)
      | true => exact .inr (p3 hr).1
  · unfold putO at q
    rw [putG_get] at q
    cases hi : e[i]? with
    | none => rw [hi] at q; cases q
    | some s =>
      rw [hi] at q
      have q := Option.some.inj q
      simp only [Nat.zero_add] at q
      cases hf : findO as os i with
      | none =>
        rw [hf] at q
        subst q
        refine .inl ⟨rfl, fun a ho e1 m => ?_⟩
        obtain ⟨j, i2, h1, h2⟩ := mem_ownR.mp m
        by_cases h : i2 = i
        · subst h; exact findO_none hf hl h1
        · obtain ⟨v, hv, rv⟩ := pget r h1
          cases rv with
          | o h3 h4 => exact S.ds i2 i a h h3 ⟨s, hi, ho⟩ h2 e1
      | some s2 =>
        rw [hf] at q
        subst q
        obtain ⟨j, h1, h2⟩ := findO_some hf
        obtain ⟨v, hv, rv⟩ := pget r h1
        cases rv with
        | o h3 h4 =>
          refine .inr ⟨?_, fun _ => h3⟩
          obtain ⟨s0, q0, hs0⟩ := h3
          rw [hi] at q0
          cases q0
          obtain ⟨a, o, e1, _, _, p2, p3⟩ := (S.sl i s hi).at_own hs0
          have z := S'.sl j s2 h2
          have hv' : (vs.map some)[j]? = some (some v) := by rw [List.getElem?_map, hv]; rfl
          rw [hv'] at z
          rw [h4] at e1
          cases e1
          cases s2 with
          | own r ds =>
            obtain ⟨a', xs, e2, w1, w2, w3⟩ := z
            cases e2
            exact ⟨a, xs, h4, w1, w2, w3.1, p2, p3⟩
          | oin r c ns ds =>
            obtain ⟨a', C, dx, fs, e2, w0, w1, w2, w3, w4⟩ := z
            cases e2
            exact ⟨a, C, dx, fs, h4, w0, w1, w2, w3, w4.1, p2, p3⟩
          | no => trivial
          | val d => trivial
/-- a def's promise, kept at a call -/
theorem callR_ok {W : WX} {F : En → Res D} {vs : List V} {as : List Ar} {Q : VK} (S : SR K mg Z B σ H e) (r : Paired (AtR K mg B σ e) vs as) (h : (callR F as e).wp (PV K mg Z B σ Q) (PX K mg Z B σ W)) : spD K mg F vs H Q (fun c d H' => W c d σ H') := by
  unfold callR at h
  split at h
  · rename_i nd
    refine ⟨B, ownR σ as, as.map (toSl e), S.enter r nd, ?_⟩
    cases q : F (as.map (toSl e)) with
    | ok d os =>
      rw [q] at h
      exact fun v B' H' S' a => h v B' H' (S.leave r S') S'.le a
    | exc x os =>
      rw [q] at h
      exact fun cls dd B' H' S' a => h cls dd B' H' (S.leave r S') S'.le a
    | bad => rw [q] at h; exact False.elim h
  · exact False.elim h
theorem ownAt_putO {as : List Ar} {os : En} {i : Nat} (h : ownAt (putO as os e) i) (hl : os.length = as.length) (r : ∃ vs, Paired (AtR K mg B σ e) vs as) : ownAt e i := by
  obtain ⟨s, q, hs⟩ := h
  obtain ⟨vs, r⟩ := r
  unfold putO at q
  rw [putG_get] at q
  cases hi : e[i]? with
  | none => rw [hi] at q; cases q
  | some s0 =>
    rw [hi] at q
    have q := Option.some.inj q
    simp only [Nat.zero_add] at q
    cases hf : findO as os i with
    | none => rw [hf] at q; subst q; exact ⟨_, hi, hs⟩
    | some s2 =>
      obtain ⟨j, h1, h2⟩ := findO_some hf
      obtain ⟨v, hv, rv⟩ := pget r h1
      cases rv with
      | o h3 h4 => exact h3
theorem callN_ok {W : WX} {F : En → Res (List D)} {vs : List V} {as : List Ar} {Q : VK} (S : SR K mg Z B σ H e) (r : Paired (AtR K mg B σ e) vs as) (h : (callN F as e).wp (PN K mg Z B σ Q) (PX K mg Z B σ W)) : spN K mg F vs H Q (fun c d H' => W c d σ H') := by
  unfold callN at h
  split at h
  · rename_i nd
    refine ⟨B, ownR σ as, as.map (toSl e), S.enter r nd, ?_⟩
    cases q : F (as.map (toSl e)) with
    | ok d os =>
      rw [q] at h
      intro p xs B' H' S' a1 a2 a3 a4
      have hl : os.length = as.length := by rw [← S'.ln, List.length_map, Paired.length r]
      refine h p xs B' H' (S.leave r S') S'.le a1 a2 a3 ?_ fun i hi ei => ?_
      · cases q2 : Z.H0 p with
        | none => rfl
        | some u =>
          obtain ⟨o', z⟩ := S.dm p u q2
          rw [a4] at z; cases z
      · obtain ⟨s, q3, hs⟩ := ownAt_putO hi hl ⟨vs, r⟩
        obtain ⟨a, o, e1, e2, _⟩ := (S.sl i s q3).at_own hs
        rw [ei] at e1
        cases e1
        rw [a4] at e2; cases e2
    | exc x os =>
      rw [q] at h
      exact fun cls dd B' H' S' a => h cls dd B' H' (S.leave r S') S'.le a
    | bad => rw [q] at h; exact False.elim h
  · exact False.elim h
end

/-! ### running a callee, whatever it lets out is wished for at the caller's slots -/
section
variable {X : Cx} {W : WX} {k : Nat} {f C : Addr} {sp : Sp} {x m : Str} {p pos apos : Pos} {e o : Expr} {es : List Expr} {te ta : TE} {t : TA}
theorem run_R {pins : List (Addr × Obj)} {σ : St} {H : Hp} {s : Shared} {Q : VK} {us : List Value} {vs : List V} (F : FnR X.prog X.w X.K X.mg X.base (L2.CX X.prog X.w) k f sp) (hr : Room k X.A) (tk : Takes X W) (I : Inv X pins σ H s) (r : Vals vs us) (h : sp vs H Q (fun c d H' => W c d σ H')) :
    codeAny (model X.prog X.w) X.A (.call (.ref f) ⟨us, []⟩) (fun r s' => match r with | .ok (.ret v) => EP X pins σ Q v s' | .ok _ => False | .error e => X.xe e s') s := by
  refine codeAny_mono (F X.A X.stack s H us vs Q _ hr I.env0 r h) fun res s' hq => ?_
  cases res with
  | error er => exact tk er s' (XE.of_call I (fun _ _ _ z => z) hq)
  | ok fl => cases fl with
    | ret u => exact I.after hq
    | next => exact False.elim hq
    | brk => exact False.elim hq
    | cont => exact False.elim hq
/-- what a call asks: the arguments, then the promise -/
def tCW (W : WX) (sp : Sp) (t : TA) : TE := fun σ H Q => t σ H fun vs H1 => sp vs H1 Q fun c d H' => W c d σ H'
theorem pe_callW (F : FnR X.prog X.w X.K X.mg X.base (L2.CX X.prog X.w) k f sp) (hr : Room k X.A) (tk : Takes X W) (hg : Gl X x) (hm : X.mg x = some (.ref f)) (hk : PySem.W.keepIn X.K (.ref f) = true) (ha : PA X (e :: es) t)
    (hdb : (x == ("__debug__" : Str)) = false := by decide) (he : starEach (e :: es) X.env = (false, eval e X.env) :: starEach es X.env := by rfl) (hpl : (backTo pos (starEach es X.env)).any (·.1) = false := by rfl) : PE X (.Call (.Name x p) (e :: es) [] pos) (tCW W sp t) := by
  refine ⟨fun pins s σ H Q I h => wpAny_Call_Name_kw (ld_glob I hg hm ?_ hdb)⟩
  exact PySem.W.callWith_K (h₀ := X.base) I.ok.mod.kin hk (thn (ha.run pos pins s σ H _ I h) fun us s1 ⟨vs, H1, I1, r, q⟩ => ⟨I1.kIn, wpAny_call (run_R F hr tk I1 r q)⟩) he hpl
theorem pe_callW0 (F : FnR X.prog X.w X.K X.mg X.base (L2.CX X.prog X.w) k f sp) (hr : Room k X.A) (tk : Takes X W) (hg : Gl X x) (hm : X.mg x = some (.ref f)) (hk : PySem.W.keepIn X.K (.ref f) = true)
    (hdb : (x == ("__debug__" : Str)) = false := by decide) : PE X (.Call (.Name x p) [] [] pos) (tCW W sp tNil) := by
  refine ⟨fun pins s σ H Q I h => wpAny_Call_Name_kw (ld_glob I hg hm ?_ hdb)⟩
  exact PySem.W.callWith_K0 I.kIn hk (wpAny_call (run_R F hr tk I .nil h))
def tMW (C : Addr) (m : Str) (W : WX) (sp : Sp) (ta : TE) (t : TA) : TE := fun σ H Q => ta σ H fun x H1 => ∃ a dx fs, x = .ref a ∧ H1 a = some (.ins C dx fs) ∧ fs.lookup m = none ∧ t σ H1 fun vs H2 => sp (x :: vs) H2 Q fun c d H' => W c d σ H'
theorem pe_methW {pl : Sem Bool} (he : PE X o ta) (c : Cls X.K C) (hm : Meth X.K C m f) (F : FnR X.prog X.w X.K X.mg X.base (L2.CX X.prog X.w) k f sp) (hr : Room k X.A) (tk : Takes X W) (ha : PA X (e :: es) t)
    (hst : starEach (e :: es) X.env = (false, eval e X.env) :: starEach es X.env := by rfl) (hpl : (backTo pos (starEach es X.env)).any (·.1) = false := by rfl)
    (ht : eval (.Call (.Attribute o m apos) (e :: es) [] pos) X.env = (do
      let ov ← eval o X.env
      standAt apos.atName
      let (f, first) ← holding [ov] (getMethod ov m pl)
      callWith pos f first (backTo pos (starEach (e :: es) X.env)) (backToKw pos (keywordEach [] X.env))) := by rfl) : PE X (.Call (.Attribute o m apos) (e :: es) [] pos) (tMW C m W sp ta t) := by
  refine ⟨fun pins s σ H Q I h => PySem.W.methodCall_KW (pl := pl) (thn (he.run pins s σ H _ I h) fun u s1 ⟨x, H1, I1, rx, a, dx, fs, ex, ea, l, q⟩ => ?_) ht⟩
  subst ex
  obtain rfl : u = Value.ref a := rx
  refine getmeth_ok I1 ea c hm l (PySem.W.callWith_K (first := [.ref a]) (h₀ := X.base) I.ok.mod.kin hm.kp (thn (ha.run pos pins s1 σ H1 _ I1 q) fun us s2 ⟨vs, H2, I2, r, q2⟩ => ⟨I2.kIn, ?_⟩) hst hpl)
  exact wpAny_call (run_R (us := .ref a :: us) (vs := .ref a :: vs) F hr tk I2 (.cons rfl r) q2)
theorem pe_methW0 {pl : Sem Bool} (he : PE X o ta) (c : Cls X.K C) (hm : Meth X.K C m f) (F : FnR X.prog X.w X.K X.mg X.base (L2.CX X.prog X.w) k f sp) (hr : Room k X.A) (tk : Takes X W)
    (ht : eval (.Call (.Attribute o m apos) [] [] pos) X.env = (do
      let ov ← eval o X.env
      standAt apos.atName
      let (f, first) ← holding [ov] (getMethod ov m pl)
      callWith pos f first (backTo pos (starEach [] X.env)) (backToKw pos (keywordEach [] X.env))) := by rfl) : PE X (.Call (.Attribute o m apos) [] [] pos) (tMW C m W sp ta tNil) := by
  refine ⟨fun pins s σ H Q I h => PySem.W.methodCall_KW (pl := pl) (thn (he.run pins s σ H _ I h) fun u s1 ⟨x, H1, I1, rx, a, dx, fs, ex, ea, l, q⟩ => ?_) ht⟩
  subst ex
  obtain rfl : u = Value.ref a := rx
  exact getmeth_ok I1 ea c hm l (PySem.W.callWith_K0 (first := [.ref a]) I1.kIn hm.kp (wpAny_call (run_R (us := [.ref a]) (vs := [.ref a]) F hr tk I1 (.cons rfl .nil) q)))
/-- a new instance -/
def tKW (C : Addr) (W : WX) (sp : Sp) (t : TA) : TE := fun σ H Q => t σ H fun vs H1 => ∀ x dx, H1 x = none → H1 dx = none → dx ≠ x → sp (.ref x :: vs) (upd (upd H1 dx (.own x)) x (.ins C dx [])) (fun v H2 => v = .non ∧ Q (.ref x) H2) fun c d H' => W c d σ H'
theorem run_K {pins : List (Addr × Obj)} {σ : St} {H : Hp} {s : Shared} {Q : VK} {us : List Value} {vs : List V} (N : Mk X.K C f) (F : FnR X.prog X.w X.K X.mg X.base (L2.CX X.prog X.w) k f sp) (hr : Room (k + 1) X.A) (tk : Takes X W) (I : Inv X pins σ H s) (r : Vals vs us)
    (h : ∀ x dx, H x = none → H dx = none → dx ≠ x → sp (.ref x :: vs) (upd (upd H dx (.own x)) x (.ins C dx [])) (fun v H2 => v = .non ∧ Q (.ref x) H2) fun c d H' => W c d σ H') : wpAny (model X.prog X.w) X.A (call (.ref C) us) (EP X pins σ Q) X.xe s := by
  have hq := h (s.heap.objs.size + 1) s.heap.objs.size (I.hok.fresh (Nat.le_succ _)) (I.hok.fresh (Nat.le_refl _)) (Nat.ne_of_lt (Nat.lt_succ_self _))
  have J := Inv.made (C := C) I
  refine wpAny_call (make_map (f := f) I.kIn N.makes N.init (beq_iff_eq.mp N.fn) (codeAny_mono (F _ X.stack _ _ (Value.ref (s.heap.objs.size + 1) :: us) _ _ _ (hr.make C us []) (J.env0.make C us []) (Paired.cons (show RelV (V.ref (s.heap.objs.size + 1)) (Value.ref (s.heap.objs.size + 1)) from rfl) r) hq) fun res s' hq' => ?_))
  cases res with
  | error er => exact tk er s' (XE.of_call J (fun _ _ _ z => z) hq')
  | ok fl => cases fl with
    | ret u =>
      obtain ⟨v, H', I3, rv, ev, q3⟩ := J.after hq'
      subst ev
      exact ⟨rv, .ref (s.heap.objs.size + 1), H', I3, rfl, q3⟩
    | next => exact False.elim hq'
    | brk => exact False.elim hq'
    | cont => exact False.elim hq'
theorem pe_makeW (N : Mk X.K C f) (F : FnR X.prog X.w X.K X.mg X.base (L2.CX X.prog X.w) k f sp) (hr : Room (k + 1) X.A) (tk : Takes X W) (hg : Gl X x) (hm : X.mg x = some (.ref C)) (ha : PA X (e :: es) t) (hdb : (x == ("__debug__" : Str)) = false := by decide)
    (he : starEach (e :: es) X.env = (false, eval e X.env) :: starEach es X.env := by rfl) (hpl : (backTo pos (starEach es X.env)).any (·.1) = false := by rfl) : PE X (.Call (.Name x p) (e :: es) [] pos) (tKW C W sp t) := by
  refine ⟨fun pins s σ H Q I h => wpAny_Call_Name_kw (ld_glob I hg hm ?_ hdb)⟩
  exact PySem.W.callWith_K (h₀ := X.base) I.ok.mod.kin N.kp (thn (ha.run pos pins s σ H _ I h) fun us s1 ⟨vs, H1, I1, r, q⟩ => ⟨I1.kIn, run_K N F hr tk I1 r q⟩) he hpl
theorem pe_makeW0 (N : Mk X.K C f) (F : FnR X.prog X.w X.K X.mg X.base (L2.CX X.prog X.w) k f sp) (hr : Room (k + 1) X.A) (tk : Takes X W) (hg : Gl X x) (hm : X.mg x = some (.ref C)) (hdb : (x == ("__debug__" : Str)) = false := by decide) : PE X (.Call (.Name x p) [] [] pos) (tKW C W sp tNil) := by
  refine ⟨fun pins s σ H Q I h => wpAny_Call_Name_kw (ld_glob I hg hm ?_ hdb)⟩
  exact PySem.W.callWith_K0 I.kIn N.kp (run_K (us := []) N F hr tk I .nil h)
/-- f(e, ..), f an instance -/
def tOW (X : Cx) (C : Addr) (W : WX) (sp : Sp) (tf : TE) (t : TA) : TE := fun σ H Q => tf σ H fun y H1 => ∃ a, y = V.ref a ∧ t σ H1 fun vs H2 => (∃ dx fs, H2 a = some (.ins C dx fs)) ∧ sp (V.ref a :: vs) H2 Q fun c d H' => W c d σ H'
theorem pe_callOW {g : Addr} (hf : PE X o ta) (c : StX.CallO X.K C g) (F : FnR X.prog X.w X.K X.mg X.base (L2.CX X.prog X.w) k g sp) (hr : Room k X.A) (tk : Takes X W) (ha : PA X (e :: es) t)
    (ht : eval (.Call o (e :: es) [] pos) X.env = (do callWith pos (← eval o X.env) [] (backTo pos (starEach (e :: es) X.env)) (backToKw pos (keywordEach [] X.env))) := by rfl)
    (he : starEach (e :: es) X.env = (false, eval e X.env) :: starEach es X.env := by rfl) (hpl : (backTo pos (starEach es X.env)).any (·.1) = false := by rfl) : PE X (.Call o (e :: es) [] pos) (tOW X C W sp ta t) := by
  refine ⟨fun pins s σ H Q I h => Call_ (thn (hf.run pins s σ H _ I h) fun u s1 ⟨y, H1, I1, ry, a, ey, q⟩ => ?_) ht⟩
  subst ey
  obtain rfl : u = Value.ref a := ry
  refine StX.callO_with (thn (ha.run pos pins s1 σ H1 _ I1 q) fun us s2 ⟨vs, H2, I2, r, ⟨dx, fs, hi⟩, q2⟩ => ?_) he hpl
  obtain ⟨ox, od, J, hd⟩ := StX.insC_at I2 (.inr ⟨dx, fs, hi⟩)
  exact ⟨⟨C, ox, od, J, hd⟩, wpAny_call (PySem.W.kco_code I2.kIn J hd c.at_ c.fn c.fi (run_R (us := .ref a :: us) (vs := .ref a :: vs) F hr tk I2 (.cons rfl r) q2))⟩
end
end Dl

set_option maxHeartbeats 1000000
/-! Layer D, part 3: calls over data, statements, loops, comprehensions, defs. -/
namespace Dl
open PySem PySem.Spec PyProof.Rows L2

/-! ### what the module holds: defs, methods, properties, makers -/
section
variable (P : Program) (w : World) (K : PySem.W.Frag) (mg : Str → Option Value) (base : Heap)
def FnI (k : Nat) (x : Str) (F : En → Res D) : Prop := ∃ f, mg x = some (.ref f) ∧ PySem.W.keepIn K (.ref f) = true ∧ FnR P w K mg base (L2.CX P w) k f (spD K mg F)
def FnN (k : Nat) (x : Str) (F : En → Res (List D)) : Prop := ∃ f, mg x = some (.ref f) ∧ PySem.W.keepIn K (.ref f) = true ∧ FnR P w K mg base (L2.CX P w) k f (spN K mg F)
def MtI (k : Nat) (c m : Str) (F : En → Res D) : Prop := ∃ C f, mg c = some (.ref C) ∧ Cls K C ∧ Meth K C m f ∧ FnR P w K mg base (L2.CX P w) k f (spD K mg F)
def PrI (k : Nat) (c m : Str) (F : En → Res D) : Prop := ∃ C p g, mg c = some (.ref C) ∧ Cls K C ∧ PropOf K C m p g ∧ FnR P w K mg base (L2.CX P w) k g (spD K mg F)
def MkI (k : Nat) (c : Str) (F : En → Res D) : Prop := ∃ C f, mg c = some (.ref C) ∧ Mk K C f ∧ FnR P w K mg base (L2.CX P w) k f (spD K mg F)
def OcI (k : Nat) (c : Str) (F : En → Res D) : Prop := ∃ C f, mg c = some (.ref C) ∧ StX.CallO K C f ∧ FnR P w K mg base (L2.CX P w) k f (spD K mg F)
end
def FlI (K : PySem.W.Frag) (mg : Str → Option Value) (c m : Str) : Prop := ∃ C, mg c = some (.ref C) ∧ Cls K C ∧ NoAttr K C m

def look (f : Str) : List Str → List D → Option D
  | n :: ns, d :: ds => if f = n then some d else look f ns ds
  | _, _ => none
theorem look_some {K : PySem.W.Frag} {mg : Str → Option Value} {B : Hp} {f : Str} {d : D} : ∀ {fs : List (Str × V)} {ns : List Str} {ds : List D}, fs.map (·.1) = ns → AtL K mg B (fs.map (·.2)) ds → look f ns ds = some d → ∃ v, fs.lookup f = some v ∧ At K mg B v d
  | [], _, _, rfl, _, h => by cases h
  | (n, v) :: fs, _, _, rfl, .cons r t, h => by
    have h : (if f = n then some _ else look f (fs.map (·.1)) _) = some d := h
    split at h
    · rename_i hf
      cases h
      subst hf
      exact ⟨v, by simp [List.lookup], r⟩
    · rename_i hf
      obtain ⟨v', h1, h2⟩ := look_some rfl t h
      refine ⟨v', ?_, h2⟩
      have q : (f == n) = false := by simpa using hf
      simp only [List.lookup, q]
      exact h1
theorem look_none {K : PySem.W.Frag} {mg : Str → Option Value} {B : Hp} {f : Str} : ∀ {fs : List (Str × V)} {ns : List Str} {ds : List D}, fs.map (·.1) = ns → AtL K mg B (fs.map (·.2)) ds → look f ns ds = none → fs.lookup f = none
  | [], _, _, rfl, _, h => rfl
  | (n, v) :: fs, _, _, rfl, .cons r t, h => by
    have h : (if f = n then some _ else look f (fs.map (·.1)) _) = none := h
    split at h
    · cases h
    · rename_i hf
      have q : (f == n) = false := by simpa using hf
      simp only [List.lookup, q]
      exact look_none rfl t h
def dFld (c f : Str) : D → M D := fun d => li (match d with
  | .obj c' ns ds => if c' = c then look f ns ds else none
  | _ => none)
/-- o has no attribute of the method's name -/
def dNoF (c m : Str) : D → M D := fun d => li (match d with
  | .obj c' ns ds => if c' = c ∧ (look m ns ds).isNone = true then some d else none
  | _ => none)
def noExc {α : Type} (m : M α) : M α := fun e => match m e with
  | .ok d e' => .ok d e' | _ => .bad
def fProp (c : Str) (F : En → Res D) (fa : M D) : M D := bd fa fun d => bd (li (match d with
  | .obj c' _ _ => if c' = c then some () else none
  | _ => none)) fun _ => noExc (callR F [.d d])
def fMake (c : Str) (F : En → Res D) (fa : M (List D)) : M D := bd fa fun ds => fun e => match F (.oin true c [] [] :: ds.map .val) with
  | .ok .non (.oin _ c' ns fs :: _) => .ok (.obj c' ns fs) e
  | .exc x _ => .exc x e
  | _ => .bad
def fMeth (c m : Str) (F : En → Res D) (fo : M D) (fa : M (List Ar)) : M D := bd fo fun d => bd (dNoF c m d) fun d => bd fa fun as => callR F (.d d :: as)
def fCallO (c : Str) (F : En → Res D) (fo : M D) (fa : M (List Ar)) : M D := bd fo fun d => bd (li (match d with
  | .obj c' _ _ => if c' = c then some () else none
  | _ => none)) fun _ => bd fa fun as => callR F (.d d :: as)
section
variable {X : Cx} {W : WX} {j k : Nat} {x c m : Str} {F : En → Res D} {e o : Expr} {es : List Expr} {fr : M (List Ar)} {fl : M (List D)} {fo : M D} {p pos apos : Pos}
theorem evCW {K : PySem.W.Frag} {mg : Str → Option Value} {ta : TA} (ea : EvR K mg W ta fr) : EvD K mg W (tCW W (spD K mg F) ta) (bd fr (callR F)) := by
  intro Z B σ H e Q S h
  refine ea Z B σ H e _ S ((wp_bd.mp h).imp (fun as e1 h1 vs B1 H1 S1 l1 a1 => ?_) fun x e' q => q)
  exact callR_ok S1 a1 (upV l1 h1)
theorem ped_call (cf : FnI X.prog X.w X.K X.mg X.base k x F) (hr : Room j X.A) (hk : k ≤ j) (tk : Takes X W) (ha : PRD X W (e :: es) fr) (hg : Gl X x := by rfl) (hdb : (x == ("__debug__" : Str)) = false := by decide)
    (he : starEach (e :: es) X.env = (false, eval e X.env) :: starEach es X.env := by rfl) (hpl : (backTo pos (starEach es X.env)).any (·.1) = false := by rfl) : PED X W (.Call (.Name x p) (e :: es) [] pos) (bd fr (callR F)) := by
  obtain ⟨f, hm, kp, G⟩ := cf
  obtain ⟨ta, pa, ea⟩ := ha
  exact ⟨_, pe_callW G (hr.mono hk) tk hg hm kp pa hdb he hpl, evCW ea⟩
theorem ped_call0 (cf : FnI X.prog X.w X.K X.mg X.base k x F) (hr : Room j X.A) (hk : k ≤ j) (tk : Takes X W) (hg : Gl X x := by rfl) (hdb : (x == ("__debug__" : Str)) = false := by decide) : PED X W (.Call (.Name x p) [] [] pos) (bd rNil (callR F)) := by
  obtain ⟨f, hm, kp, G⟩ := cf
  exact ⟨_, pe_callW0 G (hr.mono hk) tk hg hm kp hdb, evCW fun Z B σ H e Q S h => h [] B H S (Same.refl B) .nil⟩
/-- a call that gives a new list -/
theorem pnd_call {G : En → Res (List D)} (cf : FnN X.prog X.w X.K X.mg X.base k x G) (hr : Room j X.A) (hk : k ≤ j) (tk : Takes X W) (ha : PRD X W (e :: es) fr) (hg : Gl X x := by rfl) (hdb : (x == ("__debug__" : Str)) = false := by decide)
    (he : starEach (e :: es) X.env = (false, eval e X.env) :: starEach es X.env := by rfl) (hpl : (backTo pos (starEach es X.env)).any (·.1) = false := by rfl) : PND X W (.Call (.Name x p) (e :: es) [] pos) (bd fr (callN G)) := by
  obtain ⟨f, hm, kp, G⟩ := cf
  obtain ⟨ta, pa, ea⟩ := ha
  refine ⟨_, pe_callW G (hr.mono hk) tk hg hm kp pa hdb he hpl, fun Z B σ H e Q S h => ?_⟩
  refine ea Z B σ H e _ S ((wp_bd.mp h).imp (fun as e1 h1 vs B1 H1 S1 l1 a1 => ?_) fun x e' q => q)
  exact callN_ok S1 a1 (upN l1 h1)
theorem ref_inj {a b : Addr} {o : Option Value} (h : o = some (Value.ref a)) (h' : o = some (Value.ref b)) : a = b := by
  rw [h] at h'
  injection h' with e
  injection e
theorem ped_fld {f : Str} (cf : FlI X.K X.mg c f) (ha : PED X W e fo) (hb : attributeBase e f X.env (eval e X.env) = eval e X.env := by rfl) : PED X W (.Attribute e f pos) (bd fo (dFld c f)) := by
  obtain ⟨C, hm, cl, na⟩ := cf
  obtain ⟨ta, pa, ea⟩ := ha
  refine ⟨_, pe_fld pa hb, fun Z B σ H e Q S h => ?_⟩
  refine ea.then S h (fun x e' q => q) fun d e1 v B1 H1 S1 l1 a1 h1 => ?_
  obtain ⟨z, h2, h3⟩ := wp_li h1
  cases d with
  | obj c' ns ds =>
    have w0 : (if c' = c then look f ns ds else none) = some z := h2
    by_cases hc : c' = c
    · rw [if_pos hc] at w0
      subst hc
      obtain ⟨a, C', dx, fs, rfl, g1, g2, g3, g4⟩ := a1.obj_inv
      obtain rfl := ref_inj g1 hm
      obtain ⟨v, w1, w2⟩ := look_some g3 g4 w0
      exact ⟨a, _, dx, fs, v, rfl, S1.bh _ _ g2, cl, na, w1, h3 v B1 H1 S1 l1 w2⟩
    · rw [if_neg hc] at w0; cases w0
  | _ => cases h2
theorem noExc_wp {α : Type} {m : M α} {e : En} {Q : α → En → Prop} {E : D → En → Prop} (h : (noExc m e).wp Q E) : (m e).wp Q fun _ _ => False := by
  unfold noExc at h
  cases q : m e with
  | ok d e' => rw [q] at h; exact h
  | exc x e' => rw [q] at h; exact False.elim h
  | bad => rw [q] at h; exact False.elim h
theorem ped_prop (cf : PrI X.prog X.w X.K X.mg X.base k c m F) (hr : Room j X.A) (hk : k + 1 ≤ j) (ha : PED X W e fo) (hb : attributeBase e m X.env (eval e X.env) = eval e X.env := by rfl) : PED X W (.Attribute e m pos) (fProp c F fo) := by
  obtain ⟨C, p, g, hm, cl, hp, G⟩ := cf
  obtain ⟨ta, pa, ea⟩ := ha
  have hr1 := hr.mono hk
  refine ⟨fun σ H Q => ta σ H fun x H1 => ∃ a dx fs, x = V.ref a ∧ H1 a = some (.ins C dx fs) ∧ spD X.K X.mg F [V.ref a] H1 Q E0, ⟨fun pins s σ H Q I h => ?_⟩, fun Z B σ H e Q S h => ?_⟩
  · refine attr_of hb (thn (pa.run pins s σ H _ I h) fun u s1 ⟨x, H1, I1, rx, a, dx, fs, ex, hi, q⟩ => ?_)
    subst ex
    obtain rfl : u = Value.ref a := rx
    obtain ⟨mA, O, _, _, _, _⟩ := ins_get I1.hok hi
    obtain ⟨od, J, _⟩ := O.look
    obtain ⟨rest, hrec⟩ := hp.rec_
    have I2 := I1.tok (s1.toks + 1)
    refine PySem.W.get_bind I1.kIn J (PySem.W.plainGet_of (cl.get m)).1 (PySem.W.findObj_data (by obtain ⟨cd, z, _⟩ := PySem.W.any_some cl.hd; rw [z]; rfl) hp.at_ hp.get hp.tak) (PySem.W.plainGet_of (cl.get m)).2 (wpAny_call (PySem.W.prop_get (s := { s1 with toks := s1.toks + 1 }) I1.kIn hrec ?_))
    refine codeAny_mono (G X.A.in1 X.stack _ H1 [.ref a] [V.ref a] Q E0 hr1.in1 I2.env0.in1 (.cons rfl .nil) q) fun r s' hq => ?_
    cases r with
    | error er => exact False.elim (passL (X := X.nox) pins σ H1 _ er s' (I2.wish _) hq)
    | ok fl => cases fl with
      | ret u =>
        obtain ⟨v, H', I3, rv, q3⟩ := I2.after hq
        show wpAny _ _ (handedOut u) _ _ _
        rw [PySem.W.handedOut_of (handed_of rv)]
        exact wpAny_pure ⟨v, H', I3, rv, q3⟩
      | next => exact False.elim hq
      | brk => exact False.elim hq
      | cont => exact False.elim hq
  · refine ea.then S h (fun x e' q => q) fun d e1 v B1 H1 S1 l1 a1 h1 => ?_
    obtain ⟨z, h2, h3⟩ := wp_li (wp_bd.mp h1)
    cases d with
    | obj c' ns ds =>
      have h2 : (if c' = c then some () else none) = some z := h2
      split at h2
      · rename_i hc
        subst hc
        have a2 := a1
        obtain ⟨a, C', dx, fs, rfl, g1, g2, g3, g4⟩ := a1.obj_inv
        obtain rfl := ref_inj g1 hm
        refine ⟨a, dx, fs, rfl, S1.bh _ _ g2, ?_⟩
        exact callR_ok (W := fun _ _ _ _ => False) S1 (.cons (.d a2) .nil) ((noExc_wp h3).imp (fun _ _ q => PV.up l1 q) fun _ _ q => False.elim q)
      · cases h2
    | _ => cases h2
theorem ped_meth (cf : MtI X.prog X.w X.K X.mg X.base k c m F) (hr : Room j X.A) (hk : k ≤ j) (tk : Takes X W) (ho : PED X W o fo) (ha : PRD X W (e :: es) fr) {pl : Sem Bool}
    (hst : starEach (e :: es) X.env = (false, eval e X.env) :: starEach es X.env := by rfl) (hpl : (backTo pos (starEach es X.env)).any (·.1) = false := by rfl)
    (ht : eval (.Call (.Attribute o m apos) (e :: es) [] pos) X.env = (do
      let ov ← eval o X.env
      standAt apos.atName
      let (f, first) ← holding [ov] (getMethod ov m pl)
      callWith pos f first (backTo pos (starEach (e :: es) X.env)) (backToKw pos (keywordEach [] X.env))) := by rfl) : PED X W (.Call (.Attribute o m apos) (e :: es) [] pos) (fMeth c m F fo fr) := by
  obtain ⟨C, f, hm, cl, me, G⟩ := cf
  obtain ⟨to, po, eo⟩ := ho
  obtain ⟨ta, pa, ea⟩ := ha
  refine ⟨_, pe_methW po cl me G (hr.mono hk) tk pa hst hpl ht, fun Z B σ H e Q S h => ?_⟩
  refine eo.then S h (fun x e' q => q) fun d e1 v B1 H1 S1 l1 a1 h1 => ?_
  obtain ⟨z, h2, h3⟩ := wp_li (wp_bd.mp h1)
  cases d with
  | obj c' ns ds =>
    have h2 : (if c' = c ∧ (look m ns ds).isNone = true then some (D.obj c' ns ds) else none) = some z := h2
    split at h2
    · rename_i hc
      cases h2
      obtain ⟨rfl, hn⟩ := hc
      have a2 := a1
      obtain ⟨a, C', dx, fs, rfl, g1, g2, g3, g4⟩ := a1.obj_inv
      obtain rfl := ref_inj g1 hm
      refine ⟨a, dx, fs, rfl, S1.bh _ _ g2, look_none g3 g4 (Option.isNone_iff_eq_none.mp hn), ?_⟩
      refine ea Z B1 σ H1 e1 _ S1 ((wp_bd.mp h3).imp (fun as e2 h4 vs B2 H2 S2 l2 a3 => ?_) fun x e' q => PX.up l1 q)
      exact callR_ok S2 (.cons (.d (a2.mono l2)) a3) (upV (l1.trans l2) h4)
    · cases h2
  | _ => cases h2
theorem ped_meth0 (cf : MtI X.prog X.w X.K X.mg X.base k c m F) (hr : Room j X.A) (hk : k ≤ j) (tk : Takes X W) (ho : PED X W o fo) {pl : Sem Bool}
    (ht : eval (.Call (.Attribute o m apos) [] [] pos) X.env = (do
      let ov ← eval o X.env
      standAt apos.atName
      let (f, first) ← holding [ov] (getMethod ov m pl)
      callWith pos f first (backTo pos (starEach [] X.env)) (backToKw pos (keywordEach [] X.env))) := by rfl) : PED X W (.Call (.Attribute o m apos) [] [] pos) (fMeth c m F fo rNil) := by
  obtain ⟨C, f, hm, cl, me, G⟩ := cf
  obtain ⟨to, po, eo⟩ := ho
  refine ⟨_, pe_methW0 po cl me G (hr.mono hk) tk ht, fun Z B σ H e Q S h => ?_⟩
  refine eo.then S h (fun x e' q => q) fun d e1 v B1 H1 S1 l1 a1 h1 => ?_
  obtain ⟨z, h2, h3⟩ := wp_li (wp_bd.mp h1)
  cases d with
  | obj c' ns ds =>
    have h2 : (if c' = c ∧ (look m ns ds).isNone = true then some (D.obj c' ns ds) else none) = some z := h2
    split at h2
    · rename_i hc
      cases h2
      obtain ⟨rfl, hn⟩ := hc
      have a2 := a1
      obtain ⟨a, C', dx, fs, rfl, g1, g2, g3, g4⟩ := a1.obj_inv
      obtain rfl := ref_inj g1 hm
      refine ⟨a, dx, fs, rfl, S1.bh _ _ g2, look_none g3 g4 (Option.isNone_iff_eq_none.mp hn), ?_⟩
      exact callR_ok S1 (.cons (.d a2) .nil) (upV l1 h3)
    · cases h2
  | _ => cases h2
theorem ped_callO (cf : OcI X.prog X.w X.K X.mg X.base k c F) (hr : Room j X.A) (hk : k ≤ j) (tk : Takes X W) (ho : PED X W o fo) (ha : PRD X W (e :: es) fr)
    (ht : eval (.Call o (e :: es) [] pos) X.env = (do callWith pos (← eval o X.env) [] (backTo pos (starEach (e :: es) X.env)) (backToKw pos (keywordEach [] X.env))) := by rfl)
    (he : starEach (e :: es) X.env = (false, eval e X.env) :: starEach es X.env := by rfl) (hpl : (backTo pos (starEach es X.env)).any (·.1) = false := by rfl) : PED X W (.Call o (e :: es) [] pos) (fCallO c F fo fr) := by
  obtain ⟨C, f, hm, co, G⟩ := cf
  obtain ⟨to, po, eo⟩ := ho
  obtain ⟨ta, pa, ea⟩ := ha
  refine ⟨_, pe_callOW po co G (hr.mono hk) tk pa ht he hpl, fun Z B σ H e Q S h => ?_⟩
  refine eo.then S h (fun x e' q => q) fun d e1 v B1 H1 S1 l1 a1 h1 => ?_
  obtain ⟨z, h2, h3⟩ := wp_li (wp_bd.mp h1)
  cases d with
  | obj c' ns ds =>
    have h2 : (if c' = c then some () else none) = some z := h2
    split at h2
    · rename_i hc
      subst hc
      have a2 := a1
      obtain ⟨a, C', dx, fs, rfl, g1, g2, g3, g4⟩ := a1.obj_inv
      obtain rfl := ref_inj g1 hm
      refine ⟨a, rfl, ea Z B1 σ H1 e1 _ S1 ((wp_bd.mp h3).imp (fun as e2 h4 vs B2 H2 S2 l2 a3 => ⟨⟨dx, fs, S2.bh _ _ (l2 _ _ g2)⟩, ?_⟩) fun x e' q => PX.up l1 q)⟩
      exact callR_ok S2 (.cons (.d (a2.mono l2)) a3) (upV (l1.trans l2) h4)
    · cases h2
  | _ => cases h2
/-- a new instance -/
theorem make_ok {K : PySem.W.Frag} {mg : Str → Option Value} {Z : Ent} {B : Hp} {σ : St} {H : Hp} {e : En} {C : Addr} {vs : List V} {ds : List D} {Q : VK} (hm : mg c = some (.ref C)) (S : SR K mg Z B σ H e) (r : AtL K mg B vs ds)
    (h : (fMake c F (pu ds) e).wp (PV K mg Z B σ Q) (PX K mg Z B σ W)) (x dx : Addr) (hx : H x = none) (hd : H dx = none) (ne : dx ≠ x) :
    spD K mg F (.ref x :: vs) (upd (upd H dx (.own x)) x (.ins C dx [])) (fun v H2 => v = .non ∧ Q (.ref x) H2) fun c d H' => W c d σ H' := by
  obtain ⟨S1, _, _, _⟩ := S.newO (o := .own x) hd
  obtain ⟨S2, hB, h0, hf⟩ := S1.newO (p := x) (o := .ins C dx []) (by rw [upd_ne ne.symm]; exact hx)
  have hlen := r.length
  refine ⟨B, [x], .oin true c [] [] :: ds.map .val, ⟨Same.refl B, S2.bh, fun a o h _ => h, fun a o h => .inl h, fun a o h => ⟨o, h⟩, by simp [hlen], fun i s q => ?_, fun i k a hik hi hk e1 e2 => ?_⟩, ?_⟩
  · cases i with
    | zero =>
      have q : Sl.oin true c [] [] = s := Option.some.inj q
      subst q
      exact ⟨x, C, dx, [], rfl, hm, upd_same, rfl, .nil, hB, (fun z => nomatch z), fun _ => ⟨List.mem_cons_self, rfl⟩⟩
    | succ i =>
      have q : (ds.map Sl.val)[i]? = some s := q
      rw [List.getElem?_map] at q
      cases hd : ds[i]? with
      | none => rw [hd] at q; cases q
      | some d =>
        rw [hd] at q
        obtain ⟨v, hv, rv⟩ := r.get hd
        have q : Sl.val d = s := Option.some.inj q
        subst q
        exact ⟨v, by show (vs.map some)[i]? = _; rw [List.getElem?_map, hv]; rfl, rv⟩
  · have key : ∀ i, ownAt (.oin true c [] [] :: ds.map .val) i → i = 0 := fun i ⟨s, q, hs⟩ => by
      cases i with
      | zero => rfl
      | succ i =>
        have q : (ds.map Sl.val)[i]? = some s := q
        rw [List.getElem?_map] at q
        cases hd : ds[i]? with
        | none => rw [hd] at q; cases q
        | some d =>
          rw [hd] at q
          have q : Sl.val d = s := Option.some.inj q
          subst q
          cases hs
    exact hik ((key i hi).trans (key k hk).symm)
  · have h : (match F (.oin true c [] [] :: ds.map .val) with
      | .ok .non (.oin _ c' ns fs :: _) => Res.ok (D.obj c' ns fs) e
      | .exc x _ => .exc x e
      | _ => .bad).wp (PV K mg Z B σ Q) (PX K mg Z B σ W) := h
    have leave : ∀ {B' H' os}, SR K mg ⟨B, upd (upd H dx (.own x)) x (.ins C dx []), [x], (V.ref x :: vs).map some⟩ B' ((V.ref x :: vs).map some) H' os → SR K mg Z B' σ H' e := fun {B' H' os} S' =>
      S2.after S' rfl (fun a m => by
        have : a = x := by simpa using m
        subst this; exact .inl h0) fun i s' q => .inl ⟨q, fun a ho e1 m => by
          have : a = x := by simpa using m
          subst this; exact hf i ⟨s', q, ho⟩ e1⟩
    cases q : F (.oin true c [] [] :: ds.map .val) with
    | bad => rw [q] at h; exact False.elim h
    | exc z os =>
      rw [q] at h
      exact fun cls dd B' H' S' a => h cls dd B' H' (leave S') S'.le a
    | ok d os =>
      rw [q] at h
      cases d with
      | non =>
        cases os with
        | nil => exact False.elim h
        | cons s os =>
          cases s with
          | oin r c' ns fs =>
            intro v B' H' S' a
            refine ⟨a.non_inv, ?_⟩
            have SL := leave S'
            obtain ⟨a', C', dx', fs', e1, w0, w1, w2, w3, w4⟩ := S'.sl 0 _ rfl
            have e1 : some (some (V.ref x)) = some (some (V.ref a')) := e1
            cases e1
            obtain ⟨S3, l3⟩ := SL.freeze w1 w4.1 h0 hf
            exact h (.ref x) _ _ S3 (S'.le.trans l3) (.obj w0 upd_same w2 (w3.mono l3))
          | _ => exact False.elim h
      | _ => exact False.elim h
theorem ped_make (cf : MkI X.prog X.w X.K X.mg X.base k x F) (hr : Room j X.A) (hk : k + 1 ≤ j) (tk : Takes X W) (ha : PAD X W (e :: es) fl) (hg : Gl X x := by rfl) (hdb : (x == ("__debug__" : Str)) = false := by decide)
    (he : starEach (e :: es) X.env = (false, eval e X.env) :: starEach es X.env := by rfl) (hpl : (backTo pos (starEach es X.env)).any (·.1) = false := by rfl) : PED X W (.Call (.Name x p) (e :: es) [] pos) (fMake x F fl) := by
  obtain ⟨C, f, hm, mk, G⟩ := cf
  obtain ⟨ta, pa, ea⟩ := ha
  refine ⟨_, pe_makeW mk G (hr.mono hk) tk hg hm pa hdb he hpl, fun Z B σ H e Q S h => ?_⟩
  refine ea.then S h (fun x e' q => q) fun ds e1 vs B1 H1 S1 l1 a1 h1 => ?_
  intro x' dx hx hd ne
  exact make_ok hm S1 a1 (upV l1 h1) x' dx hx hd ne
theorem ped_make0 (cf : MkI X.prog X.w X.K X.mg X.base k x F) (hr : Room j X.A) (hk : k + 1 ≤ j) (tk : Takes X W) (hg : Gl X x := by rfl) (hdb : (x == ("__debug__" : Str)) = false := by decide) : PED X W (.Call (.Name x p) [] [] pos) (fMake x F fNil) := by
  obtain ⟨C, f, hm, mk, G⟩ := cf
  refine ⟨_, pe_makeW0 mk G (hr.mono hk) tk hg hm hdb, fun Z B σ H e Q S h => ?_⟩
  intro x' dx hx hd ne
  exact make_ok hm S .nil h x' dx hx hd ne
end

/-! ### statements -/
def setV (i : Nat) (d : D) : M Unit := fun e => match e[i]? with
  | some s => if s.isRef = true then .bad else .ok () (e.set i (.val d))
  | none => .bad
def setO (i : Nat) (ds : List D) : M Unit := fun e => match e[i]? with
  | some s => if s.isRef = true then .bad else .ok () (e.set i (.own false ds))
  | none => .bad
def fRet (fa : M D) : M Fl := bd fa fun d => pu (.rt d)
def fSetT (fa : M D) (t : D → M Unit) : M Fl := bd fa fun d => bd (noExc (t d)) fun _ => pu .nx
def fSetN (i : Nat) (fa : M (List D)) : M Fl := bd fa fun ds => bd (setO i ds) fun _ => pu .nx
def fSeq (a b : M Fl) : M Fl := bd a fun f => match f with
  | .nx => b | f => pu f
def fDrop (fa : M D) : M Fl := bd fa fun _ => pu .nx
def EvG (K : PySem.W.Frag) (mg : Str → Option Value) (g : TG) (t : D → M Unit) : Prop := ∀ Z B σ H e v d (Q : St → Hp → Prop), SR K mg Z B σ H e → At K mg B v d → (t d e).wp (fun _ e' => ∀ σ' B' H', SR K mg Z B' σ' H' e' → Same B B' → Q σ' H') (fun _ _ => False) → g v σ H Q
def PGD (X : Cx) (tg : Expr) (t : D → M Unit) : Prop := ∃ g, PG X tg g ∧ EvG X.K X.mg g t
def EvGs (K : PySem.W.Frag) (mg : Str → Option Value) (g : TGs) (t : List D → M Unit) : Prop := ∀ Z B σ H e vs ds (Q : St → Hp → Prop), SR K mg Z B σ H e → AtL K mg B vs ds → (t ds e).wp (fun _ e' => ∀ σ' B' H', SR K mg Z B' σ' H' e' → Same B B' → Q σ' H') (fun _ _ => False) → g vs σ H Q
def PGsD (X : Cx) (tg : List Expr) (t : List D → M Unit) : Prop := ∃ g, PGs X tg g ∧ EvGs X.K X.mg g t
theorem setV_wp {i : Nat} {d : D} {e : En} {Q : Unit → En → Prop} {E : D → En → Prop} (h : (setV i d e).wp Q E) : Q () (e.set i (.val d)) := by
  unfold setV at h
  cases q : e[i]? with
  | none => rw [q] at h; exact False.elim h
  | some s =>
    rw [q] at h
    have h : (if s.isRef = true then Res.bad else Res.ok () (e.set i (.val d))).wp Q E := h
    split at h
    · exact False.elim h
    · exact h
theorem setO_wp {i : Nat} {d : List D} {e : En} {Q : Unit → En → Prop} {E : D → En → Prop} (h : (setO i d e).wp Q E) : Q () (e.set i (.own false d)) := by
  unfold setO at h
  cases q : e[i]? with
  | none => rw [q] at h; exact False.elim h
  | some s =>
    rw [q] at h
    have h : (if s.isRef = true then Res.bad else Res.ok () (e.set i (.own false d))).wp Q E := h
    split at h
    · exact False.elim h
    · exact h
section
variable {X : Cx} {W : WX} {a : Expr} {fa : M D} {pos : Pos}
theorem pgd_name (i : Nat) {x : Str} (hN : X.N.Nodup) (hi : X.N[i]? = some x := by rfl) (hx : Loc X.env.scope x := by first | exact Or.inl rfl | exact Or.inr rfl) (hf : X.fn x = true ∨ X.env.scope.names.lookup x = some .local := by first | exact .inl rfl | exact .inr rfl) : PGD X (.Name x pos) (setV i) :=
  ⟨_, pg_name hN hi hx hf, fun Z B σ H e v d Q S r h => setV_wp h _ B H (S.set r) (Same.refl B)⟩
def gNilD : List D → M Unit := fun ds => li (match ds with
  | [] => some () | _ => none)
def gConsD (t : D → M Unit) (u : List D → M Unit) : List D → M Unit
  | d :: ds => bd (t d) fun _ => u ds
  | [] => li none
theorem pgsd_nil : PGsD X [] gNilD := ⟨_, pgs_nil, fun Z B σ H e vs ds Q S r h => by
  obtain ⟨_, h1, h2⟩ := wp_li h
  cases ds with
  | nil => cases r; exact ⟨rfl, h2 σ B H S (Same.refl B)⟩
  | cons d ds => cases h1⟩
theorem pgsd_cons {es : List Expr} {t : D → M Unit} {u : List D → M Unit} (h1 : PGD X a t) (h2 : PGsD X es u) (hs : (assignEach (a :: es) X.env).map (·.2) = assign a X.env :: (assignEach es X.env).map (·.2) := by rfl) : PGsD X (a :: es) (gConsD t u) := by
  obtain ⟨g, pg, eg⟩ := h1
  obtain ⟨gs, pgs, egs⟩ := h2
  refine ⟨_, pgs_cons pg pgs hs, fun Z B σ H e vs ds Q S r h => ?_⟩
  cases r with
  | nil => exact False.elim h
  | @cons v d vs ds r rr =>
    refine ⟨v, vs, rfl, eg Z B σ H e v d _ S r ((wp_bd.mp h).imp (fun _ e1 h1 σ1 B1 H1 S1 l1 => ?_) fun _ _ q => q)⟩
    exact egs Z B1 σ1 H1 e1 vs ds Q S1 (rr.mono l1) (h1.imp (fun _ e2 h2 σ2 B2 H2 S2 l2 => h2 σ2 B2 H2 S2 (l1.trans l2)) fun _ _ q => q)
/-- (a, b, ..) = a tuple of n -/
def gTupD (n : Nat) (t : List D → M Unit) : D → M Unit := fun d => bd (li (match d with
  | .tup ds => if ds.length = n then some ds else none
  | _ => none)) t
theorem pgd_tup {es : List Expr} {k n : Nat} {t : List D → M Unit} (hc : X.calm = true) (h : PGsD X es t) (hn : (assignEach es X.env).length = n := by rfl) (hst : (assignEach es X.env).findIdx? (·.1) = none := by rfl) : PGD X (.Tuple es k pos) (gTupD n t) := by
  obtain ⟨g, pg, eg⟩ := h
  refine ⟨_, pg_tup hc pg hn hst, fun Z B σ H e v d Q S r h => ?_⟩
  obtain ⟨ds, h1, h2⟩ := wp_li (wp_bd.mp h)
  cases d with
  | tup xs =>
    have h1 : (if xs.length = n then some xs else none) = some ds := h1
    split at h1
    · cases h1
      obtain ⟨p, vs, rfl, e1, r1⟩ := r.tup_inv
      exact ⟨p, vs, rfl, seqT S.bh e1, by rw [r1.length]; assumption, eg Z B σ H e vs _ Q S r1 h2⟩
    · cases h1
  | _ => cases h1
theorem psd_set {tg : Expr} {t : D → M Unit} (ha : PED X W a fa) (hg : PGD X tg t) (hs : swapsWithSole [tg] a pos.line X.env = pure false := by rfl) (hw : swappedStores [tg] a X.env = pure none := by rfl) (h1 : (assignEach [tg] X.env).map (·.2) = [assign tg X.env] := by rfl) : PSD X W (.Assign [tg] a pos) (fSetT fa t) := by
  obtain ⟨ta, pa, ea⟩ := ha
  obtain ⟨g, pg, eg⟩ := hg
  refine ⟨_, ps_asg pa pg hs hw h1, fun Z B σ H e Y S h => ?_⟩
  refine ea.then S h (fun x e' q => PXs.at q) fun d e1 v B1 H1 S1 l1 a1 h1 => ?_
  exact eg Z B1 σ H1 e1 v d _ S1 a1 ((noExc_wp (wp_bd.mp h1)).imp (fun _ e2 h2 σ2 B2 H2 S2 l2 => h2 σ2 B2 H2 S2 (l1.trans l2)) fun x e' q => q)
theorem psd_setN (i : Nat) {x : Str} {fn : M (List D)} {px : Pos} (ha : PND X W a fn) (hN : X.N.Nodup) (hi : X.N[i]? = some x := by rfl) (hx : Loc X.env.scope x := by first | exact Or.inl rfl | exact Or.inr rfl) (hf : X.fn x = true ∨ X.env.scope.names.lookup x = some .local := by first | exact .inl rfl | exact .inr rfl)
    (hs : swapsWithSole [.Name x px] a pos.line X.env = pure false := by rfl) (hw : swappedStores [.Name x px] a X.env = pure none := by rfl) (h1 : (assignEach [.Name x px] X.env).map (·.2) = [assign (.Name x px) X.env] := by rfl) : PSD X W (.Assign [.Name x px] a pos) (fSetN i fn) := by
  obtain ⟨ta, pa, ea⟩ := ha
  refine ⟨_, ps_asg pa (pg_name hN hi hx hf) hs hw h1, fun Z B σ H e Y S h => ?_⟩
  refine ea.then S h (fun x e' q => PXs.at q) fun ds e1 p xs B1 H1 S1 l1 h2 a1 hB h0 hfr h3 => ?_
  exact setO_wp (wp_bd.mp h3) _ B1 H1 (S1.setO hfr fun _ => ⟨p, xs, rfl, h2, a1, hB, fun _ => h0, fun z => nomatch z⟩) l1
theorem psd_ret (ha : PED X W a fa) : PSD X W (.Return (some a) pos) (fRet fa) := by
  obtain ⟨ta, pa, ea⟩ := ha
  refine ⟨_, ps_ret pa, fun Z B σ H e Y S h => ?_⟩
  refine ea Z B σ H e _ S ((wp_bd.mp h).imp (fun d e1 h1 v B1 H1 S1 l1 a1 => h1 v σ B1 H1 S1 l1 a1) fun x e' q => PXs.at q)
/-- return of a new list: the caller's own -/
def fRetL (fa : M (List D)) : M Fl := bd fa fun ds => pu (.rn ds)
theorem psd_retL {fn : M (List D)} (ha : PND X W a fn) : PSD X W (.Return (some a) pos) (fRetL fn) := by
  obtain ⟨ta, pa, ea⟩ := ha
  refine ⟨_, ps_ret pa, fun Z B σ H e Y S h => ?_⟩
  exact ea Z B σ H e _ S ((wp_bd.mp h).imp (fun ds e1 h1 p xs B1 H1 S1 l1 a1 a2 a3 a4 a5 => h1 p xs σ B1 H1 S1 l1 a1 a2 a3 a4 a5) fun x e' q => PXs.at q)
theorem psd_retN : PSD X W (.Return none pos) (pu (.rt .non)) := ⟨_, ps_retN, fun Z B σ H e Y S h => h .non σ B H S (Same.refl B) .non⟩
theorem psd_pass : PSD X W (.Pass pos) (pu .nx) := ⟨_, ps_pass, fun Z B σ H e Y S h => h σ B H S (Same.refl B)⟩
theorem psd_break : PSD X W (.Break pos) (pu .bk) := ⟨_, ps_break, fun Z B σ H e Y S h => h σ B H S (Same.refl B)⟩
theorem psd_cont : PSD X W (.Continue pos) (pu .ct) := ⟨_, ps_continue, fun Z B σ H e Y S h => h σ B H S (Same.refl B)⟩
theorem psd_never {st : Stmt} : PSD X W st (fun _ => .bad) := ⟨_, ps_never, fun Z B σ H e Y S h => h⟩
theorem psd_expr (ha : PED X W a fa) (hs : swapsWith a none pos.line X.env = pure false := by rfl) : PSD X W (.Expr a pos) (fDrop fa) := by
  obtain ⟨ta, pa, ea⟩ := ha
  refine ⟨_, ps_expr pa hs, fun Z B σ H e Y S h => ?_⟩
  refine ea Z B σ H e _ S ((wp_bd.mp h).imp (fun d e1 h1 v B1 H1 S1 l1 a1 => h1 σ B1 H1 S1 l1) fun x e' q => PXs.at q)
theorem psd_if {c : Expr} {sa sb : List Stmt} {gc : M Bool} {ga gb : M Fl} (hc : PBD X W c gc) (ha : PSsD X W sa ga) (hb : PSsD X W sb gb) : PSD X W (.If c sa sb pos) (fIf gc ga gb) := by
  obtain ⟨tc, pc, ec⟩ := hc
  obtain ⟨ta, pa, ea⟩ := ha
  obtain ⟨tb, pb, eb⟩ := hb
  refine ⟨_, ps_if pc pa pb, fun Z B σ H e Y S h => ?_⟩
  refine ec.then S h (fun x e' q => PXs.at q) fun d e1 B1 H1 S1 l1 h1 => ?_
  cases d with
  | true => exact ea Z B1 σ H1 e1 Y S1 (upF l1 h1)
  | false => exact eb Z B1 σ H1 e1 Y S1 (upF l1 h1)
theorem pssd_nil : PSsD X W [] (pu .nx) := ⟨_, pss_nil, fun Z B σ H e Y S h => h σ B H S (Same.refl B)⟩
theorem pssd_one {st : Stmt} {g : M Fl} (h : PSD X W st g) : PSsD X W [st] g := by
  obtain ⟨t, p, e⟩ := h
  exact ⟨_, pss_one p, e⟩
theorem pssd_cons {st : Stmt} {rest : List Stmt} {g u : M Fl} (h1 : PSD X W st g) (h2 : PSsD X W rest u) : PSsD X W (st :: rest) (fSeq g u) := by
  obtain ⟨t, p, et⟩ := h1
  obtain ⟨t2, p2, e2⟩ := h2
  refine ⟨_, pss_cons p p2, fun Z B σ H e Y S h => ?_⟩
  refine et Z B σ H e _ S ((wp_bd.mp h).imp (fun f e1 h1 => ?_) fun x e' q => q)
  cases f with
  | nx => exact fun σ' B' H' S' l' => e2 Z B' σ' H' e1 Y S' (upF l' h1)
  | rt d => exact h1
  | bk => exact h1
  | ct => exact h1
  | rn ds => exact h1
theorem pssd_never {sts : List Stmt} : PSsD X W sts (fun _ => .bad) := ⟨_, pss_never, fun Z B σ H e Y S h => h⟩
/-- name op= e, ints -/
def fAug (i : Nat) (o : D → D → M D) (fa : M D) : M Fl := bd (fVar i) fun d => bd fa fun d2 => bd (o d d2) fun d => bd (setV i d) fun _ => pu .nx
theorem psd_aug (i : Nat) {x : Str} {op : Operator} {f : Int → Int → Int} {px : Pos} (ho : PIp X op (ipI f)) (ha : PED X W a fa) (hN : X.N.Nodup) (hi : X.N[i]? = some x := by rfl) (hx : Loc X.env.scope x := by first | exact Or.inl rfl | exact Or.inr rfl) (hf : X.fn x = true ∨ X.env.scope.names.lookup x = some .local := by first | exact .inl rfl | exact .inr rfl) :
    PSD X W (.AugAssign (.Name x px) op a pos) (fAug i (opI (fun _ _ => true) fun i j => .int (f i j)) fa) := by
  obtain ⟨ta, pa, ea⟩ := ha
  refine ⟨_, ps_aug hN hi hx pa ho hf, fun Z B σ H e Y S h => ?_⟩
  have h := wp_bd.mp h
  unfold fVar at h
  cases q : e[i]? with
  | none => rw [q] at h; exact False.elim h
  | some s =>
    rw [q] at h
    cases s with
    | val d =>
      obtain ⟨v, ev, r⟩ := S.sl i _ q
      refine ⟨v, ev, ?_⟩
      refine ea.then S h (fun x e' q => PXs.at q) fun d2 e1 v2 B1 H1 S1 l1 a1 h1 => ?_
      obtain ⟨i1, j1, rfl, rfl, _, h2⟩ := opI_wp (wp_bd.mp h1)
      exact ⟨i1, j1, r.int_inv, a1.int_inv, setV_wp (wp_bd.mp h2) _ B1 H1 (S1.set (.int _)) l1⟩
    | _ => exact False.elim h
end
end Dl

set_option maxHeartbeats 1000000
/-! Layer D, part 4: lists of one's own, loops, comprehensions, defs. -/
namespace Dl
open PySem PySem.Spec PyProof.Rows L2

section
variable {K : PySem.W.Frag} {mg : Str → Option Value} {Z : Ent} {B B' : Hp} {σ : St} {H H' : Hp} {e e' : En} {p : Addr}
/-- something that is neither known nor a slot's is written -/
theorem SR.poke {o : HO} (S : SR K mg Z B σ H e) (hB : B p = none) (h0 : Z.H0 p = none) (hf : Free σ e p) : SR K mg Z B σ (upd H p o) e := by
  refine ⟨S.le, fun b u q => ?_, fun b u q n => ?_, S.nb, fun b u q => ?_, S.ln, fun i s q => (S.sl i s q).mono (Same.refl B) fun a u hs e1 h1 h2 => ?_, S.ds⟩
  · rw [upd_ne (ne_of_none q hB)]; exact S.bh b u q
  · rw [upd_ne (ne_of_none q h0)]; exact S.fh b u q n
  · by_cases hb : b = p
    · subst hb; exact ⟨o, upd_same⟩
    · obtain ⟨o', z⟩ := S.dm b u q
      exact ⟨o', by rw [upd_ne hb]; exact z⟩
  · have ne : a ≠ p := fun z => hf i ⟨s, q, hs⟩ (by rw [e1, z])
    exact ⟨h2, by rw [upd_ne ne]; exact h1⟩
theorem SR.own {i : Nat} {r : Bool} {ds : List D} (S : SR K mg Z B σ H e) (q : e[i]? = some (.own r ds)) : ∃ a xs, σ[i]? = some (some (.ref a)) ∧ H a = some (.lst xs) ∧ AtL K mg B xs ds ∧ OwnA Z B i r a := S.sl i _ q
theorem SR.putL {i : Nat} {r : Bool} {ds ds' : List D} {a : Addr} {xs : List V} (S : SR K mg Z B σ H e) (q : e[i]? = some (.own r ds)) (ha : σ[i]? = some (some (.ref a))) (hx : AtL K mg B xs ds') : SR K mg Z B σ (upd H a (.lst xs)) (e.set i (.own r ds')) := by
  obtain ⟨a', xs', e1, h1, h2, h3⟩ := S.own q
  rw [ha] at e1
  cases e1
  exact S.write ⟨_, q, rfl⟩ ha ⟨a, xs, ha, upd_same, hx, h3⟩ rfl
end

/-! ### lists of one's own: read, appended to, stored into -/
def appO (i : Nat) (d : D) : M Unit := fun e => match e[i]? with
  | some (.own r ds) => if ds.length < 16777216 then .ok () (e.set i (.own r (ds ++ [d]))) else .bad
  | _ => .bad
def extO (i : Nat) (d : D) : M Unit := fun e => match e[i]?, d with
  | some (.own r ds), .lst xs => if ds.length + xs.length ≤ 16777216 then .ok () (e.set i (.own r (ds ++ xs))) else .bad
  | _, _ => .bad
def putOI (i : Nat) (k d : D) : M Unit := fun e => match e[i]?, k with
  | some (.own r ds), .int z => (match ixN ds.length z with
    | some j => .ok () (e.set i (.own r (ds.set j d))) | none => .bad)
  | _, _ => .bad
def getOI (i : Nat) (k : D) : M D := fun e => match e[i]?, k with
  | some (.own r ds), .int z => (match L2.atI ds z with
    | some d => .ok d e | none => .bad)
  | _, _ => .bad
/-- the slot holds a list of one's own -/
def isL (i : Nat) : M Unit := fun e => match e[i]? with
  | some (.own _ _) => .ok () e | _ => .bad
theorem isL_wp {i : Nat} {e : En} {Q : Unit → En → Prop} {E : D → En → Prop} (h : (isL i e).wp Q E) : (∃ r ds, e[i]? = some (.own r ds)) ∧ Q () e := by
  unfold isL at h
  cases q : e[i]? with
  | none => rw [q] at h; exact False.elim h
  | some s =>
    rw [q] at h
    cases s with
    | own r ds => exact ⟨⟨r, ds, rfl⟩, h⟩
    | _ => exact False.elim h
def fApp (i : Nat) (fa : M D) : M Fl := bd (isL i) fun _ => bd fa fun d => bd (noExc (appO i d)) fun _ => pu .nx
def fExt (i : Nat) (fa : M D) : M Fl := bd (isL i) fun _ => bd fa fun d => bd (noExc (extO i d)) fun _ => pu .nx
def fPut (i : Nat) (fv fk : M D) : M Fl := bd fv fun d => bd (isL i) fun _ => bd fk fun k => bd (noExc (putOI i k d)) fun _ => pu .nx
def fGet (i : Nat) (fk : M D) : M D := bd (isL i) fun _ => bd fk fun k => getOI i k
/-- one's own list becomes known -/
def fFrz (i : Nat) : M D := fun e => match e[i]? with
  | some (.own false ds) => .ok (.lst ds) (e.set i (.val (.lst ds)))
  | _ => .bad
def fLenO (i : Nat) : M D := fun e => match e[i]? with
  | some (.own _ ds) => .ok (.int ds.length) e
  | _ => .bad
section
variable {X : Cx} {W : WX} {a b : Expr} {fa fk : M D} {pos px apos : Pos} {x : Str}
theorem appO_wp {i : Nat} {d : D} {e : En} {Q : Unit → En → Prop} {E : D → En → Prop} (h : (appO i d e).wp Q E) : ∃ r ds, e[i]? = some (.own r ds) ∧ ds.length < 16777216 ∧ Q () (e.set i (.own r (ds ++ [d]))) := by
  unfold appO at h
  cases q : e[i]? with
  | none => rw [q] at h; exact False.elim h
  | some s =>
    rw [q] at h
    cases s with
    | own r ds =>
      have h : (if ds.length < 16777216 then Res.ok () (e.set i (.own r (ds ++ [d]))) else .bad).wp Q E := h
      split at h
      · exact ⟨r, ds, rfl, by assumption, h⟩
      · exact False.elim h
    | _ => exact False.elim h
theorem extO_wp {i : Nat} {d : D} {e : En} {Q : Unit → En → Prop} {E : D → En → Prop} (h : (extO i d e).wp Q E) : ∃ r ds xs, e[i]? = some (.own r ds) ∧ d = .lst xs ∧ ds.length + xs.length ≤ 16777216 ∧ Q () (e.set i (.own r (ds ++ xs))) := by
  unfold extO at h
  cases q : e[i]? with
  | none => rw [q] at h; cases d <;> exact False.elim h
  | some s =>
    rw [q] at h
    cases s with
    | own r ds =>
      cases d with
      | lst xs =>
        have h : (if ds.length + xs.length ≤ 16777216 then Res.ok () (e.set i (.own r (ds ++ xs))) else .bad).wp Q E := h
        split at h
        · exact ⟨r, ds, xs, rfl, rfl, by assumption, h⟩
        · exact False.elim h
      | _ => exact False.elim h
    | _ => cases d <;> exact False.elim h
theorem putOI_wp {i : Nat} {k d : D} {e : En} {Q : Unit → En → Prop} {E : D → En → Prop} (h : (putOI i k d e).wp Q E) : ∃ r ds z j, e[i]? = some (.own r ds) ∧ k = .int z ∧ ixN ds.length z = some j ∧ Q () (e.set i (.own r (ds.set j d))) := by
  unfold putOI at h
  cases q : e[i]? with
  | none => rw [q] at h; cases k <;> exact False.elim h
  | some s =>
    rw [q] at h
    cases s with
    | own r ds =>
      cases k with
      | int z =>
        have h : (match ixN ds.length z with
          | some j => Res.ok () (e.set i (.own r (ds.set j d))) | none => .bad).wp Q E := h
        cases hj : ixN ds.length z with
        | none => rw [hj] at h; exact False.elim h
        | some j => rw [hj] at h; exact ⟨r, ds, z, j, rfl, rfl, hj, h⟩
      | _ => exact False.elim h
    | _ => cases k <;> exact False.elim h
theorem getOI_wp {i : Nat} {k : D} {e : En} {Q : D → En → Prop} {E : D → En → Prop} (h : (getOI i k e).wp Q E) : ∃ r ds z d, e[i]? = some (.own r ds) ∧ k = .int z ∧ L2.atI ds z = some d ∧ Q d e := by
  unfold getOI at h
  cases q : e[i]? with
  | none => rw [q] at h; cases k <;> exact False.elim h
  | some s =>
    rw [q] at h
    cases s with
    | own r ds =>
      cases k with
      | int z =>
        have h : (match L2.atI ds z with
          | some d => Res.ok d e | none => .bad).wp Q E := h
        cases hj : L2.atI ds z with
        | none => rw [hj] at h; exact False.elim h
        | some j => rw [hj] at h; exact ⟨r, ds, z, j, rfl, rfl, hj, h⟩
      | _ => exact False.elim h
    | _ => cases k <;> exact False.elim h
theorem psd_app (i : Nat) {cpos : Pos} (ha : PED X W a fa) (hN : X.N[i]? = some x := by rfl) (hv : Vis X.env.scope x := by first | exact Or.inl rfl | exact Or.inr (Or.inl rfl) | exact Or.inr (Or.inr rfl)) (hd : (x == ("__debug__" : Str)) = false := by decide) (hcd : (x == ("__classdict__" : Str)) = false := by decide)
    (hbase : attributeBase (.Name x px) "append" X.env (eval (.Name x px) X.env) = eval (.Name x px) X.env := by rfl)
    (hfew : ((backTo cpos (starEach [a] X.env)).all (fun x => !x.1) && (backToKw cpos (keywordEach [] X.env)).all (fun x => x.1.isSome) && decide ([a].length + ([] : List Keyword).length + (if ([] : List Keyword).isEmpty then 0 else 1) < 30)) = true := by rfl)
    (hline : (apos.endLine == cpos.line) = true := by rfl) (hs : starEach [a] X.env = (false, eval a X.env) :: starEach [] X.env := by rfl) (hplain : (backTo cpos (starEach [] X.env)).any (·.1) = false := by rfl)
    (hw : swapsWith (.Call (.Attribute (.Name x px) "append" apos) [a] [] cpos) none pos.line X.env = pure false := by rfl) : PSD X W (.Expr (.Call (.Attribute (.Name x px) "append" apos) [a] [] cpos) pos) (fApp i fa) := by
  obtain ⟨ta, pa, ea⟩ := ha
  refine ⟨_, ps_expr (pe_bm PySem.F.plainAttrs_list PySem.F.slot_list_append PySem.F.type_list_append mt_append (pe_var hN hv hd hcd) (pa_cons pa pa_nil hs) hbase hfew hline hs hplain) hw, fun Z B σ H e Y S h => ?_⟩
  obtain ⟨⟨r, ds, q⟩, h⟩ := isL_wp (wp_bd.mp h)
  obtain ⟨p, xs, e1, h1, _⟩ := S.own q
  refine ⟨_, e1, .inl ⟨rfl, _, SqL.of h1⟩, ?_⟩
  refine ea.then S h (fun x e' q => PXs.at q) fun d e2 v B1 H1 S1 l1 a1 h2 => ?_
  obtain ⟨r2, ds2, q2, hz, h3⟩ := appO_wp (noExc_wp (wp_bd.mp h2))
  obtain ⟨p2, xs2, e3, w1, w2, _⟩ := S1.own q2
  rw [e1] at e3
  cases e3
  exact ⟨p, xs2, v, rfl, rfl, w1, by rw [sizeLine_eq, w2.length]; exact hz, h3 σ B1 _ (S1.putL q2 e1 (w2.app (.cons a1 .nil))) l1⟩
theorem psd_ext (i : Nat) {cpos : Pos} (ha : PED X W a fa) (hN : X.N[i]? = some x := by rfl) (hv : Vis X.env.scope x := by first | exact Or.inl rfl | exact Or.inr (Or.inl rfl) | exact Or.inr (Or.inr rfl)) (hd : (x == ("__debug__" : Str)) = false := by decide) (hcd : (x == ("__classdict__" : Str)) = false := by decide)
    (hbase : attributeBase (.Name x px) "extend" X.env (eval (.Name x px) X.env) = eval (.Name x px) X.env := by rfl)
    (hfew : ((backTo cpos (starEach [a] X.env)).all (fun x => !x.1) && (backToKw cpos (keywordEach [] X.env)).all (fun x => x.1.isSome) && decide ([a].length + ([] : List Keyword).length + (if ([] : List Keyword).isEmpty then 0 else 1) < 30)) = true := by rfl)
    (hline : (apos.endLine == cpos.line) = true := by rfl) (hs : starEach [a] X.env = (false, eval a X.env) :: starEach [] X.env := by rfl) (hplain : (backTo cpos (starEach [] X.env)).any (·.1) = false := by rfl)
    (hw : swapsWith (.Call (.Attribute (.Name x px) "extend" apos) [a] [] cpos) none pos.line X.env = pure false := by rfl) : PSD X W (.Expr (.Call (.Attribute (.Name x px) "extend" apos) [a] [] cpos) pos) (fExt i fa) := by
  obtain ⟨ta, pa, ea⟩ := ha
  refine ⟨_, ps_expr (pe_bm PySem.F.plainAttrs_list PySem.F.slot_list_extend PySem.F.type_list_extend mt_extend (pe_var hN hv hd hcd) (pa_cons pa pa_nil hs) hbase hfew hline hs hplain) hw, fun Z B σ H e Y S h => ?_⟩
  obtain ⟨⟨r, ds, q⟩, h⟩ := isL_wp (wp_bd.mp h)
  obtain ⟨p, xs, e1, h1, _⟩ := S.own q
  refine ⟨_, e1, .inl ⟨rfl, _, SqL.of h1⟩, ?_⟩
  refine ea.then S h (fun x e' q => PXs.at q) fun d e2 v B1 H1 S1 l1 a1 h2 => ?_
  obtain ⟨r2, ds2, ys, q2, rfl, hz, h3⟩ := extO_wp (noExc_wp (wp_bd.mp h2))
  obtain ⟨p2, xs2, e3, w1, w2, _⟩ := S1.own q2
  rw [e1] at e3
  cases e3
  obtain ⟨p3, zs, rfl, g1, g2⟩ := a1.lst_inv
  exact ⟨p, p3, xs2, zs, rfl, rfl, w1, S1.bh _ _ g1, sz (by rw [w2.length, g2.length]; exact hz), h3 σ B1 _ (S1.putL q2 e1 (w2.app g2)) l1⟩
theorem psd_put (i : Nat) {ps : Pos} (hv' : PED X W a fa) (hk : PED X W b fk) (hN : X.N[i]? = some x := by rfl) (hv : Vis X.env.scope x := by first | exact Or.inl rfl | exact Or.inr (Or.inl rfl) | exact Or.inr (Or.inr rfl)) (hd : (x == ("__debug__" : Str)) = false := by decide) (hcd : (x == ("__classdict__" : Str)) = false := by decide)
    (has : ∀ v, assign (.Subscript (.Name x px) b ps) X.env v = (do
      let ov ← holding [v] (eval (.Name x px) X.env)
      let iv ← holding [v, ov] (eval b X.env)
      standAt ps
      holding [v, ov, iv] (setItem ov iv v)
      release [v, ov, iv] []) := by intro _; rfl)
    (hs : swapsWithSole [.Subscript (.Name x px) b ps] a pos.line X.env = pure false := by rfl) (hw : swappedStores [.Subscript (.Name x px) b ps] a X.env = pure none := by rfl) (h1 : (assignEach [.Subscript (.Name x px) b ps] X.env).map (·.2) = [assign (.Subscript (.Name x px) b ps) X.env] := by rfl) :
    PSD X W (.Assign [.Subscript (.Name x px) b ps] a pos) (fPut i fa fk) := by
  obtain ⟨ta, pa, ea⟩ := hv'
  obtain ⟨tb, pb, eb⟩ := hk
  refine ⟨_, ps_asg pa (pg_sub (pe_var hN hv hd hcd) pb set_list has) hs hw h1, fun Z B σ H e Y S h => ?_⟩
  refine ea.then S h (fun x e' q => PXs.at q) fun d e2 v B1 H1 S1 l1 a1 h2 => ?_
  obtain ⟨⟨r, ds, q⟩, h⟩ := isL_wp (wp_bd.mp h2)
  obtain ⟨p, xs, e1, h1, _⟩ := S1.own q
  refine ⟨_, e1, ?_⟩
  refine eb.then S1 h (fun x e' q => PX.up l1 (PXs.at q)) fun k e3 vk B2 H2 S2 l2 a2 h3 => ?_
  obtain ⟨r2, ds2, z, j, q2, rfl, hj, h4⟩ := putOI_wp (noExc_wp (wp_bd.mp h3))
  obtain ⟨p2, xs2, e3, w1, w2, _⟩ := S2.own q2
  rw [e1] at e3
  cases e3
  exact ⟨p, xs2, z, j, rfl, a2.int_inv, w1, by rw [w2.length]; exact hj, h4 σ B2 _ (S2.putL q2 e1 (AtL.set (a1.mono l2) j w2)) (l1.trans l2)⟩
theorem ped_get (i : Nat) {ps : Pos} (hk : PED X W b fk) (hN : X.N[i]? = some x := by rfl) (hv : Vis X.env.scope x := by first | exact Or.inl rfl | exact Or.inr (Or.inl rfl) | exact Or.inr (Or.inr rfl)) (hd : (x == ("__debug__" : Str)) = false := by decide) (hcd : (x == ("__classdict__" : Str)) = false := by decide)
    (hs : PlainIx b := by exact fun _ _ => rfl) : PED X W (.Subscript (.Name x px) b ps) (fGet i fk) := by
  obtain ⟨tb, pb, eb⟩ := hk
  refine ⟨_, pe_ix ix_list (pe_var hN hv hd hcd) pb hs, fun Z B σ H e Q S h => ?_⟩
  obtain ⟨⟨r, ds, q⟩, h⟩ := isL_wp (wp_bd.mp h)
  obtain ⟨p, xs, e1, h1, _⟩ := S.own q
  refine ⟨_, e1, ?_⟩
  refine eb.then S h (fun x e' q => q) fun k e3 vk B2 H2 S2 l2 a2 h3 => ?_
  obtain ⟨r2, ds2, z, d, q2, rfl, hj, h4⟩ := getOI_wp h3
  obtain ⟨p2, xs2, e3, w1, w2, _⟩ := S2.own q2
  rw [e1] at e3
  cases e3
  obtain ⟨v, g1, g2⟩ := w2.atI hj
  exact ⟨p, xs2, z, v, rfl, a2.int_inv, SqL.of w1, g1, h4 v B2 H2 S2 l2 g2⟩
theorem ped_frz (i : Nat) (hN : X.N[i]? = some x := by rfl) (hv : Vis X.env.scope x := by first | exact Or.inl rfl | exact Or.inr (Or.inl rfl) | exact Or.inr (Or.inr rfl)) (hd : (x == ("__debug__" : Str)) = false := by decide) (hcd : (x == ("__classdict__" : Str)) = false := by decide) : PED X W (.Name x px) (fFrz i) := by
  refine ⟨_, pe_var hN hv hd hcd, fun Z B σ H e Q S h => ?_⟩
  unfold fFrz at h
  cases q : e[i]? with
  | none => rw [q] at h; exact False.elim h
  | some s =>
    rw [q] at h
    cases s with
    | own r ds =>
      cases r with
      | true => exact False.elim h
      | false =>
        obtain ⟨p, xs, e1, h1, h2, h3⟩ := S.own q
        refine ⟨_, e1, ?_⟩
        -- the slot is forgotten, the list known, the slot told again
        have S1 : SR X.K X.mg Z B σ H (e.set i .no) := S.weak (fun _ => trivial) fun z => nomatch z
        have hf : Free σ (e.set i .no) p := fun j hj ej => by
          rcases ownAt_set hj with ⟨_, z⟩ | ⟨nj, z⟩
          · cases z
          · exact S.ds j i p nj z ⟨_, q, rfl⟩ ej e1
        obtain ⟨S2, l⟩ := S1.freeze h1 h3.1 (h3.2.1 rfl) hf
        have at' : At X.K X.mg (upd B p (.lst xs)) (.ref p) (.lst ds) := .lst upd_same (h2.mono l)
        have S3 : SR X.K X.mg Z (upd B p (.lst xs)) σ H ((e.set i .no).set i (.val (.lst ds))) := S2.weak (fun _ => ⟨_, e1, at'⟩) fun z => nomatch z
        rw [List.set_set] at S3
        exact h _ _ _ S3 l at'
    | _ => exact False.elim h
end

/-! ### what is walked -/
structure Walks (K : PySem.W.Frag) (mg : Str → Option Value) (J : It) (B' : Hp) (ds : List D) : Prop where
  go : ∀ (i : Nat) d Z σ1 H1 e1 B1, Same B' B1 → SR K mg Z B1 σ1 H1 e1 → ds[i]? = some d → J.go i H1 ∧ ∀ x H2, J.yld i H1 x H2 → (∃ B2, SR K mg Z B2 σ1 H2 e1 ∧ Same B1 B2 ∧ At K mg B2 x d) ∧ ∀ a o, H1 a = some o → H2 a = some o
  stop : ∀ i Z σ1 H1 e1 B1, Same B' B1 → SR K mg Z B1 σ1 H1 e1 → ds.length ≤ i → J.stop i H1
def EvI (K : PySem.W.Frag) (mg : Str → Option Value) (W : WX) (wi : TI) (f : M (List D)) : Prop := ∀ Z B σ H e (R : It → Hp → Prop), SR K mg Z B σ H e → (f e).wp (fun ds e' => ∀ J B' H', SR K mg Z B' σ H' e' → Same B B' → Walks K mg J B' ds → R J H') (PX K mg Z B σ W) → wi σ H R
def PID (X : Cx) (W : WX) (tg iter : Expr) (f : M (List D)) : Prop := ∃ wi, PI X tg iter wi ∧ EvI X.K X.mg W wi f
theorem pi_or {X : Cx} {tg iter : Expr} {w1 w2 : TI} (h1 : PI X tg iter w1) (h2 : PI X tg iter w2) : PI X tg iter (fun σ H R => w1 σ H R ∨ w2 σ H R) := ⟨fun pins s σ H R I h => h.elim (h1.run pins s σ H R I) (h2.run pins s σ H R I)⟩
section
variable {X : Cx} {W : WX} {tg a b : Expr} {fa : M D} {K : PySem.W.Frag} {mg : Str → Option Value} {B' : Hp} {p : Addr}
theorem walks_list {xs : List V} {ds : List D} (h : SqL K B' p xs) (r : AtL K mg B' xs ds) : Walks K mg (Itl K p) B' ds where
  go := fun i d Z σ1 H1 e1 B1 l S hd => by
    obtain ⟨v, hv, rv⟩ := r.get hd
    refine ⟨⟨xs, v, S.bh.seq (l.seq h), hv⟩, fun x H2 y => ?_⟩
    obtain ⟨e, y⟩ := y
    subst e
    have := y xs (S.bh.seq (l.seq h))
    rw [hv] at this
    cases this
    exact ⟨⟨B1, S, Same.refl B1, rv.mono l⟩, fun _ _ z => z⟩
  stop := fun i Z σ1 H1 e1 B1 l S hi => ⟨xs, S.bh.seq (l.seq h), by rw [r.length]; exact hi⟩
theorem walks_tup {xs : List V} {ds : List D} (h : SqT K B' p xs) (r : AtL K mg B' xs ds) : Walks K mg (Itt K p) B' ds where
  go := fun i d Z σ1 H1 e1 B1 l S hd => by
    obtain ⟨v, hv, rv⟩ := r.get hd
    refine ⟨⟨xs, v, seqT S.bh (seqT l h), hv⟩, fun x H2 y => ?_⟩
    obtain ⟨e, y⟩ := y
    subst e
    have := y xs (seqT S.bh (seqT l h))
    rw [hv] at this
    cases this
    exact ⟨⟨B1, S, Same.refl B1, rv.mono l⟩, fun _ _ z => z⟩
  stop := fun i Z σ1 H1 e1 B1 l S hi => ⟨xs, seqT S.bh (seqT l h), by rw [r.length]; exact hi⟩
/-- the items of what is walked -/
def dWalk : D → M (List D) := fun d => li (match d with
  | .lst xs => some xs | .tup xs => some xs | .scr ns => some (ns.map D.int) | _ => none)
theorem pid_seq (ha : PED X W a fa) : PID X W tg a (bd fa dWalk) := by
  obtain ⟨ta, pa, ea⟩ := ha
  refine ⟨_, pi_or (pi_list pa) (pi_tup pa), fun Z B σ H e R S h => ?_⟩
  -- which of the two is known once the value is
  have key : (fa e).wp (fun d e' => (∃ ds, d = .tup ds) ∨ ∀ ds, d ≠ .tup ds) (fun _ _ => True) := by
    cases q : fa e with
    | ok d e' => exact Classical.byCases (fun z => Or.inl z) fun z => Or.inr fun ds hd => z ⟨ds, hd⟩
    | exc x e' => trivial
    | bad => have := wp_bd.mp h; rw [q] at this; exact this
  cases q : fa e with
  | bad => have := wp_bd.mp h; rw [q] at this; exact False.elim this
  | exc x e' =>
    refine .inl (ea Z B σ H e _ S ?_)
    have := wp_bd.mp h
    rw [q] at this ⊢
    exact this
  | ok d e' =>
    have h' := wp_bd.mp h
    rw [q] at h'
    obtain ⟨ds, h2, h3⟩ := wp_li h'
    cases d with
    | tup xs =>
      cases h2
      refine .inr (ea Z B σ H e _ S ?_)
      rw [q]
      intro v B1 H1 S1 l1 a1
      obtain ⟨p, vs, rfl, g1, g2⟩ := a1.tup_inv
      exact ⟨p, rfl, ⟨vs, seqT S1.bh g1⟩, h3 _ B1 H1 S1 l1 (walks_tup g1 g2)⟩
    | lst xs =>
      cases h2
      refine .inl (ea Z B σ H e _ S ?_)
      rw [q]
      intro v B1 H1 S1 l1 a1
      obtain ⟨p, vs, rfl, g1, g2⟩ := a1.lst_inv
      exact ⟨p, rfl, ⟨vs, SqL.of (S1.bh _ _ g1)⟩, h3 _ B1 H1 S1 l1 (walks_list (SqL.of g1) g2)⟩
    | scr ns =>
      cases h2
      refine .inl (ea Z B σ H e _ S ?_)
      rw [q]
      intro v B1 H1 S1 l1 a1
      obtain ⟨p, rfl, g1⟩ := a1.scr_inv
      exact ⟨p, rfl, ⟨_, S1.bh.seq g1⟩, h3 _ B1 H1 S1 l1 (walks_list g1 (.of_ints ns))⟩
    | _ => cases h2
end
end Dl

set_option maxHeartbeats 1000000
/-! Layer D, part 5: loops, comprehensions, defs. -/
namespace Dl
open PySem PySem.Spec PyProof.Rows L2 RZ

/-! ### ranges, zip, enumerate -/
def rangeD (lo : Int) (n : Nat) : List D := (List.range n).map fun (i : Nat) => D.int (lo + (i : Int))
def dRng1 : List D → M (List D) := fun ds => li (match ds with
  | [.int j] => if -(2 ^ 62) ≤ j ∧ j < 2 ^ 62 then some (rangeD 0 j.toNat) else none
  | _ => none)
def dRng2 : List D → M (List D) := fun ds => li (match ds with
  | [.int i, .int j] => if (-(2 ^ 62) ≤ i ∧ i < 2 ^ 62) ∧ -(2 ^ 62) ≤ j ∧ j < 2 ^ 62 then some (rangeD i (j - i).toNat) else none
  | _ => none)
def zipD : List D → List D → List D
  | x :: xs, y :: ys => .tup [x, y] :: zipD xs ys
  | _, _ => []
def dZip : List D → M (List D) := fun ds => li (match ds with
  | [.lst xs, .lst ys] => some (zipD xs ys)
  | [.tup xs, .tup ys] => some (zipD xs ys)
  | _ => none)
def enumD : Nat → List D → List D
  | n, x :: xs => .tup [.int (n : Nat), x] :: enumD (n + 1) xs
  | _, [] => []
def dEnum : List D → M (List D) := fun ds => li (match ds with
  | [.lst xs] => some (enumD 0 xs)
  | _ => none)
section
variable {K : PySem.W.Frag} {mg : Str → Option Value} {B' : Hp} {p p2 : Addr}
theorem rangeD_get {lo : Int} {n i : Nat} {d : D} (h : (rangeD lo n)[i]? = some d) : i < n ∧ d = .int (lo + (i : Int)) := by
  unfold rangeD at h
  rw [List.getElem?_map] at h
  by_cases hi : i < n
  · rw [List.getElem?_range hi] at h
    cases h
    exact ⟨hi, rfl⟩
  · rw [List.getElem?_eq_none (by simpa using hi)] at h
    cases h
theorem rangeD_len (lo : Int) (n : Nat) : (rangeD lo n).length = n := by simp [rangeD]
theorem walks_range {lo : Int} {n : Nat} : Walks K mg (Itr lo n) B' (rangeD lo n) where
  go := fun i d Z σ1 H1 e1 B1 l S hd => by
    obtain ⟨hi, rfl⟩ := rangeD_get hd
    refine ⟨hi, fun x H2 y => ?_⟩
    obtain ⟨e, y⟩ := y
    subst e y
    exact ⟨⟨B1, S, Same.refl B1, .int _⟩, fun _ _ z => z⟩
  stop := fun i Z σ1 H1 e1 B1 l S hi => by rw [rangeD_len] at hi; exact hi
theorem zipD_get : ∀ {xs ys : List D} {i : Nat} {d : D}, (zipD xs ys)[i]? = some d → ∃ x y, xs[i]? = some x ∧ ys[i]? = some y ∧ d = .tup [x, y]
  | x :: xs, y :: ys, 0, d, h => by simp [zipD] at h; exact ⟨x, y, rfl, rfl, h.symm⟩
  | x :: xs, y :: ys, i + 1, d, h => by
    obtain ⟨a, b, h1, h2, h3⟩ := zipD_get (xs := xs) (ys := ys) (i := i) (d := d) (by simpa [zipD] using h)
    exact ⟨a, b, by simpa using h1, by simpa using h2, h3⟩
  | [], _, _, _, h => by simp [zipD] at h
  | _ :: _, [], _, _, h => by simp [zipD] at h
theorem zipD_len : ∀ {xs ys : List D} {i : Nat}, (zipD xs ys).length ≤ i → xs.length ≤ i ∨ ys.length ≤ i
  | x :: xs, y :: ys, 0, h => by simp [zipD] at h
  | x :: xs, y :: ys, i + 1, h => by
    have := zipD_len (xs := xs) (ys := ys) (i := i) (by simpa [zipD] using h)
    simpa using this
  | [], _, _, _ => .inl (by simp)
  | _ :: _, [], _, _ => .inr (by simp)
theorem enumD_get : ∀ {xs : List D} {n i : Nat} {d : D}, (enumD n xs)[i]? = some d → ∃ x, xs[i]? = some x ∧ d = .tup [.int ((n + i : Nat) : Int), x]
  | x :: xs, n, 0, d, h => by simp [enumD] at h; exact ⟨x, rfl, h.symm⟩
  | x :: xs, n, i + 1, d, h => by
    obtain ⟨a, h1, h2⟩ := enumD_get (xs := xs) (n := n + 1) (i := i) (d := d) (by simpa [enumD] using h)
    refine ⟨a, by simpa using h1, ?_⟩
    rw [h2]
    congr 4
    omega
  | [], _, _, _, h => by simp [enumD] at h
theorem enumD_len : ∀ {xs : List D} {n : Nat}, (enumD n xs).length = xs.length
  | [], _ => rfl
  | x :: xs, n => by simp [enumD, enumD_len (xs := xs)]
theorem atL_nil {K : PySem.W.Frag} {mg : Str → Option Value} {B : Hp} : AtL K mg B [] [] := .nil
theorem walks_zip {xs ys : List V} {ds es : List D} (h : SqL K B' p xs) (r : AtL K mg B' xs ds) (h2 : SqL K B' p2 ys) (r2 : AtL K mg B' ys es) : Walks K mg (Itz K p p2) B' (zipD ds es) where
  go := fun i d Z σ1 H1 e1 B1 l S hd => by
    obtain ⟨x, y, hx, hy, rfl⟩ := zipD_get hd
    obtain ⟨v, hv, rv⟩ := r.get hx
    obtain ⟨v2, hv2, rv2⟩ := r2.get hy
    refine ⟨⟨xs, ys, v, v2, S.bh.seq (l.seq h), S.bh.seq (l.seq h2), hv, hv2⟩, fun x H2 w => ?_⟩
    obtain ⟨T, x', y', rfl, hT, rfl, q1, q2⟩ := w
    have e1 := q1 xs (S.bh.seq (l.seq h))
    rw [hv] at e1
    cases e1
    have e2 := q2 ys (S.bh.seq (l.seq h2))
    rw [hv2] at e2
    cases e2
    obtain ⟨S2, l2⟩ := S.new (o := .tup [v, v2]) hT
    exact ⟨⟨_, S2, l2, .tup (SqT.of upd_same) (.cons (rv.mono (l.trans l2)) (.cons (rv2.mono (l.trans l2)) .nil))⟩, fun a o z => by rw [upd_ne (ne_of_none z hT)]; exact z⟩
  stop := fun i Z σ1 H1 e1 B1 l S hi => ⟨xs, ys, S.bh.seq (l.seq h), S.bh.seq (l.seq h2), by rw [r.length, r2.length]; exact zipD_len hi⟩
theorem walks_zipT {xs ys : List V} {ds es : List D} (h : SqT K B' p xs) (r : AtL K mg B' xs ds) (h2 : SqT K B' p2 ys) (r2 : AtL K mg B' ys es) : Walks K mg (ItzT K p p2) B' (zipD ds es) where
  go := fun i d Z σ1 H1 e1 B1 l S hd => by
    obtain ⟨x, y, hx, hy, rfl⟩ := zipD_get hd
    obtain ⟨v, hv, rv⟩ := r.get hx
    obtain ⟨v2, hv2, rv2⟩ := r2.get hy
    refine ⟨⟨xs, ys, v, v2, seqT S.bh (seqT l h), seqT S.bh (seqT l h2), hv, hv2⟩, fun x H2 w => ?_⟩
    obtain ⟨T, x', y', rfl, hT, rfl, q1, q2⟩ := w
    have e1 := q1 xs (seqT S.bh (seqT l h))
    rw [hv] at e1
    cases e1
    have e2 := q2 ys (seqT S.bh (seqT l h2))
    rw [hv2] at e2
    cases e2
    obtain ⟨S2, l2⟩ := S.new (o := .tup [v, v2]) hT
    exact ⟨⟨_, S2, l2, .tup (SqT.of upd_same) (.cons (rv.mono (l.trans l2)) (.cons (rv2.mono (l.trans l2)) .nil))⟩, fun a o z => by rw [upd_ne (ne_of_none z hT)]; exact z⟩
  stop := fun i Z σ1 H1 e1 B1 l S hi => ⟨xs, ys, seqT S.bh (seqT l h), seqT S.bh (seqT l h2), by rw [r.length, r2.length]; exact zipD_len hi⟩
theorem walks_enum {xs : List V} {ds : List D} (h : SqL K B' p xs) (r : AtL K mg B' xs ds) : Walks K mg (Ite K p) B' (enumD 0 ds) where
  go := fun i d Z σ1 H1 e1 B1 l S hd => by
    obtain ⟨x, hx, rfl⟩ := enumD_get hd
    obtain ⟨v, hv, rv⟩ := r.get hx
    refine ⟨⟨xs, v, S.bh.seq (l.seq h), hv⟩, fun x H2 w => ?_⟩
    obtain ⟨T, x', rfl, hT, rfl, q1⟩ := w
    have e1 := q1 xs (S.bh.seq (l.seq h))
    rw [hv] at e1
    cases e1
    obtain ⟨S2, l2⟩ := S.new (o := .tup [.int (i : Nat), v]) hT
    rw [Nat.zero_add]
    exact ⟨⟨_, S2, l2, .tup (SqT.of upd_same) (.cons (.int _) (.cons (rv.mono (l.trans l2)) .nil))⟩, fun a o z => by rw [upd_ne (ne_of_none z hT)]; exact z⟩
  stop := fun i Z σ1 H1 e1 B1 l S hi => ⟨xs, S.bh.seq (l.seq h), by rw [r.length]; rw [enumD_len] at hi; exact hi⟩
end
section
variable {X : Cx} {W : WX} {tg a b : Expr} {fr : M (List D)} {p pos : Pos}
theorem pid_range1 (ha : PAD X W [a] fr) (hm : X.mg "range" = none) (hg : Gl X "range" := by rfl) (hs : starEach [a] X.env = [(false, eval a X.env)] := by rfl) : PID X W tg (.Call (.Name "range" p) [a] [] pos) (bd fr dRng1) := by
  obtain ⟨ta, pa, ea⟩ := ha
  refine ⟨_, pi_range1 hg hm pa hs, fun Z B σ H e R S h => ?_⟩
  refine ea Z B σ H e _ S ((wp_bd.mp h).imp (fun ds e1 h1 vs B1 H1 S1 l1 a1 => ?_) fun x e' q => q)
  obtain ⟨r, h2, h3⟩ := wp_li h1
  match ds, h2 with
  | [.int j], h2 =>
    have h2 : (if -(2 ^ 62) ≤ j ∧ j < 2 ^ 62 then some (rangeD 0 j.toNat) else none) = some r := h2
    split at h2
    · rename_i hc
      cases h2
      cases a1 with
      | cons r rr =>
        cases rr
        exact ⟨j, by rw [r.int_inv], hc.1, hc.2, h3 _ B1 H1 S1 l1 walks_range⟩
    · cases h2
theorem pid_range2 (ha : PAD X W [a, b] fr) (hm : X.mg "range" = none) (hg : Gl X "range" := by rfl) (hs : starEach [a, b] X.env = [(false, eval a X.env), (false, eval b X.env)] := by rfl) (hs2 : starEach [b] X.env = [(false, eval b X.env)] := by rfl) : PID X W tg (.Call (.Name "range" p) [a, b] [] pos) (bd fr dRng2) := by
  obtain ⟨ta, pa, ea⟩ := ha
  refine ⟨_, pi_range2 hg hm pa hs hs2, fun Z B σ H e R S h => ?_⟩
  refine ea Z B σ H e _ S ((wp_bd.mp h).imp (fun ds e1 h1 vs B1 H1 S1 l1 a1 => ?_) fun x e' q => q)
  obtain ⟨r, h2, h3⟩ := wp_li h1
  match ds, h2 with
  | [.int i, .int j], h2 =>
    have h2 : (if (-(2 ^ 62) ≤ i ∧ i < 2 ^ 62) ∧ -(2 ^ 62) ≤ j ∧ j < 2 ^ 62 then some (rangeD i (j - i).toNat) else none) = some r := h2
    split at h2
    · rename_i hc
      cases h2
      cases a1 with
      | cons r rr =>
        cases rr with
        | cons r2 rr =>
          cases rr
          exact ⟨i, j, by rw [r.int_inv, r2.int_inv], ⟨hc.1.1, hc.1.2, hc.2⟩, h3 _ B1 H1 S1 l1 walks_range⟩
    · cases h2
variable {elts : List Expr} {kk : Nat} {tpos : Pos}
theorem pid_zip (ha : PAD X W [a, b] fr) (hm : X.mg "zip" = none) (hg : Gl X "zip" := by rfl) (hs : starEach [a, b] X.env = (false, eval a X.env) :: starEach [b] X.env := by rfl) (hpl : (backTo pos (starEach [b] X.env)).any (·.1) = false := by rfl) : PID X W (.Tuple elts kk tpos) (.Call (.Name "zip" p) [a, b] [] pos) (bd fr dZip) := by
  obtain ⟨ta, pa, ea⟩ := ha
  refine ⟨_, pi_zipA hg hm pa hs hpl, fun Z B σ H e R S h => ?_⟩
  refine ea Z B σ H e _ S ((wp_bd.mp h).imp (fun ds e1 h1 vs B1 H1 S1 l1 a1 => ?_) fun x e' q => q)
  obtain ⟨r, h2, h3⟩ := wp_li h1
  match ds, h2 with
  | [.lst xs, .lst ys], h2 =>
    cases h2
    cases a1 with
    | cons r rr =>
      cases rr with
      | cons r2 rr =>
        cases rr
        obtain ⟨p1, v1, rfl, g1, g2⟩ := r.lst_inv
        obtain ⟨p2, v2, rfl, k1, k2⟩ := r2.lst_inv
        exact ⟨p1, p2, v1, v2, rfl, .inl ⟨SqL.of (S1.bh _ _ g1), SqL.of (S1.bh _ _ k1), h3 _ B1 H1 S1 l1 (walks_zip (SqL.of g1) g2 (SqL.of k1) k2)⟩⟩
  | [.tup xs, .tup ys], h2 =>
    cases h2
    cases a1 with
    | cons r rr =>
      cases rr with
      | cons r2 rr =>
        cases rr
        obtain ⟨p1, v1, rfl, g1, g2⟩ := r.tup_inv
        obtain ⟨p2, v2, rfl, k1, k2⟩ := r2.tup_inv
        exact ⟨p1, p2, v1, v2, rfl, .inr ⟨seqT S1.bh g1, seqT S1.bh k1, h3 _ B1 H1 S1 l1 (walks_zipT g1 g2 k1 k2)⟩⟩
theorem pid_enum (ha : PAD X W [a] fr) (hm : X.mg "enumerate" = none) (hg : Gl X "enumerate" := by rfl) (hs : starEach [a] X.env = [(false, eval a X.env)] := by rfl) : PID X W (.Tuple elts kk tpos) (.Call (.Name "enumerate" p) [a] [] pos) (bd fr dEnum) := by
  obtain ⟨ta, pa, ea⟩ := ha
  refine ⟨_, pi_enum hg hm pa hs, fun Z B σ H e R S h => ?_⟩
  refine ea Z B σ H e _ S ((wp_bd.mp h).imp (fun ds e1 h1 vs B1 H1 S1 l1 a1 => ?_) fun x e' q => q)
  obtain ⟨r, h2, h3⟩ := wp_li h1
  match ds, h2 with
  | [.lst xs], h2 =>
    cases h2
    cases a1 with
    | cons r rr =>
      cases rr
      obtain ⟨p1, v1, rfl, g1, g2⟩ := r.lst_inv
      exact ⟨p1, v1, rfl, SqL.of (S1.bh _ _ g1), h3 _ B1 H1 S1 l1 (walks_enum (SqL.of g1) g2)⟩
end

/-! ### for, while -/
def forL (t : D → M Unit) (body : M Fl) : List D → M Fl
  | [] => pu .nx
  | d :: ds => bd (noExc (t d)) fun _ => bd body fun f => match f with
    | .nx => forL t body ds | .ct => forL t body ds | .bk => pu .nx | .rt d => pu (.rt d) | .rn ds => pu (.rn ds)
def fFor (src : M (List D)) (t : D → M Unit) (body : M Fl) : M Fl := bd src (forL t body)
def whileN (c : M Bool) (body : M Fl) : Nat → M Fl
  | 0 => fun _ => .bad
  | n + 1 => bd c fun b => if b = true then bd body fun f => match f with
    | .nx => whileN c body n | .ct => whileN c body n | .bk => pu .nx | .rt d => pu (.rt d) | .rn ds => pu (.rn ds) else pu .nx
open Classical in
/-- a while: as many turns as it takes -/
noncomputable def fWhile (c : M Bool) (body : M Fl) : M Fl := fun e => if h : ∃ n, whileN c body n e ≠ .bad then whileN c body (choose h) e else .bad
section
variable {X : Cx} {W : WX} {tg iter c : Expr} {body : List Stmt} {src : M (List D)} {t : D → M Unit} {g : M Fl} {gc : M Bool} {pos : Pos}
theorem psd_for (hp : PassesOwn (model X.prog X.w) X.A X.env X.xe) (hc : X.calm = true) (hi : PID X W tg iter src) (ht : PGD X tg t) (hb : PSsD X W body g) (hs : ∀ x, foldedSetIterable iter X.env x = pure x := by intro _; rfl) : PSD X W (.For tg iter body [] pos) (fFor src t g) := by
  obtain ⟨wi, pi, ei⟩ := hi
  obtain ⟨gt, pg, eg⟩ := ht
  obtain ⟨tb, pb, eb⟩ := hb
  refine ⟨_, ps_for hp hc pi pg pb hs, fun Z B σ H e Y S h => ?_⟩
  refine ei Z B σ H e _ S ((wp_bd.mp h).imp (fun ds e1 h1 J B1 H1 S1 l1 wk => ?_) fun x e' q => PXs.at q)
  refine ⟨fun i m σ2 H2 => ∃ B2 e2, Same B1 B2 ∧ SR X.K X.mg Z B2 σ2 H2 e2 ∧ m = ds.length - i ∧ i ≤ ds.length ∧ (forL t g (ds.drop i) e2).wp (PF X.K X.mg Z B2 Y) (PXs X.K X.mg Z B2 W), ⟨ds.length, B1, e1, Same.refl B1, S1, by simp, Nat.zero_le _, by simpa using upF l1 h1⟩, ?_⟩
  rintro i m σ2 H2 ⟨B2, e2, l2, S2, rfl, hi, h2⟩
  by_cases hlt : i < ds.length
  · refine .inr ?_
    obtain ⟨wg, wy⟩ := wk.go i ds[i] Z σ2 H2 e2 B2 l2 S2 (by simp [hlt])
    refine ⟨wg, fun σ' H' => ∃ B3 e3, Same B1 B3 ∧ SR X.K X.mg Z B3 σ' H' e3 ∧ (forL t g (ds.drop (i + 1)) e3).wp (PF X.K X.mg Z B3 Y) (PXs X.K X.mg Z B3 W), fun σ' H' ⟨B3, e3, l3, S3, h3⟩ => ⟨ds.length - (i + 1), by omega, B3, e3, l3, S3, rfl, hlt, h3⟩, fun x H3 y => ?_⟩
    obtain ⟨⟨B3, S3, l3, a3⟩, _⟩ := wy x H3 y
    rw [List.drop_eq_getElem_cons hlt] at h2
    refine eg Z B3 σ2 H3 e2 x _ _ S3 a3 ((noExc_wp (wp_bd.mp h2)).imp (fun _ e4 h4 σ4 B4 H4 S4 l4 => ?_) fun x e' q => q)
    refine eb Z B4 σ4 H4 e4 _ S4 ((wp_bd.mp h4).imp (fun f e5 h5 => ?_) fun x e' q => PXs.up (l3.trans l4) q)
    have up : Same B2 B4 := l3.trans l4
    cases f with
    | nx => exact fun σ5 B5 H5 S5 l5 => ⟨B5, e5, ((l2.trans up).trans l5), S5, upF (up.trans l5) h5⟩
    | ct => exact fun σ5 B5 H5 S5 l5 => ⟨B5, e5, ((l2.trans up).trans l5), S5, upF (up.trans l5) h5⟩
    | bk => exact fun σ5 B5 H5 S5 l5 => h5 σ5 B5 H5 S5 (up.trans l5)
    | rt d => exact fun v σ5 B5 H5 S5 l5 a5 => h5 v σ5 B5 H5 S5 (up.trans l5) a5
    | rn d => exact fun p xs σ5 B5 H5 S5 l5 a1 a2 a3 a4 a5 => h5 p xs σ5 B5 H5 S5 (up.trans l5) a1 a2 a3 a4 a5
  · have hle : ds.length ≤ i := by omega
    refine .inl ⟨wk.stop i Z σ2 H2 e2 B2 l2 S2 hle, ?_⟩
    rw [List.drop_eq_nil_of_le hle] at h2
    exact h2 σ2 B2 H2 S2 (Same.refl B2)
theorem psd_while (hp : PassesOwn (model X.prog X.w) X.A X.env X.xe) (hc : PBD X W c gc) (hb : PSsD X W body g) : PSD X W (.While c body [] pos) (fWhile gc g) := by
  obtain ⟨tc, pc, ec⟩ := hc
  obtain ⟨tb, pb, eb⟩ := hb
  refine ⟨_, ps_while hp pc pb, fun Z B σ H e Y S h => ?_⟩
  obtain ⟨n, hn⟩ : ∃ n, (whileN gc g n e).wp (PF X.K X.mg Z B Y) (PXs X.K X.mg Z B W) := by
    unfold fWhile at h
    split at h
    · exact ⟨_, h⟩
    · exact False.elim h
  refine ⟨fun m σ2 H2 => ∃ B2 e2, SR X.K X.mg Z B2 σ2 H2 e2 ∧ (whileN gc g m e2).wp (PF X.K X.mg Z B2 Y) (PXs X.K X.mg Z B2 W), ⟨n, B, e, S, hn⟩, ?_⟩
  rintro m σ2 H2 ⟨B2, e2, S2, h2⟩
  cases m with
  | zero => exact False.elim h2
  | succ m =>
    refine ec.then S2 h2 (fun x e' q => PXs.at q) fun b e3 B3 H3 S3 l3 h3 => ?_
    cases b with
    | false => exact h3 σ2 B3 H3 S3 l3
    | true =>
      rw [if_pos rfl]
      refine ⟨fun σ' H' => ∃ B4 e4, SR X.K X.mg Z B4 σ' H' e4 ∧ (whileN gc g m e4).wp (PF X.K X.mg Z B4 Y) (PXs X.K X.mg Z B4 W), fun σ' H' ⟨B4, e4, S4, h4⟩ => ⟨m, Nat.lt_succ_self m, B4, e4, S4, h4⟩, ?_⟩
      refine eb Z B3 σ2 H3 e3 _ S3 ((wp_bd.mp h3).imp (fun f e5 h5 => ?_) fun x e' q => PXs.up l3 q)
      cases f with
      | nx => exact fun σ5 B5 H5 S5 l5 => ⟨B5, e5, S5, upF (l3.trans l5) h5⟩
      | ct => exact fun σ5 B5 H5 S5 l5 => ⟨B5, e5, S5, upF (l3.trans l5) h5⟩
      | bk => exact fun σ5 B5 H5 S5 l5 => h5 σ5 B5 H5 S5 (l3.trans l5)
      | rt d => exact fun v σ5 B5 H5 S5 l5 a5 => h5 v σ5 B5 H5 S5 (l3.trans l5) a5
      | rn d => exact fun p xs σ5 B5 H5 S5 l5 a1 a2 a3 a4 a5 => h5 p xs σ5 B5 H5 S5 (l3.trans l5) a1 a2 a3 a4 a5
/-- more turns allowed: the same -/
theorem whileN_mono {e : En} : ∀ {n : Nat}, whileN gc g n e ≠ .bad → ∀ m, n ≤ m → whileN gc g m e = whileN gc g n e := by
  intro n
  induction n generalizing e with
  | zero => intro h; exact absurd rfl h
  | succ n ih =>
    intro h m hm
    obtain ⟨m, rfl⟩ : ∃ k, m = k + 1 := ⟨m - 1, by omega⟩
    unfold whileN at h ⊢
    unfold bd at h ⊢
    cases q : gc e with
    | ok b e1 =>
      rw [q] at h
      cases b with
      | false => rfl
      | true =>
        simp only [if_true] at h ⊢
        cases q2 : g e1 with
        | ok f e2 =>
          rw [q2] at h
          cases f with
          | nx => exact ih h m (by omega)
          | ct => exact ih h m (by omega)
          | bk => rfl
          | rt d => rfl
          | rn d => rfl
        | exc x e2 => rfl
        | bad => rfl
    | exc x e1 => rfl
    | bad => rfl
theorem fWhile_eq {e : En} {n : Nat} {r : Res Fl} (h : whileN gc g n e = r) (hr : r ≠ .bad) : fWhile gc g e = r := by
  have hex : ∃ n, whileN gc g n e ≠ .bad := ⟨n, by rw [h]; exact hr⟩
  unfold fWhile
  rw [dif_pos hex]
  have h1 := Classical.choose_spec hex
  have h2 := whileN_mono (n := n) (by rw [h]; exact hr)
  have h3 := whileN_mono h1
  rcases Nat.le_total n (Classical.choose hex) with hle | hle
  · rw [h2 _ hle, h]
  · rw [← h3 _ hle, h]
end

/-! ### comprehensions -/
def wipeE : List Nat → En → En
  | [], e => e | v :: vs, e => (wipeE vs e).set v .no
def restE (vs : List Nat) (e e' : En) : En := putG (fun i s => if vs.contains i = true then e.getD i .no else s) 0 e'
def noOwn (vs : List Nat) (e : En) : Bool := vs.all fun v => !(e.getD v .no).isOwn
def refS : Sl → Sl
  | .own _ ds => .own true ds | .oin _ c ns ds => .oin true c ns ds | s => s
def refE (e : En) : En := e.map refS
/-- behind a turn: a slot outside as the turn leaves it, its flag as it was -/
def fixS (s s' : Sl) : Sl := match s' with
  | .own true ds => if s.isOwn = true then .own s.isRef ds else .no
  | .oin true c ns ds => if s.isOwn = true then .oin s.isRef c ns ds else .no
  | .val d => .val d
  | _ => .no
def fixE (vs : List Nat) (e e' : En) : En := putG (fun i s' => if vs.contains i = true then .no else fixS (e.getD i .no) s') 0 e'
def lcTurn (vs : List Nat) (t : D → M Unit) (c : M Bool) (el : M D) (d : D) : M (Option D) := fun e =>
  match (bd (noExc (t d)) fun _ => bd c fun b => if b = true then bd el fun y => pu (some y) else pu none) (refE e) with
  | .ok o e' => if e'.length = e.length then .ok o (fixE vs e e') else .bad
  | _ => .bad
def lcLoop (vs : List Nat) (t : D → M Unit) (c : M Bool) (el : M D) : List D → M (List D)
  | [] => pu []
  | d :: ds => bd (lcTurn vs t c el d) fun o => bd (lcLoop vs t c el ds) fun r => pu (match o with
    | some y => y :: r | none => r)
def fLc (src : M (List D)) (vs : List Nat) (t : D → M Unit) (c : M Bool) (el : M D) : M (List D) := bd src fun ds => fun e =>
  if ds.length ≤ 16777216 ∧ noOwn vs e = true then (match lcLoop vs t c el ds (wipeE vs e) with
    | .ok r e' => .ok r (restE vs e e') | _ => .bad) else .bad
section
variable {K : PySem.W.Frag} {mg : Str → Option Value} {Z : Ent} {B B' : Hp} {σ : St} {H H' : Hp} {e e' : En} {p : Addr}
theorem wipeE_len : ∀ {vs : List Nat}, (wipeE vs e).length = e.length
  | [] => rfl
  | v :: vs => by unfold wipeE; rw [List.length_set, wipeE_len (vs := vs)]
theorem wipeE_get : ∀ {vs : List Nat} {i : Nat} {s : Sl}, (wipeE vs e)[i]? = some s → s = .no ∨ (e[i]? = some s ∧ i ∉ vs)
  | [], i, s, h => .inr ⟨h, by simp⟩
  | v :: vs, i, s, h => by
    unfold wipeE at h
    by_cases hv : v = i
    · subst hv
      rw [List.getElem?_set] at h
      simp only [if_true] at h
      split at h
      · cases h; exact .inl rfl
      · cases h
    · rw [List.getElem?_set_ne hv] at h
      rcases wipeE_get h with z | ⟨z1, z2⟩
      · exact .inl z
      · exact .inr ⟨z1, by simp only [List.mem_cons, not_or]; exact ⟨fun q => hv q.symm, z2⟩⟩
theorem wipe_out {i : Nat} : ∀ {vs : List Nat}, i ∉ vs → (wipe σ vs)[i]? = σ[i]?
  | [], _ => rfl
  | v :: vs, h => by
    unfold wipe
    simp only [List.mem_cons, not_or] at h
    rw [List.getElem?_set_ne (fun q => h.1 q.symm)]
    exact wipe_out h.2
theorem wipe_in {i : Nat} : ∀ {vs : List Nat}, i ∈ vs → (L2.wipe σ vs)[i]? = (σ[i]?).map fun _ => none
  | v :: vs, h => by
    unfold L2.wipe
    by_cases hv : v = i
    · subst hv
      rw [List.getElem?_set]
      simp only [if_true]
      rw [wipe_length]
      split
      · rename_i hl; simp [hl]
      · rename_i hl; simp at hl; simp [hl]
    · rw [List.getElem?_set_ne hv]
      rcases List.mem_cons.mp h with z | z
      · exact absurd z.symm hv
      · exact wipe_in z
theorem wipe_wipe (σ : St) (vs : List Nat) : L2.wipe (L2.wipe σ vs) vs = L2.wipe σ vs := by
  apply List.ext_getElem?
  intro i
  by_cases h : i ∈ vs
  · rw [wipe_in h, wipe_in h]
    cases σ[i]? <;> rfl
  · rw [wipe_out h]
theorem wipe_set {i : Nat} {x : Option V} {vs : List Nat} (h : i ∈ vs) : L2.wipe (σ.set i x) vs = L2.wipe σ vs := by
  apply List.ext_getElem?
  intro j
  by_cases hj : j ∈ vs
  · rw [wipe_in hj, wipe_in hj]
    by_cases e : i = j
    · subst e
      rw [List.getElem?_set]
      simp only [if_true]
      split
      · rename_i hl; simp [hl]
      · rename_i hl; simp at hl; simp [hl]
    · rw [List.getElem?_set_ne e]
  · rw [wipe_out hj, wipe_out hj, List.getElem?_set_ne fun (e : i = j) => hj (e ▸ h)]
theorem SR.wipe (S : SR K mg Z B σ H e) (vs : List Nat) : SR K mg Z B (L2.wipe σ vs) H (wipeE vs e) := by
  refine ⟨S.le, S.bh, S.fh, S.nb, S.dm, by rw [wipe_length, wipeE_len]; exact S.ln, fun i s q => ?_, fun i j a hij hi hj e1 e2 => ?_⟩
  · rcases wipeE_get q with rfl | ⟨z1, z2⟩
    · trivial
    · rw [wipe_out z2]; exact S.sl i s z1
  · have key : ∀ i, ownAt (wipeE vs e) i → ownAt e i ∧ i ∉ vs := fun i ⟨s, q, hs⟩ => by
      rcases wipeE_get q with rfl | ⟨z1, z2⟩
      · cases hs
      · exact ⟨⟨s, z1, hs⟩, z2⟩
    obtain ⟨o1, n1⟩ := key i hi
    obtain ⟨o2, n2⟩ := key j hj
    rw [wipe_out n1] at e1
    rw [wipe_out n2] at e2
    exact S.ds i j a hij o1 o2 e1 e2
/-- .. of a state whose slots outside are the wiped ones -/
theorem SR.wipe' {σ2 : St} {vs : List Nat} (S : SR K mg Z B σ2 H e) (hw : L2.wipe σ2 vs = L2.wipe σ vs) : SR K mg Z B (L2.wipe σ vs) H (wipeE vs e) := hw ▸ S.wipe vs
theorem getD_some {i : Nat} {s d : Sl} (h : e[i]? = some s) : e.getD i d = s := by rw [List.getD_eq_getElem?_getD, h]; rfl
theorem SR.unwipe {vs : List Nat} (S : SR K mg Z B σ H e) (no : noOwn vs e = true) (l : Same B B') (S' : SR K mg Z B' (L2.wipe σ vs) H' e') : SR K mg Z B' σ H' (restE vs e e') := by
  have hlen : e'.length = e.length := by rw [← S'.ln, wipe_length]; exact S.ln
  have get : ∀ i s, (restE vs e e')[i]? = some s → (i ∈ vs ∧ s = e.getD i .no ∧ i < e.length) ∨ (i ∉ vs ∧ e'[i]? = some s) := fun i s q => by
    unfold restE at q
    rw [putG_get] at q
    cases hi : e'[i]? with
    | none => rw [hi] at q; cases q
    | some s' =>
      rw [hi] at q
      have hlt : i < e.length := by rw [← hlen]; exact (List.getElem?_eq_some_iff.mp hi).1
      have q := Option.some.inj q
      simp only [Nat.zero_add] at q
      by_cases hv : i ∈ vs
      · rw [if_pos (by simpa using hv)] at q
        exact .inl ⟨hv, q.symm, hlt⟩
      · rw [if_neg (by simpa using hv)] at q
        exact .inr ⟨hv, by rw [← q]⟩
  have noo : ∀ i, i ∈ vs → (e.getD i .no).isOwn = false := fun i hi => by
    have := List.all_eq_true.mp no i hi
    simpa using this
  have own : ∀ i, ownAt (restE vs e e') i → ownAt e' i ∧ i ∉ vs := fun i ⟨s, q, hs⟩ => by
    rcases get i s q with ⟨h1, h2, _⟩ | ⟨h1, h2⟩
    · rw [h2, noo i h1] at hs; cases hs
    · exact ⟨⟨s, h2, hs⟩, h1⟩
  refine ⟨S'.le, S'.bh, S'.fh, S'.nb, S'.dm, by unfold restE; rw [putG_len, hlen]; exact S.ln, fun i s q => ?_, fun i j a hij hi hj e1 e2 => ?_⟩
  · rcases get i s q with ⟨h1, h2, h3⟩ | ⟨h1, h2⟩
    · have hs : e[i]? = some s := by
        rw [h2]
        rw [List.getD_eq_getElem?_getD]
        simp [h3]
      have ho : s.isOwn = false := by rw [h2]; exact noo i h1
      have z := S.sl i s hs
      cases s with
      | no => trivial
      | val d => obtain ⟨v, e1, r⟩ := z; exact ⟨v, e1, r.mono l⟩
      | _ => cases ho
    · have z := S'.sl i s h2
      rw [wipe_out h1] at z
      exact z
  · obtain ⟨o1, n1⟩ := own i hi
    obtain ⟨o2, n2⟩ := own j hj
    rw [← wipe_out (vs := vs) n1] at e1
    rw [← wipe_out (vs := vs) n2] at e2
    exact S'.ds i j a hij o1 o2 e1 e2
theorem Free.wipe {vs : List Nat} (h : Free σ e p) : Free (L2.wipe σ vs) (wipeE vs e) p := fun i ⟨s, q, hs⟩ z => by
  rcases wipeE_get q with rfl | ⟨z1, z2⟩
  · cases hs
  · rw [wipe_out z2] at z
    exact h i ⟨s, z1, hs⟩ z
end
abbrev WNo : WX := fun _ _ _ _ => False
section
variable {X : Cx} {W : WX} {elt tg iter : Expr} {ifs : List Expr} {scope : Scope} {own : List (Str × Nat)} {src : M (List D)} {t : D → M Unit} {c : M Bool} {el : M D} {pos : Pos}
def PTsD (X : Cx) (W : WX) (ifs : List Expr) (f : M Bool) : Prop := ∃ tt, PTs X ifs tt ∧ EvB X.K X.mg W tt f
theorem ptsd_nil : PTsD X W [] (pu true) := ⟨_, pts_nil, fun Z B σ H e Q S h => h B H S (Same.refl B)⟩
theorem ptsd_one {a : Expr} (h : PBD X W a c) : PTsD X W [a] c := by
  obtain ⟨tt, p, e⟩ := h
  exact ⟨_, pts_one p, e⟩
/-- a target that stores into the slots vs alone -/
def EvGv (K : PySem.W.Frag) (mg : Str → Option Value) (vs : List Nat) (g : TG) (t : D → M Unit) : Prop := ∀ Z B σ H e v d (Q : St → Hp → Prop), SR K mg Z B σ H e → At K mg B v d → (t d e).wp (fun _ e' => ∀ σ' B' H', L2.wipe σ' vs = L2.wipe σ vs → SR K mg Z B' σ' H' e' → Same B B' → Q σ' H') (fun _ _ => False) → g v σ H Q
def ownA (σ : St) (e : En) : List Addr := (List.range e.length).filterMap fun i => if (e.getD i .no).isOwn = true then (match σ[i]? with
  | some (some (.ref a)) => some a | _ => none) else none
theorem mem_ownA {σ : St} {e : En} {a : Addr} : a ∈ ownA σ e ↔ ∃ i, ownAt e i ∧ σ[i]? = some (some (V.ref a)) := by
  unfold ownA
  rw [List.mem_filterMap]
  constructor
  · rintro ⟨i, hi, h⟩
    have hlt : i < e.length := by simpa using hi
    split at h
    · rename_i ho
      split at h
      · rename_i b hb
        cases h
        exact ⟨i, ⟨e[i], by simp [hlt], by rw [List.getD_eq_getElem?_getD] at ho; simpa [hlt] using ho⟩, hb⟩
      · cases h
    · cases h
  · rintro ⟨i, ⟨s, q, hs⟩, h⟩
    have hlt : i < e.length := (List.getElem?_eq_some_iff.mp q).1
    refine ⟨i, by simpa using hlt, ?_⟩
    rw [getD_some q, if_pos hs, h]
theorem isOwn_refS {s : Sl} : (refS s).isOwn = s.isOwn := by cases s <;> rfl
section
variable {K : PySem.W.Frag} {mg : Str → Option Value} {Z : Ent} {B B' : Hp} {σ σ' : St} {H H' : Hp} {e e' : En} {p : Addr}
theorem ownAt_refE {i : Nat} (h : ownAt (refE e) i) : ownAt e i := by
  obtain ⟨s, q, hs⟩ := h
  unfold refE at q
  rw [List.getElem?_map] at q
  cases hi : e[i]? with
  | none => rw [hi] at q; cases q
  | some s' =>
    rw [hi] at q
    have q : refS s' = s := Option.some.inj q
    subst q
    rw [isOwn_refS] at hs
    exact ⟨s', hi, hs⟩
theorem SR.reenter (S : SR K mg Z B σ H e) : SR K mg ⟨B, H, ownA σ e, σ⟩ B σ H (refE e) := by
  refine ⟨Same.refl B, S.bh, fun a o h _ => h, fun a o h => .inl h, fun a o h => ⟨o, h⟩, by unfold refE; rw [List.length_map]; exact S.ln, fun i s q => ?_, fun i j a hij hi hj => S.ds i j a hij (ownAt_refE hi) (ownAt_refE hj)⟩
  unfold refE at q
  rw [List.getElem?_map] at q
  cases hi : e[i]? with
  | none => rw [hi] at q; cases q
  | some s' =>
    rw [hi] at q
    have q : refS s' = s := Option.some.inj q
    subst q
    have z := S.sl i s' hi
    cases s' with
    | no => trivial
    | val d => exact z
    | own r ds =>
      obtain ⟨a, xs, e1, w1, w2, w3⟩ := z
      exact ⟨a, xs, e1, w1, w2, w3.1, (fun z => nomatch z), fun _ => ⟨mem_ownA.mpr ⟨i, ⟨_, hi, rfl⟩, e1⟩, e1⟩⟩
    | oin r c ns ds =>
      obtain ⟨a, C, dx, fs, e1, w0, w1, w2, w3, w4⟩ := z
      exact ⟨a, C, dx, fs, e1, w0, w1, w2, w3, w4.1, (fun z => nomatch z), fun _ => ⟨mem_ownA.mpr ⟨i, ⟨_, hi, rfl⟩, e1⟩, e1⟩⟩
theorem SR.exit {vs : List Nat} (S : SR K mg Z B σ H e) (S' : SR K mg ⟨B, H, ownA σ e, σ⟩ B' σ' H' e') (hw : L2.wipe σ' vs = L2.wipe σ vs) (hl : e'.length = e.length) : SR K mg Z B' σ H' (fixE vs e e') := by
  refine S.after S' (by unfold fixE; rw [putG_len]; exact hl) (fun a m => ?_) fun i s q => ?_
  · obtain ⟨i, ⟨s, q, hs⟩, e1⟩ := mem_ownA.mp m
    obtain ⟨a', o, e2, _, _, p2, p3⟩ := (S.sl i s q).at_own hs
    rw [e1] at e2
    cases e2
    cases hr : s.isRef with
    | false => exact .inl (p2 hr)
    | true => exact .inr (p3 hr).1
  · unfold fixE at q
    rw [putG_get] at q
    cases hi : e'[i]? with
    | none => rw [hi] at q; cases q
    | some s' =>
      rw [hi] at q
      have q := Option.some.inj q
      simp only [Nat.zero_add] at q
      by_cases hv : i ∈ vs
      · rw [if_pos (by simpa using hv)] at q
        subst q
        exact .inr ⟨trivial, fun z => nomatch z⟩
      · rw [if_neg (by simpa using hv)] at q
        have hσ : σ'[i]? = σ[i]? := by rw [← wipe_out (vs := vs) hv, hw, wipe_out hv]
        have z := S'.sl i s' hi
        have hlt : i < e.length := by rw [← hl]; exact (List.getElem?_eq_some_iff.mp hi).1
        have he : e[i]? = some (e.getD i .no) := by rw [List.getD_eq_getElem?_getD]; simp [hlt]
        refine .inr ?_
        cases s' with
        | no => subst q; exact ⟨trivial, fun z => nomatch z⟩
        | val d =>
          subst q
          obtain ⟨v, e1, r⟩ := z
          rw [hσ] at e1
          exact ⟨⟨v, e1, r⟩, fun z => nomatch z⟩
        | own r ds =>
          cases r with
          | false => subst q; exact ⟨trivial, fun z => nomatch z⟩
          | true =>
            have q : (if (e.getD i .no).isOwn = true then Sl.own (e.getD i .no).isRef ds else .no) = s := q
            split at q
            · rename_i ho
              subst q
              obtain ⟨a, xs, e1, w1, w2, w3⟩ := z
              rw [hσ] at e1
              obtain ⟨a', o, e2, _, _, p2, p3⟩ := (S.sl i _ he).at_own ho
              rw [e1] at e2
              cases e2
              exact ⟨⟨a, xs, e1, w1, w2, w3.1, p2, p3⟩, fun _ => ⟨_, he, ho⟩⟩
            · subst q; exact ⟨trivial, fun z => nomatch z⟩
        | oin r c ns ds =>
          cases r with
          | false => subst q; exact ⟨trivial, fun z => nomatch z⟩
          | true =>
            have q : (if (e.getD i .no).isOwn = true then Sl.oin (e.getD i .no).isRef c ns ds else .no) = s := q
            split at q
            · rename_i ho
              subst q
              obtain ⟨a, C, dx, fs, e1, w0, w1, w2, w3, w4⟩ := z
              rw [hσ] at e1
              obtain ⟨a', o, e2, _, _, p2, p3⟩ := (S.sl i _ he).at_own ho
              rw [e1] at e2
              cases e2
              exact ⟨⟨a, C, dx, fs, e1, w0, w1, w2, w3, w4.1, p2, p3⟩, fun _ => ⟨_, he, ho⟩⟩
            · subst q; exact ⟨trivial, fun z => nomatch z⟩
theorem ownAt_fixE {vs : List Nat} {i : Nat} (hl : e'.length = e.length) (h : ownAt (fixE vs e e') i) : ownAt e i := by
  obtain ⟨s, q, hs⟩ := h
  unfold fixE at q
  rw [putG_get] at q
  cases hi : e'[i]? with
  | none => rw [hi] at q; cases q
  | some s' =>
    rw [hi] at q
    have q := Option.some.inj q
    simp only [Nat.zero_add] at q
    have hlt : i < e.length := by rw [← hl]; exact (List.getElem?_eq_some_iff.mp hi).1
    have he : e[i]? = some (e.getD i .no) := by rw [List.getD_eq_getElem?_getD]; simp [hlt]
    split at q
    · subst q; cases hs
    · cases ho : (e.getD i .no).isOwn with
      | true => exact ⟨_, he, ho⟩
      | false =>
        have none : ∀ s', (fixS (e.getD i .no) s').isOwn = false := fun s' => by
          cases s' with
          | own r ds =>
            cases r with
            | false => rfl
            | true => show (if (e.getD i .no).isOwn = true then Sl.own (e.getD i .no).isRef ds else .no).isOwn = false; rw [ho]; rfl
          | oin r c ns ds =>
            cases r with
            | false => rfl
            | true => show (if (e.getD i .no).isOwn = true then Sl.oin (e.getD i .no).isRef c ns ds else .no).isOwn = false; rw [ho]; rfl
          | _ => rfl
        rw [← q, none] at hs
        cases hs
end
/-- the loop of a comprehension, by what is left of its items -/
theorem lc_ok {K : PySem.W.Frag} {mg : Str → Option Value} {wi : TI} {g : TG} {tt : TT} {te : TE} {vs : List Nat} (ei : EvI K mg W wi src) (eg : EvGv K mg vs g t) (ec : EvB K mg WNo tt c) (ee : EvD K mg WNo te el) : EvN K mg W (tLc wi g tt te vs) (fLc src vs t c el) := by
  intro Z B σ H e Q S h
  refine ei Z B σ H e _ S ((wp_bd.mp h).imp (fun ds e1 h1 J B1 H1 S1 l1 wk => ?_) fun x e' q => q)
  have h1 : (if ds.length ≤ 16777216 ∧ noOwn vs e1 = true then (match lcLoop vs t c el ds (wipeE vs e1) with
    | .ok r e' => Res.ok r (restE vs e1 e') | _ => .bad) else .bad).wp (PN K mg Z B σ Q) (PX K mg Z B σ W) := h1
  split at h1
  · rename_i hc
    obtain ⟨hz, no⟩ := hc
    intro L hL
    obtain ⟨S2, hB, h0, hf⟩ := S1.newO (o := .lst []) hL
    refine ⟨fun i m H3 => ∃ B3 e3 acc accD, Same B1 B3 ∧ SR K mg Z B3 (L2.wipe σ vs) H3 e3 ∧ H3 L = some (.lst acc) ∧ AtL K mg B3 acc accD ∧ acc.length ≤ i ∧ B3 L = none ∧ Free (L2.wipe σ vs) e3 L ∧ m = ds.length - i ∧ i ≤ ds.length ∧
      (lcLoop vs t c el (ds.drop i) e3).wp (fun r e' => PN K mg Z B σ Q (accD ++ r) (restE vs e1 e')) (fun _ _ => False), ⟨ds.length, B1, _, [], [], Same.refl B1, S2.wipe vs, upd_same, .nil, Nat.zero_le _, hB, hf.wipe, by simp, Nat.zero_le _, ?_⟩, ?_⟩
    · rw [List.drop_zero]
      cases q : lcLoop vs t c el ds (wipeE vs e1) with
      | ok r e' => rw [q] at h1; exact h1
      | exc x e' => rw [q] at h1; exact h1
      | bad => rw [q] at h1; exact h1
    · rintro i m H3 ⟨B3, e3, acc, accD, l3, S3, hA, rA, hlen, hB3, hf3, rfl, hi, h3⟩
      by_cases hlt : i < ds.length
      · refine .inr ?_
        rw [List.drop_eq_getElem_cons hlt] at h3
        have h3 := wp_bd.mp h3
        have h3 : (match (bd (noExc (t ds[i])) fun _ => bd c fun b => if b = true then bd el fun y => pu (some y) else pu none) (refE e3) with
          | .ok o e' => if e'.length = e3.length then Res.ok o (fixE vs e3 e') else .bad
          | _ => .bad).wp _ _ := h3
        have Sr := S3.reenter
        obtain ⟨wg, wy⟩ := wk.go i ds[i] _ (L2.wipe σ vs) H3 (refE e3) B3 l3 Sr (by simp [hlt])
        refine ⟨wg, fun H' => ∃ B4 e4 acc' accD', Same B1 B4 ∧ SR K mg Z B4 (L2.wipe σ vs) H' e4 ∧ H' L = some (.lst acc') ∧ AtL K mg B4 acc' accD' ∧ acc'.length ≤ i + 1 ∧ B4 L = none ∧ Free (L2.wipe σ vs) e4 L ∧
          (lcLoop vs t c el (ds.drop (i + 1)) e4).wp (fun r e' => PN K mg Z B σ Q (accD' ++ r) (restE vs e1 e')) (fun _ _ => False), fun H' ⟨B4, e4, acc', accD', w1, w2, w3, w4, w5, w6, w7, w8⟩ => ⟨ds.length - (i + 1), by omega, B4, e4, acc', accD', w1, w2, w3, w4, w5, w6, w7, rfl, hlt, w8⟩, fun x H4 y => ?_⟩
        obtain ⟨⟨B4, S4, l4, a4⟩, keep4⟩ := wy x H4 y
        -- the turn's own run, in the state entered anew
        cases qt : (bd (noExc (t ds[i])) fun _ => bd c fun b => if b = true then bd el fun y => pu (some y) else pu none) (refE e3) with
        | bad => rw [qt] at h3; exact False.elim h3
        | exc z e5 => rw [qt] at h3; exact False.elim h3
        | ok o e5 =>
          rw [qt] at h3
          have h3 : (if e5.length = e3.length then Res.ok o (fixE vs e3 e5) else .bad).wp _ _ := h3
          split at h3
          · rename_i hl5
            have h3 := wp_bd.mp h3
            have run : ((bd (noExc (t ds[i])) fun _ => bd c fun b => if b = true then bd el fun y => pu (some y) else pu none) (refE e3)).wp (fun o' e' => o' = o ∧ e' = e5) fun _ _ => False := by rw [qt]; exact ⟨rfl, rfl⟩
            have fin : ∀ {B6 σ6 H6}, Same B4 B6 → SR K mg ⟨B3, H3, ownA (L2.wipe σ vs) e3, L2.wipe σ vs⟩ B6 σ6 H6 e5 → L2.wipe σ6 vs = L2.wipe σ vs → SR K mg Z B6 (L2.wipe σ vs) H6 (fixE vs e3 e5) ∧ B6 L = none ∧ H6 L = some (.lst acc) ∧ Free (L2.wipe σ vs) (fixE vs e3 e5) L := fun {B6 σ6 H6} l6 S6 hw6 => by
              refine ⟨S3.exit S6 (hw6.trans (wipe_wipe σ vs).symm) hl5, ?_, S6.fh L _ hA fun m => ?_, fun j hj => hf3 j (ownAt_fixE hl5 hj)⟩
              · cases q : B6 L with
                | none => rfl
                | some u =>
                  rcases S6.nb L u q with z | z
                  · have z : B3 L = some u := z
                    rw [hB3] at z; cases z
                  · have z : H3 L = none := z
                    rw [hA] at z; cases z
              · obtain ⟨j, hj, ej⟩ := mem_ownA.mp m
                exact hf3 j hj ej
            refine eg _ B4 (L2.wipe σ vs) H4 (refE e3) x _ _ S4 a4 ((noExc_wp (wp_bd.mp run)).imp (fun _ e6 r6 σ6 B6 H6 hw6 S6 l6 => ⟨hw6.trans (wipe_wipe σ vs), ?_⟩) fun z e' q => q)
            refine ec _ B6 σ6 H6 e6 _ S6 ((wp_bd.mp r6).imp (fun b e7 r7 B7 H7 S7 l7 => ?_) fun z e' q => False.elim q)
            cases b with
            | true =>
              rw [if_pos rfl]
              refine ee _ B7 σ6 H7 e7 _ S7 ((wp_bd.mp r7).imp (fun yd e8 r8 v B8 H8 S8 l8 a8 => ?_) fun z e' q => False.elim q)
              obtain ⟨ho, he⟩ := (show some yd = o ∧ e8 = e5 from r8)
              subst ho he
              obtain ⟨SE, hB8, hH8, hf8⟩ := fin ((l6.trans l7).trans l8) S8 (hw6.trans (wipe_wipe σ vs))
              have up : Same B3 B8 := ((l4.trans l6).trans l7).trans l8
              refine ⟨acc, hH8, by rw [sizeLine_eq]; omega, B8, _, acc ++ [v], accD ++ [yd], l3.trans up, SE.poke hB8 h0 hf8, upd_same, (rA.mono up).app (.cons a8 .nil), by simp; omega, hB8, hf8, ?_⟩
              exact h3.imp (fun r e' q => by rw [List.append_assoc]; exact (show PN K mg Z B σ Q (accD ++ (yd :: r)) (restE vs e1 e') from q)) fun z e' q => q
            | false =>
              rw [if_neg Bool.false_ne_true]
              obtain ⟨ho, he⟩ := (show none = o ∧ e7 = e5 from r7)
              subst ho he
              obtain ⟨SE, hB8, hH8, hf8⟩ := fin (l6.trans l7) S7 (hw6.trans (wipe_wipe σ vs))
              have up : Same B3 B7 := (l4.trans l6).trans l7
              exact ⟨B7, _, acc, accD, l3.trans up, SE, hH8, rA.mono up, by omega, hB8, hf8, h3.imp (fun r e' q => (show PN K mg Z B σ Q (accD ++ r) (restE vs e1 e') from q)) fun z e' q => q⟩
          · exact False.elim h3
      · have hle : ds.length ≤ i := by omega
        refine .inl ⟨wk.stop i Z (L2.wipe σ vs) H3 e3 B3 l3 S3 hle, ?_⟩
        rw [List.drop_eq_nil_of_le hle] at h3
        have h3 : PN K mg Z B σ Q (accD ++ []) (restE vs e1 e3) := h3
        rw [List.append_nil] at h3
        have SU := S1.unwipe no l3 S3
        refine h3 L acc B3 H3 SU (l1.trans l3) hA rA hB3 h0 fun j hj ej => ?_
        obtain ⟨s, q, hs⟩ := hj
        unfold restE at q
        rw [putG_get] at q
        cases hi2 : e3[j]? with
        | none => rw [hi2] at q; cases q
        | some s' =>
          rw [hi2] at q
          have q := Option.some.inj q
          simp only [Nat.zero_add] at q
          by_cases hv : j ∈ vs
          · rw [if_pos (by simpa using hv)] at q
            have := List.all_eq_true.mp no j hv
            rw [q] at this
            rw [hs] at this
            cases this
          · rw [if_neg (by simpa using hv)] at q
            exact hf3 j ⟨s', hi2, by rw [q]; exact hs⟩ (by rw [wipe_out hv]; exact ej)
  · exact False.elim h1
end
end Dl

set_option maxHeartbeats 1000000
/-! Layer D, part 6: comprehensions, the rule; defs. -/
namespace Dl
open PySem PySem.Spec PyProof.Rows L2

/-! ### comprehensions: the rule -/
def canD (K : PySem.W.Frag) (mg : Str → Option Value) (W : WX) (f : M D) : TE := fun σ H Q => ∃ Z B e, SR K mg Z B σ H e ∧ (f e).wp (PV K mg Z B σ Q) (PX K mg Z B σ W)
def canB (K : PySem.W.Frag) (mg : Str → Option Value) (W : WX) (f : M Bool) : TT := fun σ H Q => ∃ Z B e, SR K mg Z B σ H e ∧ (f e).wp (PB K mg Z B σ Q) (PX K mg Z B σ W)
theorem PED.can {X : Cx} {W : WX} {a : Expr} {f : M D} (h : PED X W a f) : PE X a (canD X.K X.mg W f) := by
  obtain ⟨te, p, ev⟩ := h
  exact ⟨fun pins s σ H Q I ⟨Z, B, e, S, q⟩ => p.run pins s σ H Q I (ev Z B σ H e Q S q)⟩
theorem PTsD.can {X : Cx} {W : WX} {a : List Expr} {f : M Bool} (h : PTsD X W a f) : PTs X a (canB X.K X.mg W f) := by
  obtain ⟨te, p, ev⟩ := h
  exact ⟨fun pins s σ H Q I ⟨Z, B, e, S, q⟩ => p.run pins s σ H Q I (ev Z B σ H e Q S q)⟩
def EvGvs (K : PySem.W.Frag) (mg : Str → Option Value) (vs : List Nat) (g : TGs) (t : List D → M Unit) : Prop := ∀ Z B σ H e xs ds (Q : St → Hp → Prop), SR K mg Z B σ H e → AtL K mg B xs ds → (t ds e).wp (fun _ e' => ∀ σ' B' H', L2.wipe σ' vs = L2.wipe σ vs → SR K mg Z B' σ' H' e' → Same B B' → Q σ' H') (fun _ _ => False) → g xs σ H Q
def PGV (X : Cx) (vs : List Nat) (tg : Expr) (t : D → M Unit) : Prop := ∃ g, PG X tg g ∧ EvGv X.K X.mg vs g t
def PGVs (X : Cx) (vs : List Nat) (tg : List Expr) (t : List D → M Unit) : Prop := ∃ g, PGs X tg g ∧ EvGvs X.K X.mg vs g t
def canG (K : PySem.W.Frag) (mg : Str → Option Value) (vs : List Nat) (t : D → M Unit) : TG := fun v σ H Q => ∃ Z B e d, SR K mg Z B σ H e ∧ At K mg B v d ∧ (t d e).wp (fun _ e' => ∀ σ' B' H', L2.wipe σ' vs = L2.wipe σ vs → SR K mg Z B' σ' H' e' → Same B B' → Q σ' H') (fun _ _ => False)
theorem PGV.can {X : Cx} {vs : List Nat} {tg : Expr} {t : D → M Unit} (h : PGV X vs tg t) : PG X tg (canG X.K X.mg vs t) := by
  obtain ⟨g, p, ev⟩ := h
  exact ⟨fun pins s σ H v u Q I r ⟨Z, B, e, d, S, a, q⟩ => p.run pins s σ H v u Q I r (ev Z B σ H e v d Q S a q)⟩
section
variable {X : Cx} {W : WX} {vs : List Nat} {tg a : Expr} {pos : Pos}
theorem pgv_name (i : Nat) {x : Str} (hN : X.N.Nodup) (hv : i ∈ vs) (hi : X.N[i]? = some x := by rfl) (hx : Loc X.env.scope x := by first | exact Or.inl rfl | exact Or.inr rfl) (hf : X.fn x = true ∨ X.env.scope.names.lookup x = some .local := by first | exact .inl rfl | exact .inr rfl) : PGV X vs (.Name x pos) (setV i) :=
  ⟨_, pg_name hN hi hx hf, fun Z B σ H e v d Q S r h => setV_wp h _ B H (wipe_set hv) (S.set r) (Same.refl B)⟩
theorem pgvs_nil : PGVs X vs [] gNilD := ⟨_, pgs_nil, fun Z B σ H e xs ds Q S r h => by
  obtain ⟨_, h1, h2⟩ := wp_li h
  cases ds with
  | nil => cases r; exact ⟨rfl, h2 σ B H rfl S (Same.refl B)⟩
  | cons d ds => cases h1⟩
theorem pgvs_cons {es : List Expr} {t : D → M Unit} {u : List D → M Unit} (h1 : PGV X vs a t) (h2 : PGVs X vs es u) (hs : (assignEach (a :: es) X.env).map (·.2) = assign a X.env :: (assignEach es X.env).map (·.2) := by rfl) : PGVs X vs (a :: es) (gConsD t u) := by
  obtain ⟨g, pg, eg⟩ := h1
  obtain ⟨gs, pgs, egs⟩ := h2
  refine ⟨_, pgs_cons pg pgs hs, fun Z B σ H e xs ds Q S r h => ?_⟩
  cases r with
  | nil => exact False.elim h
  | @cons v d ys ds r rr =>
    refine ⟨v, ys, rfl, eg Z B σ H e v d _ S r ((wp_bd.mp h).imp (fun _ e1 h1 σ1 B1 H1 w1 S1 l1 => ?_) fun _ _ q => q)⟩
    exact egs Z B1 σ1 H1 e1 ys ds Q S1 (rr.mono l1) (h1.imp (fun _ e2 h2 σ2 B2 H2 w2 S2 l2 => h2 σ2 B2 H2 (w2.trans w1) S2 (l1.trans l2)) fun _ _ q => q)
theorem pgv_tup {es : List Expr} {k n : Nat} {t : List D → M Unit} (hc : X.calm = true) (h : PGVs X vs es t) (hn : (assignEach es X.env).length = n := by rfl) (hst : (assignEach es X.env).findIdx? (·.1) = none := by rfl) : PGV X vs (.Tuple es k pos) (gTupD n t) := by
  obtain ⟨g, pg, eg⟩ := h
  refine ⟨_, pg_tup hc pg hn hst, fun Z B σ H e v d Q S r h => ?_⟩
  obtain ⟨ds, h1, h2⟩ := wp_li (wp_bd.mp h)
  cases d with
  | tup xs =>
    have h1 : (if xs.length = n then some xs else none) = some ds := h1
    split at h1
    · cases h1
      obtain ⟨p, ys, rfl, e1, r1⟩ := r.tup_inv
      exact ⟨p, ys, rfl, seqT S.bh e1, by rw [r1.length]; assumption, eg Z B σ H e ys _ Q S r1 h2⟩
    · cases h1
  | _ => cases h1
variable {elt iter : Expr} {ifs : List Expr} {scope : Scope} {own : List (Str × Nat)} {src : M (List D)} {t : D → M Unit} {c : M Bool} {el : M D}
theorem lc_ev (hi : PID X W tg iter src) : ∃ wi, PI X tg iter wi ∧ EvN X.K X.mg W (tLc wi (canG X.K X.mg vs t) (canB X.K X.mg WNo c) (canD X.K X.mg WNo el) vs) (fLc src vs t c el) := by
  obtain ⟨wi, pi, ei⟩ := hi
  refine ⟨wi, pi, lc_ok ei ?_ ?_ ?_⟩
  · exact fun Z B σ H e v d Q S a h => ⟨Z, B, e, d, S, a, h⟩
  · exact fun Z B σ H e Q S h => ⟨Z, B, e, S, h⟩
  · exact fun Z B σ H e Q S h => ⟨Z, B, e, S, h⟩
theorem pnd_lc (hc : X.calm = true) (hN : X.N.Nodup) (hi : PID X W tg iter src) (ok : BlkOk X.N X.env.scope scope own)
    (ht : ∀ (s : Shared) (H : Hp) (C : Addr) (cl : List (Str × Addr)) (fp : List Addr), PGV (X.blk s H scope (compEnvC scope cl C X.env) fp) (own.map (·.2)) tg t) (hcn : ∀ (s : Shared) (H : Hp) (C : Addr) (cl : List (Str × Addr)) (fp : List Addr), PTsD (X.blk s H scope (compEnvC scope cl C X.env) fp) WNo ifs c)
    (he : ∀ (s : Shared) (H : Hp) (C : Addr) (cl : List (Str × Addr)) (fp : List Addr), PED (X.blk s H scope (compEnvC scope cl C X.env) fp) WNo elt el) (hs : ∀ x, foldedSetIterable iter X.env x = pure x := by intro _; rfl) : PND X W (.ListComp elt [⟨tg, iter, ifs, 0⟩] scope pos) (fLc src (own.map (·.2)) t c el) := by
  obtain ⟨wi, pi, ev⟩ := lc_ev (vs := own.map (·.2)) (t := t) (c := c) (el := el) hi
  exact ⟨_, pe_lc hc hN pi ok (fun s H C cl fp => (ht s H C cl fp).can) (fun s H C cl fp => (hcn s H C cl fp).can) (fun s H C cl fp => (he s H C cl fp).can) hs, ev⟩
/-- y = [..] on one line -/
theorem setLc_ps {i : Nat} {y : Str} {py spos : Pos} (hc : X.calm = true) (hN : X.N.Nodup) (hy : X.N[i]? = some y) (hyl : X.env.scope.names.lookup y = some .local) (hsw : swapsWith (.ListComp elt [⟨tg, iter, ifs, 0⟩] scope pos) (some (.Name y py)) spos.line X.env = pure true) (hi : PID X W tg iter src) (ok : BlkOk X.N X.env.scope scope own)
    (ht : ∀ (s : Shared) (H : Hp) (C : Addr) (cl : List (Str × Addr)) (fp : List Addr), PGV (X.blk s H scope (compEnvC scope cl C X.env) fp) (own.map (·.2)) tg t) (hcn : ∀ (s : Shared) (H : Hp) (C : Addr) (cl : List (Str × Addr)) (fp : List Addr), PTsD (X.blk s H scope (compEnvC scope cl C X.env) fp) WNo ifs c)
    (he : ∀ (s : Shared) (H : Hp) (C : Addr) (cl : List (Str × Addr)) (fp : List Addr), PED (X.blk s H scope (compEnvC scope cl C X.env) fp) WNo elt el) (hs : ∀ x, foldedSetIterable iter X.env x = pure x := by intro _; rfl) : ∃ te, PS X (.Assign [.Name y py] (.ListComp elt [⟨tg, iter, ifs, 0⟩] scope pos) spos) (tAsg te (gName i)) ∧ EvN X.K X.mg W te (fLc src (own.map (·.2)) t c el) := by
  obtain ⟨wi, pi, ev⟩ := lc_ev (vs := own.map (·.2)) (t := t) (c := c) (el := el) hi
  exact ⟨_, ps_setLc hc hN hy hyl hsw pi ok (fun s H C cl fp => (ht s H C cl fp).can) (fun s H C cl fp => (hcn s H C cl fp).can) (fun s H C cl fp => (he s H C cl fp).can) hs, ev⟩
theorem psd_setLc {st : Stmt} {i : Nat} {fn : M (List D)} (h : ∃ te, PS X st (tAsg te (gName i)) ∧ EvN X.K X.mg W te fn) : PSD X W st (fSetT (fL fn) (setV i)) := by
  obtain ⟨te, p, ev⟩ := h
  refine ⟨_, p, fun Z B σ H e Y S h => ?_⟩
  have h := wp_bd.mp (wp_bd.mp h)
  refine ev Z B σ H e _ S (h.imp (fun ds e1 h1 p xs B1 H1 S1 l1 w1 w2 w3 w4 w5 => ?_) fun x e' q => PXs.at q)
  obtain ⟨S2, l2⟩ := S1.freeze w1 w3 w4 w5
  exact setV_wp (noExc_wp (wp_bd.mp h1)) _ _ H1 (S2.set (.lst upd_same (w2.mono l2))) (l1.trans l2)
theorem psd_setLcN {st : Stmt} {i : Nat} {fn : M (List D)} (h : ∃ te, PS X st (tAsg te (gName i)) ∧ EvN X.K X.mg W te fn) : PSD X W st (fSetN i fn) := by
  obtain ⟨te, p, ev⟩ := h
  refine ⟨_, p, fun Z B σ H e Y S h => ?_⟩
  refine ev Z B σ H e _ S ((wp_bd.mp h).imp (fun ds e1 h1 p xs B1 H1 S1 l1 w1 w2 w3 w4 w5 => ?_) fun x e' q => PXs.at q)
  exact setO_wp (wp_bd.mp h1) _ B1 H1 (S1.setO w5 fun _ => ⟨p, xs, rfl, w1, w2, w3, fun _ => w4, fun z => nomatch z⟩) l1
end

/-! ### defs -/
def keepR (s : Sl) : Sl := if s.isRef = true then s else .no
def runF (n m : Nat) (g : M Fl) : En → Res D := fun as => if as.length = n ∧ n ≤ m then (match g (as ++ List.replicate (m - n) .no) with
  | .ok (.rt d) e => if e.length = m then .ok d ((e.take n).map keepR) else .bad
  | .ok .nx e => if e.length = m then .ok .non ((e.take n).map keepR) else .bad
  | .exc x e => if e.length = m then .exc x ((e.take n).map keepR) else .bad
  | _ => .bad) else .bad
def runN (n m : Nat) (g : M Fl) : En → Res (List D) := fun as => if as.length = n ∧ n ≤ m then (match g (as ++ List.replicate (m - n) .no) with
  | .ok (.rn d) e => if e.length = m then .ok d ((e.take n).map keepR) else .bad
  | .exc x e => if e.length = m then .exc x ((e.take n).map keepR) else .bad
  | _ => .bad) else .bad
section
variable {K : PySem.W.Frag} {mg : Str → Option Value} {Z : Ent} {B B' : Hp} {σ : St} {H H' : Hp} {e : En}
theorem SR.pad {n : Nat} (S : SR K mg Z B σ H e) : SR K mg Z B (σ ++ List.replicate n none) H (e ++ List.replicate n .no) := by
  have get : ∀ i s, (e ++ List.replicate n Sl.no)[i]? = some s → (i < e.length ∧ e[i]? = some s) ∨ s = .no := fun i s q => by
    by_cases hi : i < e.length
    · rw [List.getElem?_append_left hi] at q; exact .inl ⟨hi, q⟩
    · rw [List.getElem?_append_right (by omega), List.getElem?_replicate] at q
      split at q
      · cases q; exact .inr rfl
      · cases q
  have own : ∀ i, ownAt (e ++ List.replicate n Sl.no) i → ownAt e i ∧ i < e.length := fun i ⟨s, q, hs⟩ => by
    rcases get i s q with ⟨h1, h2⟩ | rfl
    · exact ⟨⟨s, h2, hs⟩, h1⟩
    · cases hs
  refine ⟨S.le, S.bh, S.fh, S.nb, S.dm, by simp [S.ln], fun i s q => ?_, fun i j a hij hi hj e1 e2 => ?_⟩
  · rcases get i s q with ⟨h1, h2⟩ | rfl
    · rw [List.getElem?_append_left (by rw [S.ln]; exact h1)]; exact S.sl i s h2
    · trivial
  · obtain ⟨o1, h1⟩ := own i hi
    obtain ⟨o2, h2⟩ := own j hj
    rw [List.getElem?_append_left (by rw [S.ln]; exact h1)] at e1
    rw [List.getElem?_append_left (by rw [S.ln]; exact h2)] at e2
    exact S.ds i j a hij o1 o2 e1 e2
/-- at the end: what was handed by reference, told at the slots of the entry -/
theorem SR.out {n : Nat} {B0 H0 : Hp} {R : List Addr} {s0 : St} (S : SR K mg ⟨B0, H0, R, s0⟩ B σ H e) (hn : s0.length = n) (hle : n ≤ e.length) : SR K mg ⟨B0, H0, R, s0⟩ B s0 H ((e.take n).map keepR) := by
  have get : ∀ (i : Nat) (s : Sl), ((e.take n).map keepR)[i]? = some s → s = .no ∨ (e[i]? = some s ∧ s.isRef = true) := fun i s q => by
    rw [List.getElem?_map] at q
    by_cases hi : i < n
    · rw [List.getElem?_take_of_lt hi] at q
      cases hs : e[i]? with
      | none => rw [hs] at q; cases q
      | some s' =>
        rw [hs] at q
        have q : keepR s' = s := Option.some.inj q
        unfold keepR at q
        split at q
        · subst q; exact .inr ⟨rfl, by assumption⟩
        · exact .inl q.symm
    · rw [List.getElem?_eq_none (by simp; omega)] at q; cases q
  have at0 : ∀ (i : Nat) (s : Sl), e[i]? = some s → s.isRef = true → ∃ a, σ[i]? = some (some (V.ref a)) ∧ s0[i]? = some (some (V.ref a)) := fun i s q hr => by
    have ho : s.isOwn = true := by cases s <;> first | rfl | cases hr
    obtain ⟨a, o, e1, _, _, _, p3⟩ := (S.sl i s q).at_own ho
    exact ⟨a, e1, (p3 hr).2⟩
  refine ⟨S.le, S.bh, S.fh, S.nb, S.dm, by simp [hn]; omega, fun i s q => ?_, fun i j a hij hi hj e1 e2 => ?_⟩
  · rcases get i s q with rfl | ⟨h1, h2⟩
    · trivial
    · obtain ⟨a, h3, h4⟩ := at0 i s h1 h2
      have z := S.sl i s h1
      rw [h3] at z
      rw [h4]
      exact z
  · have key : ∀ i, ownAt ((e.take n).map keepR) i → s0[i]? = some (some (V.ref a)) → ownAt e i ∧ σ[i]? = some (some (V.ref a)) := fun i ⟨s, q, hs⟩ e1 => by
      rcases get i s q with rfl | ⟨h1, h2⟩
      · cases hs
      · obtain ⟨a', h3, h4⟩ := at0 i s h1 h2
        rw [e1] at h4
        cases h4
        exact ⟨⟨s, h1, hs⟩, h3⟩
    obtain ⟨o1, w1⟩ := key i hi e1
    obtain ⟨o2, w2⟩ := key j hj e2
    exact S.ds i j a hij o1 o2 w1 w2
end
section
variable {P : Program} {w : World} {K : PySem.W.Frag} {mg : Str → Option Value} {base : Heap} {x qual : Str} {st : Stmt} {f : Addr} {fd : FuncData} {N ps : List Str} {k : Nat} {g : M Fl}
theorem len_run {F : En → Res D} (hF : ∀ as, F as ≠ .bad → as.length = ps.length) (vs : List V) (H : Hp) (Q : VK) (E : XK) (h : spD K mg F vs H Q E) : vs.length = ps.length := by
  obtain ⟨B, R, e, S, q⟩ := h
  have h1 := hF e (fun z => by rw [z] at q; exact q)
  have h2 := S.ln
  rw [List.length_map] at h2
  exact h2.trans h1
theorem runF_len {n m : Nat} (as : En) (h : runF n m g as ≠ .bad) : as.length = n := by
  unfold runF at h
  split at h
  · rename_i hc; exact hc.1
  · exact absurd rfl h
/-- what the body's run asks -/
theorem body_ok {ts : TS} {vs : List V} {H : Hp} {Q : VK} {E : XK} (hN : ps.length ≤ N.length) (ev : EvS K mg (fun c d _ H' => E c d H') ts g) (h : spD K mg (runF ps.length N.length g) vs H Q E) : ts { nx := fun _ H' => Q .non H', rt := Q } (L2.start N vs) H := by
  obtain ⟨B, R, e, S, q⟩ := h
  have hl : e.length = ps.length := runF_len (g := g) (m := N.length) e (fun z => by rw [z] at q; exact q)
  have hv : vs.length = ps.length := by have := S.ln; rw [List.length_map] at this; exact this.trans hl
  unfold runF at q
  rw [if_pos ⟨hl, hN⟩] at q
  have Sp := S.pad (n := N.length - ps.length)
  have e0 : vs.map some ++ List.replicate (N.length - ps.length) none = L2.start N vs := by unfold L2.start; rw [hv]
  rw [e0] at Sp
  refine ev _ B _ H _ _ Sp ?_
  cases hg : g (e ++ List.replicate (N.length - ps.length) .no) with
  | bad => rw [hg] at q; exact q
  | exc z e1 =>
    rw [hg] at q
    have q : (if e1.length = N.length then Res.exc z ((e1.take ps.length).map keepR) else Res.bad).wp _ _ := q
    split at q
    · rename_i h1
      exact fun cls dd σ' B' H' S' l a => q cls dd B' H' (S'.out (by rw [List.length_map]; exact hv) (by omega)) a
    · exact False.elim q
  | ok fl e1 =>
    rw [hg] at q
    cases fl with
    | rt d =>
      have q : (if e1.length = N.length then Res.ok d ((e1.take ps.length).map keepR) else Res.bad).wp _ _ := q
      split at q
      · rename_i h1
        exact fun v σ' B' H' S' l a => q v B' H' (S'.out (by rw [List.length_map]; exact hv) (by omega)) a
      · exact False.elim q
    | nx =>
      have q : (if e1.length = N.length then Res.ok D.non ((e1.take ps.length).map keepR) else Res.bad).wp _ _ := q
      split at q
      · rename_i h1
        exact fun σ' B' H' S' l => q .non B' H' (S'.out (by rw [List.length_map]; exact hv) (by omega)) .non
      · exact False.elim q
    | bk => exact False.elim q
    | ct => exact False.elim q
    | rn d => exact False.elim q
theorem fn_ok (F : Fun K x qual st f fd) (S : FnScope N ps (defScope st)) (hN : ps.length ≤ N.length)
    (hb : ∀ (cdv : Value) (A : Around) (outer : List Env) (s : Shared) (H : Hp) (E : XK), Room k (A.deeper (envOfC qual (defScope st) s.heap.objs.size f cdv)) → PSsD (cxOf (L2.CX P w) P w K mg base N qual (defScope st) f cdv A outer s H E) (fun c d _ H' => E c d H') (defBody st) g) :
    FnOk P w K mg base (L2.CX P w) (k + 1) f fd ps (spD K mg (runF ps.length N.length g)) := by
  refine F.okX S (len_run fun as h => runF_len as h) fun cdv A outer s H vs Q E hr h => ?_
  obtain ⟨ts, p, ev⟩ := hb cdv A outer s H E hr
  exact ⟨ts, p, body_ok hN ev h⟩
/-- .. as what callers take -/
theorem fn_raw {G : En → Res D} (h : FnOk P w K mg base (L2.CX P w) k f fd ps (spD K mg G)) (b : Binds K fd ps []) : FnR P w K mg base (L2.CX P w) k f (spD K mg G) :=
  (FnOk.raw h b .nil).imp fun vs H Q E q => by rw [List.append_nil]; exact q

/-! ### defs that give a new list out -/
theorem runN_len {n m : Nat} (as : En) (h : runN n m g as ≠ .bad) : as.length = n := by
  unfold runN at h
  split at h
  · rename_i hc; exact hc.1
  · exact absurd rfl h
theorem len_runN {F : En → Res (List D)} (hF : ∀ as, F as ≠ .bad → as.length = ps.length) (vs : List V) (H : Hp) (Q : VK) (E : XK) (h : spN K mg F vs H Q E) : vs.length = ps.length := by
  obtain ⟨B, R, e, S, q⟩ := h
  have h1 := hF e (fun z => by rw [z] at q; exact q)
  have h2 := S.ln
  rw [List.length_map] at h2
  exact h2.trans h1
theorem body_okN {ts : TS} {vs : List V} {H : Hp} {Q : VK} {E : XK} (hN : ps.length ≤ N.length) (ev : EvS K mg (fun c d _ H' => E c d H') ts g) (h : spN K mg (runN ps.length N.length g) vs H Q E) : ts { nx := fun _ H' => Q .non H', rt := Q } (L2.start N vs) H := by
  obtain ⟨B, R, e, S, q⟩ := h
  have hl : e.length = ps.length := runN_len (g := g) (m := N.length) e (fun z => by rw [z] at q; exact q)
  have hv : vs.length = ps.length := by have := S.ln; rw [List.length_map] at this; exact this.trans hl
  unfold runN at q
  rw [if_pos ⟨hl, hN⟩] at q
  have Sp := S.pad (n := N.length - ps.length)
  have e0 : vs.map some ++ List.replicate (N.length - ps.length) none = L2.start N vs := by unfold L2.start; rw [hv]
  rw [e0] at Sp
  refine ev _ B _ H _ _ Sp ?_
  cases hg : g (e ++ List.replicate (N.length - ps.length) .no) with
  | bad => rw [hg] at q; exact q
  | exc z e1 =>
    rw [hg] at q
    have q : (if e1.length = N.length then Res.exc z ((e1.take ps.length).map keepR) else Res.bad).wp _ _ := q
    split at q
    · rename_i h1
      exact fun cls dd σ' B' H' S' l a => q cls dd B' H' (S'.out (by rw [List.length_map]; exact hv) (by omega)) a
    · exact False.elim q
  | ok fl e1 =>
    rw [hg] at q
    cases fl with
    | rn d =>
      have q : (if e1.length = N.length then Res.ok d ((e1.take ps.length).map keepR) else Res.bad).wp _ _ := q
      split at q
      · rename_i h1
        intro p xs σ' B' H' S' l a1 a2 a3 a4 a5
        exact q p xs B' H' (S'.out (by rw [List.length_map]; exact hv) (by omega)) a1 a2 a3 a4
      · exact False.elim q
    | rt d => exact False.elim q
    | nx => exact False.elim q
    | bk => exact False.elim q
    | ct => exact False.elim q
theorem fn_okN (F : Fun K x qual st f fd) (S : FnScope N ps (defScope st)) (hN : ps.length ≤ N.length)
    (hb : ∀ (cdv : Value) (A : Around) (outer : List Env) (s : Shared) (H : Hp) (E : XK), Room k (A.deeper (envOfC qual (defScope st) s.heap.objs.size f cdv)) → PSsD (cxOf (L2.CX P w) P w K mg base N qual (defScope st) f cdv A outer s H E) (fun c d _ H' => E c d H') (defBody st) g) :
    FnOk P w K mg base (L2.CX P w) (k + 1) f fd ps (spN K mg (runN ps.length N.length g)) := by
  refine F.okX S (len_runN fun as h => runN_len as h) fun cdv A outer s H vs Q E hr h => ?_
  obtain ⟨ts, p, ev⟩ := hb cdv A outer s H E hr
  exact ⟨ts, p, body_okN hN ev h⟩
theorem fn_rawN {G : En → Res (List D)} (h : FnOk P w K mg base (L2.CX P w) k f fd ps (spN K mg G)) (b : Binds K fd ps []) : FnR P w K mg base (L2.CX P w) k f (spN K mg G) :=
  (FnOk.raw h b .nil).imp fun vs H Q E q => by rw [List.append_nil]; exact q
end
end Dl

set_option maxHeartbeats 1000000
/-! Layer D, part 7: built-ins. -/
namespace Dl
open PySem PySem.Spec PyProof.Rows L2

def ClN (K : PySem.W.Frag) (mg : Str → Option Value) (W : WX) (r : List V → Hp → VK → Prop) (o : List D → M (List D)) : Prop := ∀ Z B σ H e xs as (Q : VK), SR K mg Z B σ H e → AtL K mg B xs as → (o as e).wp (PN K mg Z B σ Q) (PX K mg Z B σ W) → r xs H Q
section
variable {X : Cx} {W : WX} {es : List Expr} {e : Expr} {fr : M (List D)} {pos p : Pos} {x : Str} {id T : String} {r : List V → Hp → VK → Prop} {o : List D → M (List D)}
theorem evCN {K : PySem.W.Frag} {mg : Str → Option Value} {ta : TA} (ea : EvL K mg W ta fr) (hd : ClN K mg W r o) : EvN K mg W (tCB r ta) (bd fr o) := by
  intro Z B σ H e Q S h
  refine ea.then S h (fun x e' q => q) fun ds e1 vs B1 H1 S1 l1 a1 h1 => ?_
  exact hd Z B1 σ H1 e1 vs ds Q S1 a1 (upN l1 h1)
theorem pnd_callB (hc : CallR X (.builtin id) r) (hd : ClN X.K X.mg W r o) (hm : X.mg x = none) (hv : bootBuiltins x = some (.builtin id)) (ha : PAD X W (e :: es) fr) (hg : Gl X x := by rfl) (hn : x ≠ "__name__" := by decide) (hdb : (x == ("__debug__" : Str)) = false := by decide)
    (he : starEach (e :: es) X.env = (false, eval e X.env) :: starEach es X.env := by rfl) (hpl : (backTo pos (starEach es X.env)).any (·.1) = false := by rfl) : PND X W (.Call (.Name x p) (e :: es) [] pos) (bd fr o) := by
  obtain ⟨ta, pa, ea⟩ := ha
  exact ⟨_, pe_callB hc hg hm hv pa hn hdb he hpl, evCN ea hd⟩
theorem pnd_callTy (hc : CallR X (.type T) r) (hd : ClN X.K X.mg W r o) (hm : X.mg x = none) (hv : bootBuiltins x = some (.type T)) (ha : PAD X W (e :: es) fr) (hg : Gl X x := by rfl) (hn : x ≠ "__name__" := by decide) (hdb : (x == ("__debug__" : Str)) = false := by decide)
    (he : starEach (e :: es) X.env = (false, eval e X.env) :: starEach es X.env := by rfl) (hpl : (backTo pos (starEach es X.env)).any (·.1) = false := by rfl) : PND X W (.Call (.Name x p) (e :: es) [] pos) (bd fr o) := by
  obtain ⟨ta, pa, ea⟩ := ha
  exact ⟨_, pe_callTy hc hg hm hv pa hn hdb he hpl, evCN ea hd⟩
end

/-! ### data by kinds -/
def toInts : List D → Option (List Int)
  | [] => some []
  | .int i :: r => match toInts r with
    | some l => some (i :: l) | none => none
  | _ :: _ => none
def toBls : List D → Option (List Bool)
  | [] => some []
  | .bl i :: r => match toBls r with
    | some l => some (i :: l) | none => none
  | _ :: _ => none
theorem toInts_map : ∀ ns : List Int, toInts (ns.map D.int) = some ns
  | [] => rfl
  | n :: ns => by simp [toInts, toInts_map ns]
theorem toBls_map : ∀ ns : List Bool, toBls (ns.map D.bl) = some ns
  | [] => rfl
  | n :: ns => by simp [toBls, toBls_map ns]
theorem toInts_eq : ∀ {ds : List D} {ns : List Int}, toInts ds = some ns → ds = ns.map D.int
  | [], ns, h => by cases h; rfl
  | .int i :: r, ns, h => by
    unfold toInts at h
    cases q : toInts r with
    | none => rw [q] at h; cases h
    | some l => rw [q] at h; cases h; rw [toInts_eq q]; rfl
  | .non :: _, _, h => by cases h
  | .bl _ :: _, _, h => by cases h
  | .str _ :: _, _, h => by cases h
  | .tup _ :: _, _, h => by cases h
  | .lst _ :: _, _, h => by cases h
  | .obj _ _ _ :: _, _, h => by cases h
  | .scr _ :: _, _, h => by cases h
  | .dic :: _, _, h => by cases h
theorem toBls_eq : ∀ {ds : List D} {ns : List Bool}, toBls ds = some ns → ds = ns.map D.bl
  | [], ns, h => by cases h; rfl
  | .bl i :: r, ns, h => by
    unfold toBls at h
    cases q : toBls r with
    | none => rw [q] at h; cases h
    | some l => rw [q] at h; cases h; rw [toBls_eq q]; rfl
  | .non :: _, _, h => by cases h
  | .int _ :: _, _, h => by cases h
  | .str _ :: _, _, h => by cases h
  | .tup _ :: _, _, h => by cases h
  | .lst _ :: _, _, h => by cases h
  | .obj _ _ _ :: _, _, h => by cases h
  | .scr _ :: _, _, h => by cases h
  | .dic :: _, _, h => by cases h
theorem AtL.bls {K : PySem.W.Frag} {mg : Str → Option Value} {B : Hp} : ∀ {xs : List V} {ns : List Bool}, AtL K mg B xs (ns.map D.bl) → xs = ns.map V.bl
  | [], [], _ => rfl
  | _ :: _, _ :: _, .cons r t => by rw [r.bl_inv, AtL.bls t]; rfl

/-! ### sorting ints -/
def ins (x : Int) : List Int → List Int
  | [] => [x]
  | y :: r => if x ≤ y then x :: y :: r else y :: ins x r
def isort : List Int → List Int
  | [] => []
  | x :: r => ins x (isort r)
theorem ins_perm (x : Int) : ∀ l : List Int, (ins x l).Perm (x :: l)
  | [] => .refl _
  | y :: r => by
    unfold ins
    split
    · exact .refl _
    · exact ((ins_perm x r).cons y).trans (.swap x y r)
theorem isort_perm : ∀ l : List Int, (isort l).Perm l
  | [] => .refl _
  | x :: r => (ins_perm x (isort r)).trans ((isort_perm r).cons x)
theorem ins_sorted {x : Int} : ∀ {l : List Int}, l.Pairwise (· ≤ ·) → (ins x l).Pairwise (· ≤ ·)
  | [], _ => by simp [ins]
  | y :: r, h => by
    unfold ins
    have h2 := List.pairwise_cons.mp h
    split
    · rename_i hxy
      refine List.pairwise_cons.mpr ⟨fun z hz => ?_, h⟩
      rcases List.mem_cons.mp hz with rfl | hz
      · exact hxy
      · exact Int.le_trans hxy (h2.1 z hz)
    · rename_i hxy
      refine List.pairwise_cons.mpr ⟨fun z hz => ?_, ins_sorted h2.2⟩
      rcases List.mem_cons.mp ((ins_perm x r).mem_iff.mp hz) with rfl | hz
      · omega
      · exact h2.1 z hz
theorem isort_sorted : ∀ l : List Int, (isort l).Pairwise (· ≤ ·)
  | [] => .nil
  | _ :: r => ins_sorted (isort_sorted r)
theorem sorted_unique : ∀ {l m : List Int}, l.Perm m → l.Pairwise (· ≤ ·) → m.Pairwise (· ≤ ·) → l = m
  | [], m, p, _, _ => (List.Perm.nil_eq p)
  | x :: l, [], p, _, _ => absurd p.symm.nil_eq (by simp)
  | x :: l, y :: m, p, hl, hm => by
    have h1 := List.pairwise_cons.mp hl
    have h2 := List.pairwise_cons.mp hm
    have e : x = y := by
      have mx : x ∈ y :: m := p.mem_iff.mp List.mem_cons_self
      have my : y ∈ x :: l := p.mem_iff.mpr List.mem_cons_self
      rcases List.mem_cons.mp mx with e | mx
      · exact e
      · rcases List.mem_cons.mp my with e | my
        · exact e.symm
        · exact Int.le_antisymm (h1.1 y my) (h2.1 x mx)
    subst e
    rw [sorted_unique (List.Perm.cons_inv p) h1.2 h2.2]

/-! ### the rules -/
def d1 (f : D → Option D) : List D → M D := fun ds => li (match ds with
  | [d] => f d | _ => none)
def d2 (f : D → D → Option D) : List D → M D := fun ds => li (match ds with
  | [a, b] => f a b | _ => none)
def oLen : D → Option D
  | .lst xs => some (.int xs.length) | .tup xs => some (.int xs.length) | .scr xs => some (.int xs.length) | _ => none
def oAbs : D → Option D
  | .int i => some (.int (if i < 0 then -i else i)) | _ => none
def oMax : D → D → Option D
  | .int i, .int j => some (.int (if j > i then j else i)) | _, _ => none
def oMin : D → D → Option D
  | .int i, .int j => some (.int (if j < i then j else i)) | _, _ => none
def oInt : D → Option D
  | .int i => some (.int i) | .bl b => some (.int (if b then 1 else 0)) | _ => none
def oBool : D → Option D
  | .int i => some (.bl (i != 0)) | .bl b => some (.bl b) | _ => none
def oAll : D → Option D
  | .lst xs => match toBls xs with
    | some bs => some (.bl (bs.all id)) | none => none
  | _ => none
def oSum : D → Option D
  | .lst xs => match toInts xs with
    | some ns => some (.int ns.sum) | none => none
  | _ => none
def oTuple : D → Option D
  | .lst xs => some (.tup xs) | .tup xs => some (.tup xs) | _ => none
def nSort : List D → M (List D) := fun ds => li (match ds with
  | [.lst xs] => match toInts xs with
    | some ns => some ((isort ns).map D.int) | none => none
  | _ => none)
def nList : List D → M (List D) := fun ds => li (match ds with
  | [.lst xs] => some xs | [.tup xs] => some xs | _ => none)
section
variable {K : PySem.W.Frag} {mg : Str → Option Value} {W : WX}
theorem d1_ok {r : List V → Hp → VK → Prop} {f : D → Option D} (h : ∀ Z B σ H e v d z (Q : VK), SR K mg Z B σ H e → At K mg B v d → f d = some z → (∀ v' B' H', SR K mg Z B' σ H' e → Same B B' → At K mg B' v' z → Q v' H') → r [v] H Q) : ClD K mg W r (d1 f) := by
  intro Z B σ H e xs as Q S a q
  obtain ⟨z, h1, h2⟩ := wp_li q
  match as, a, h1 with
  | [d], .cons r .nil, h1 => exact h Z B σ H e _ d z Q S r h1 h2
theorem d2_ok {r : List V → Hp → VK → Prop} {f : D → D → Option D} (h : ∀ Z B σ H e v d v2 d2 z (Q : VK), SR K mg Z B σ H e → At K mg B v d → At K mg B v2 d2 → f d d2 = some z → (∀ v' B' H', SR K mg Z B' σ H' e → Same B B' → At K mg B' v' z → Q v' H') → r [v, v2] H Q) : ClD K mg W r (d2 f) := by
  intro Z B σ H e xs as Q S a q
  obtain ⟨z, h1, h2⟩ := wp_li q
  match as, a, h1 with
  | [d, d2], .cons r (.cons r2 .nil), h1 => exact h Z B σ H e _ d _ d2 z Q S r r2 h1 h2
theorem cd_len : ClD K mg W (fun xs H Q => ∃ p ys, xs = [.ref p] ∧ (SqL K H p ys ∨ SqT K H p ys) ∧ Q (.int ys.length) H) (d1 oLen) := d1_ok fun Z B σ H e v d z Q S r h q => by
  cases d with
  | lst xs =>
    cases h
    obtain ⟨a, vs, rfl, h1, h2⟩ := r.lst_inv
    exact ⟨a, vs, rfl, .inl (SqL.of (S.bh _ _ h1)), by rw [h2.length]; exact q _ B H S (Same.refl B) (.int _)⟩
  | tup xs =>
    cases h
    obtain ⟨a, vs, rfl, h1, h2⟩ := r.tup_inv
    exact ⟨a, vs, rfl, .inr (seqT S.bh h1), by rw [h2.length]; exact q _ B H S (Same.refl B) (.int _)⟩
  | scr xs =>
    cases h
    obtain ⟨a, rfl, h1⟩ := r.scr_inv
    exact ⟨a, _, rfl, .inl (S.bh.seq h1), by rw [List.length_map]; exact q _ B H S (Same.refl B) (.int _)⟩
  | _ => cases h
theorem cd_abs : ClD K mg W (fun xs H Q => ∃ i, xs = [.int i] ∧ Q (.int (if i < 0 then -i else i)) H) (d1 oAbs) := d1_ok fun Z B σ H e v d z Q S r h q => by
  cases d with
  | int i => cases h; exact ⟨i, by rw [r.int_inv], q _ B H S (Same.refl B) (.int _)⟩
  | _ => cases h
theorem cd_max : ClD K mg W (fun xs H Q => ∃ i j, xs = [.int i, .int j] ∧ Q (.int (if j > i then j else i)) H) (d2 oMax) := d2_ok fun Z B σ H e v d v2 d2 z Q S r r2 h q => by
  cases d with
  | int i => cases d2 with
    | int j => cases h; exact ⟨i, j, by rw [r.int_inv, r2.int_inv], q _ B H S (Same.refl B) (.int _)⟩
    | _ => cases h
  | _ => cases h
theorem cd_min : ClD K mg W (fun xs H Q => ∃ i j, xs = [.int i, .int j] ∧ Q (.int (if j < i then j else i)) H) (d2 oMin) := d2_ok fun Z B σ H e v d v2 d2 z Q S r r2 h q => by
  cases d with
  | int i => cases d2 with
    | int j => cases h; exact ⟨i, j, by rw [r.int_inv, r2.int_inv], q _ B H S (Same.refl B) (.int _)⟩
    | _ => cases h
  | _ => cases h
theorem cd_int : ClD K mg W (fun xs H Q => (∃ i, xs = [.int i] ∧ Q (.int i) H) ∨ ∃ k, xs = [.bl k] ∧ Q (.int (if k then 1 else 0)) H) (d1 oInt) := d1_ok fun Z B σ H e v d z Q S r h q => by
  cases d with
  | int i => cases h; exact .inl ⟨i, by rw [r.int_inv], q _ B H S (Same.refl B) (.int _)⟩
  | bl b => cases h; exact .inr ⟨b, by rw [r.bl_inv], q _ B H S (Same.refl B) (.int _)⟩
  | _ => cases h
theorem cd_bool : ClD K mg W (fun xs H Q => (∃ i, xs = [.int i] ∧ Q (.bl (i != 0)) H) ∨ ∃ k, xs = [.bl k] ∧ Q (.bl k) H) (d1 oBool) := d1_ok fun Z B σ H e v d z Q S r h q => by
  cases d with
  | int i => cases h; exact .inl ⟨i, by rw [r.int_inv], q _ B H S (Same.refl B) (.bl _)⟩
  | bl b => cases h; exact .inr ⟨b, by rw [r.bl_inv], q _ B H S (Same.refl B) (.bl _)⟩
  | _ => cases h
theorem cd_all : ClD K mg W (rAll K) (d1 oAll) := d1_ok fun Z B σ H e v d z Q S r h q => by
  cases d with
  | lst xs =>
    have h : (match toBls xs with
      | some bs => some (D.bl (bs.all id)) | none => none) = some z := h
    cases e1 : toBls xs with
    | none => rw [e1] at h; cases h
    | some bs =>
      rw [e1] at h
      cases h
      obtain ⟨a, vs, rfl, h1, h2⟩ := r.lst_inv
      rw [toBls_eq e1] at h2
      rw [h2.bls] at h1
      exact ⟨a, bs, rfl, SqL.of (S.bh _ _ h1), q _ B H S (Same.refl B) (.bl _)⟩
  | _ => cases h
theorem cd_sum : ClD K mg W (rSum K) (d1 oSum) := d1_ok fun Z B σ H e v d z Q S r h q => by
  cases d with
  | lst xs =>
    have h : (match toInts xs with
      | some bs => some (D.int bs.sum) | none => none) = some z := h
    cases e1 : toInts xs with
    | none => rw [e1] at h; cases h
    | some bs =>
      rw [e1] at h
      cases h
      obtain ⟨a, vs, rfl, h1, h2⟩ := r.lst_inv
      rw [toInts_eq e1] at h2
      rw [h2.ints] at h1
      exact ⟨a, bs, rfl, SqL.of (S.bh _ _ h1), q _ B H S (Same.refl B) (.int _)⟩
  | _ => cases h
theorem cd_tuple : ClD K mg W (fun xs H Q => ∃ p ys, xs = [.ref p] ∧ ((SqL K H p ys ∧ ∀ l, H l = none → Q (.ref l) (upd H l (.tup ys))) ∨ (SqT K H p ys ∧ Q (.ref p) H))) (d1 oTuple) := d1_ok fun Z B σ H e v d z Q S r h q => by
  cases d with
  | lst xs =>
    cases h
    obtain ⟨a, vs, rfl, h1, h2⟩ := r.lst_inv
    refine ⟨a, vs, rfl, .inl ⟨SqL.of (S.bh _ _ h1), fun l hl => ?_⟩⟩
    obtain ⟨S2, l2⟩ := S.new (o := .tup vs) hl
    exact q _ _ _ S2 l2 (.tup (SqT.of upd_same) (h2.mono l2))
  | tup xs =>
    cases h
    have r2 := r
    obtain ⟨a, vs, rfl, h1, h2⟩ := r.tup_inv
    exact ⟨a, vs, rfl, .inr ⟨seqT S.bh h1, q _ B H S (Same.refl B) r2⟩⟩
  | _ => cases h
theorem cn_sort : ClN K mg W (rSortedI K) nSort := by
  intro Z B σ H e xs as Q S a q
  obtain ⟨z, h1, h2⟩ := wp_li q
  match as, a, h1 with
  | [.lst ds], .cons r .nil, h1 =>
    have h1 : (match toInts ds with
      | some ns => some ((isort ns).map D.int) | none => none) = some z := h1
    cases e1 : toInts ds with
    | none => rw [e1] at h1; cases h1
    | some ns =>
      rw [e1] at h1
      cases h1
      obtain ⟨a, vs, rfl, g1, g2⟩ := r.lst_inv
      rw [toInts_eq e1] at g2
      rw [g2.ints] at g1
      refine ⟨a, ns, rfl, SqL.of (S.bh _ _ g1), fun ns' p pm pw hp => ?_⟩
      have e2 : ns' = isort ns := sorted_unique (pm.trans (isort_perm ns).symm) pw (isort_sorted ns)
      subst e2
      obtain ⟨S2, hB, h0, hf⟩ := S.newO (o := .lst ((isort ns).map V.int)) hp
      exact h2 p _ B _ S2 (Same.refl B) upd_same (.of_ints _) hB h0 hf
theorem cn_list : ClN K mg W (fun xs H Q => ∃ p ys, xs = [.ref p] ∧ (SqL K H p ys ∨ SqT K H p ys) ∧ ∀ l, H l = none → Q (.ref l) (upd H l (.lst ys))) nList := by
  intro Z B σ H e xs as Q S a q
  obtain ⟨z, h1, h2⟩ := wp_li q
  match as, a, h1 with
  | [.lst ds], .cons r .nil, h1 =>
    cases h1
    obtain ⟨a, vs, rfl, g1, g2⟩ := r.lst_inv
    refine ⟨a, vs, rfl, .inl (SqL.of (S.bh _ _ g1)), fun p hp => ?_⟩
    obtain ⟨S2, hB, h0, hf⟩ := S.newO (o := .lst vs) hp
    exact h2 p _ B _ S2 (Same.refl B) upd_same g2 hB h0 hf
  | [.tup ds], .cons r .nil, h1 =>
    cases h1
    obtain ⟨a, vs, rfl, g1, g2⟩ := r.tup_inv
    refine ⟨a, vs, rfl, .inr (seqT S.bh g1), fun p hp => ?_⟩
    obtain ⟨S2, hB, h0, hf⟩ := S.newO (o := .lst vs) hp
    exact h2 p _ B _ S2 (Same.refl B) upd_same g2 hB h0 hf
end

/-! ### == and != of data -/
mutual
def toP : D → Option PyData
  | .non => some .none | .bl b => some (.bool b) | .int i => some (.int i) | .str x => some (.str x)
  | .tup ds => match toPs ds with
    | some l => some (.tuple l) | none => none
  | .lst ds => match toPs ds with
    | some l => some (.list l) | none => none
  | _ => none
def toPs : List D → Option (List PyData)
  | [] => some []
  | d :: ds => match toP d, toPs ds with
    | some p, some l => some (p :: l) | _, _ => none
end
section
variable {K : PySem.W.Frag} {mg : Str → Option Value} {W : WX} {B H : Hp}
mutual
theorem At.dp (l : Same B H) : ∀ {v : V} {d : D} {p : PyData}, At K mg B v d → toP d = some p → Dp K H v p
  | _, _, _, .non, h => by simp [toP] at h; subst h; exact .non
  | _, _, _, .bl b, h => by simp [toP] at h; subst h; exact .bl b
  | _, _, _, .int i, h => by simp [toP] at h; subst h; exact .int i
  | _, _, _, .str x, h => by simp [toP] at h; subst h; exact .str x
  | _, .tup ds, _, .tup q r, h => by
    unfold toP at h
    cases e : toPs ds with
    | none => rw [e] at h; cases h
    | some ps => rw [e] at h; cases h; exact .tup (seqT l q) (AtL.dp l r e)
  | _, .lst ds, _, .lst q r, h => by
    unfold toP at h
    cases e : toPs ds with
    | none => rw [e] at h; cases h
    | some ps => rw [e] at h; cases h; exact .lst (SqL.of (l _ _ q)) (AtL.dp l r e)
  | _, _, _, .obj _ _ _ _, h => by simp [toP] at h
  | _, _, _, .scr _, h => by simp [toP] at h
  | _, _, _, .dic _, h => by simp [toP] at h
theorem AtL.dp (l : Same B H) : ∀ {v : List V} {d : List D} {p : List PyData}, AtL K mg B v d → toPs d = some p → DpAll K H v p
  | _, _, _, .nil, h => by simp [toPs] at h; subst h; exact .nil
  | _, d :: ds, _, .cons r t, h => by
    unfold toPs at h
    cases e : toP d with
    | none => rw [e] at h; cases h
    | some p =>
      cases e2 : toPs ds with
      | none => rw [e, e2] at h; cases h
      | some ps => rw [e, e2] at h; cases h; exact .cons (At.dp l r e) (AtL.dp l t e2)
end
def eqD (a b : D) : Option Bool := match toP a, toP b with
  | some p, some q => if SeqAt.shaped p = true ∧ SeqAt.shaped q = true then some (PyData.eqv p q) else none
  | _, _ => none
def dEq : D → D → M D := fun a b => li ((eqD a b).map D.bl)
def dNe : D → D → M D := fun a b => li ((eqD a b).map fun c => D.bl (!c))
theorem eqD_at {Z : Ent} {σ : St} {e : En} {x y : V} {a b : D} {c : Bool} (S : SR K mg Z B σ H e) (ha : At K mg B x a) (hb : At K mg B y b) (h : eqD a b = some c) : ∃ p q, Dp K H x p ∧ Dp K H y q ∧ SeqAt.shaped p = true ∧ SeqAt.shaped q = true ∧ PyData.eqv p q = c := by
  unfold eqD at h
  cases e1 : toP a with
  | none => rw [e1] at h; cases h
  | some p =>
    cases e2 : toP b with
    | none => rw [e1, e2] at h; cases h
    | some q =>
      rw [e1, e2] at h
      have h : (if SeqAt.shaped p = true ∧ SeqAt.shaped q = true then some (PyData.eqv p q) else none) = some c := h
      split at h
      · rename_i hc
        cases h
        exact ⟨p, q, ha.dp S.bh e1, hb.dp S.bh e2, hc.1, hc.2, rfl⟩
      · cases h
theorem od_eq : OpD K mg W (rEqD K) dEq := by
  intro Z B σ H e x y a b Q S ha hb q
  obtain ⟨d, h1, h2⟩ := wp_li q
  cases e1 : eqD a b with
  | none => rw [e1] at h1; cases h1
  | some c =>
    rw [e1] at h1
    cases h1
    obtain ⟨p, q, w1, w2, w3, w4, rfl⟩ := eqD_at S ha hb e1
    exact ⟨p, q, w1, w2, w3, w4, h2 _ B H S (Same.refl B) (.bl _)⟩
theorem od_ne : OpD K mg W (rNeD K) dNe := by
  intro Z B σ H e x y a b Q S ha hb q
  obtain ⟨d, h1, h2⟩ := wp_li q
  cases e1 : eqD a b with
  | none => rw [e1] at h1; cases h1
  | some c =>
    rw [e1] at h1
    cases h1
    obtain ⟨p, q, w1, w2, w3, w4, rfl⟩ := eqD_at S ha hb e1
    exact ⟨p, q, w1, w2, w3, w4, h2 _ B H S (Same.refl B) (.bl _)⟩
end

/-! ### isinstance with built-in classes -/
/-- the type's name -/
def tyD : D → Option String
  | .non => some "NoneType" | .bl _ => some "bool" | .int _ => some "int" | .str _ => some "str" | .tup _ => some "tuple" | .lst _ => some "list" | .scr _ => some "list" | .dic => some "dict" | .obj _ _ _ => none
theorem At.ty {K : PySem.W.Frag} {mg : Str → Option Value} {B H : Hp} {v : V} {d : D} {t : String} (l : Same B H) (r : At K mg B v d) (h : tyD d = some t) : TyX K H v (.type t) := by
  cases r with
  | non => cases h; exact .base .non
  | bl b => cases h; exact .base (.bl b)
  | int i => cases h; exact .base (.int i)
  | str x => cases h; exact .base (.str x)
  | tup q _ =>
    cases h
    rcases q with (q | ⟨o, q⟩) | ⟨o, its, n, hk, hc, _⟩
    · exact .base (.tup (l _ _ q))
    · exact .fTuple (l _ _ q)
    · exact .kTuple hk hc
  | lst q _ => cases h; exact .base (.lst (l _ _ q))
  | scr q =>
    cases h
    rcases q with (q | ⟨o, q⟩) | ⟨o, its, n, hk, hc, _⟩
    · exact .base (.lst (l _ _ q))
    · exact .base (.frz (l _ _ q))
    · exact .kList hk hc
  | dic q => cases h; exact .base (.dK (l _ _ q))
  | obj _ _ _ _ => cases h
def tys : List String := ["NoneType", "bool", "int", "str", "tuple", "list", "dict"]
theorem tyD_mem {d : D} {t : String} (h : tyD d = some t) : t ∈ tys := by cases d <;> cases h <;> decide
/-- isinstance(.., T): T one built-in class, by its table -/
def isTab (T : String) (t : String) : Bool := t == T || (T == "int" && t == "bool")
def oIs (T : String) : D → Option D := fun d => match tyD d with
  | some t => some (.bl (isTab T t)) | none => none
def oIs2 (T U : String) : D → Option D := fun d => match tyD d with
  | some t => some (.bl (isTab T t || isTab U t)) | none => none
section
variable {X : Cx} {W : WX} {a : Expr} {fa : M D} {p1 p2 pos pt : Pos} {x T : Str} {k1 : Nat}
theorem ped_is {T : String} {x : Str} (hT : ∀ t ∈ tys, kitB t T = some (isTab T t)) (ha : PED X W a fa) (hm : X.mg "isinstance" = none) (hx : X.mg x = none) (hv : bootBuiltins x = some (.type T)) (hg : Gl X "isinstance" := by rfl) (hgx : Gl X x := by rfl) (hn : x ≠ "__name__" := by decide) (hdb : (x == ("__debug__" : Str)) = false := by decide)
    (he : starEach (a :: [.Name x p2]) X.env = (false, eval a X.env) :: starEach [.Name x p2] X.env := by rfl) (he2 : starEach (.Name x p2 :: []) X.env = (false, eval (.Name x p2) X.env) :: starEach [] X.env := by rfl) (hpl : (backTo pos (starEach [.Name x p2] X.env)).any (·.1) = false := by rfl) :
    PED X W (.Call (.Name "isinstance" p1) [a, .Name x p2] [] pos) (bd fa fun d => li (oIs T d)) := by
  obtain ⟨ta, pa, ea⟩ := ha
  refine ⟨_, pe_callB call_isi hg hm (by decide +kernel) (pa_cons pa (pa_cons (pe_bltn (v := .ty T) hgx hx hv rfl hn hdb) pa_nil he2) he) (by decide) (by decide) he hpl, fun Z B σ H e Q S h => ?_⟩
  refine ea.then S h (fun x e' q => q) fun d e1 v B1 H1 S1 l1 a1 h1 => ?_
  obtain ⟨z, h2, h3⟩ := wp_li h1
  unfold oIs at h2
  cases e2 : tyD d with
  | none => rw [e2] at h2; cases h2
  | some t =>
    rw [e2] at h2
    cases h2
    exact ⟨v, .ty T, .type t, .type T, _, rfl, .ty T, a1.ty S1.bh e2, kit_ty (hT t (tyD_mem e2)), h3 _ B1 H1 S1 l1 (.bl _)⟩
theorem ped_is2 {T U : String} {x y : Str} {p3 : Pos} (hT : ∀ t ∈ tys, kitB t T = some (isTab T t)) (hU : ∀ t ∈ tys, kitB t U = some (isTab U t)) (ha : PED X W a fa) (hm : X.mg "isinstance" = none) (hx : X.mg x = none) (hv : bootBuiltins x = some (.type T)) (hy : X.mg y = none) (hw : bootBuiltins y = some (.type U))
    (hg : Gl X "isinstance" := by rfl) (hgx : Gl X x := by rfl) (hgy : Gl X y := by rfl) (hn : x ≠ "__name__" := by decide) (hdb : (x == ("__debug__" : Str)) = false := by decide) (hn2 : y ≠ "__name__" := by decide) (hdb2 : (y == ("__debug__" : Str)) = false := by decide)
    (he : starEach (a :: [.Tuple [.Name x p2, .Name y p3] k1 pt]) X.env = (false, eval a X.env) :: starEach [.Tuple [.Name x p2, .Name y p3] k1 pt] X.env := by rfl) (he2 : starEach (.Tuple [.Name x p2, .Name y p3] k1 pt :: []) X.env = (false, eval (.Tuple [.Name x p2, .Name y p3] k1 pt) X.env) :: starEach [] X.env := by rfl)
    (he3 : starEach (.Name x p2 :: [.Name y p3]) X.env = (false, eval (.Name x p2) X.env) :: starEach [.Name y p3] X.env := by rfl) (he4 : starEach (.Name y p3 :: []) X.env = (false, eval (.Name y p3) X.env) :: starEach [] X.env := by rfl)
    (hpl : (backTo pos (starEach [.Tuple [.Name x p2, .Name y p3] k1 pt] X.env)).any (·.1) = false := by rfl) :
    PED X W (.Call (.Name "isinstance" p1) [a, .Tuple [.Name x p2, .Name y p3] k1 pt] [] pos) (bd fa fun d => li (oIs2 T U d)) := by
  obtain ⟨ta, pa, ea⟩ := ha
  refine ⟨_, pe_callB call_isiT hg hm (by decide +kernel) (pa_cons pa (pa_cons (pe_tup (pa_cons (pe_bltn (v := .ty T) hgx hx hv rfl hn hdb) (pa_cons (pe_bltn (v := .ty U) hgy hy hw rfl hn2 hdb2) pa_nil he4) he3)) pa_nil he2) he) (by decide) (by decide) he hpl, fun Z B σ H e Q S h => ?_⟩
  refine ea.then S h (fun x e' q => q) fun d e1 v B1 H1 S1 l1 a1 h1 => ?_
  obtain ⟨z, h2, h3⟩ := wp_li h1
  unfold oIs2 at h2
  cases e2 : tyD d with
  | none => rw [e2] at h2; cases h2
  | some t =>
    rw [e2] at h2
    cases h2
    refine ⟨by show 2 ≤ sizeLine; decide, fun q hq => ?_⟩
    obtain ⟨S2, l2⟩ := S1.new (o := .tup [.ty T, .ty U]) hq
    refine ⟨v, q, [.ty T, .ty U], .type t, [.type T, .type U], _, rfl, upd_same, .cons (.ty T) (.cons (.ty U) .nil), (a1.mono l2).ty S2.bh e2, ?_, h3 _ _ _ S2 (l1.trans l2) (.bl _)⟩
    have k1 := kit_ty (K := X.K) (hT t (tyD_mem e2))
    have k2 := kit_ty (K := X.K) (hU t (tyD_mem e2))
    cases c1 : isTab T t with
    | true => rw [c1] at k1; exact kitAny_cons k1 (fun z => nomatch z) (fun _ => by simp)
    | false =>
      rw [c1] at k1
      refine kitAny_cons k1 (fun _ => ?_) (fun z => nomatch z)
      cases c2 : isTab U t with
      | true => rw [c2] at k2; exact kitAny_cons k2 (fun z => nomatch z) (fun _ => by simp)
      | false => rw [c2] at k2; exact kitAny_cons k2 (fun _ => by simpa using kitAny_nil) (fun z => nomatch z)
end
theorem tab_int : ∀ t ∈ tys, kitB t "int" = some (isTab "int" t) := by decide +kernel
theorem tab_bool : ∀ t ∈ tys, kitB t "bool" = some (isTab "bool" t) := by decide +kernel
theorem tab_str : ∀ t ∈ tys, kitB t "str" = some (isTab "str" t) := by decide +kernel
theorem tab_list : ∀ t ∈ tys, kitB t "list" = some (isTab "list" t) := by decide +kernel
theorem tab_tuple : ∀ t ∈ tys, kitB t "tuple" = some (isTab "tuple" t) := by decide +kernel
end Dl

set_option maxHeartbeats 1000000
/-! Layer D, part 8: operators of own classes, ranges of any size, fields stored. -/
namespace Dl
open PySem PySem.Spec PyProof.Rows L2 RZ

/-! ### what a class holds under a special name -/
def OpI (P : Program) (w : World) (K : PySem.W.Frag) (mg : Str → Option Value) (base : Heap) (k : Nat) (c n : Str) (F : En → Res D) : Prop :=
  ∃ C f, mg c = some (.ref C) ∧ PySem.W.findIn K (.ref C) n = some (some (.ref f)) ∧ PySem.W.isFn K (.ref f) = true ∧ PySem.W.selfFirst K C = true ∧ FnR P w K mg base (L2.CX P w) k f (spD K mg F)
def NeI (K : PySem.W.Frag) (mg : Str → Option Value) (c : Str) : Prop := ∃ C, mg c = some (.ref C) ∧ PySem.W.findIn K (.ref C) "__ne__" = some (some (.builtin "object.__ne__")) ∧ PySem.W.mroIn K C (.type "object") = some true
def IsI (K : PySem.W.Frag) (mg : Str → Option Value) (c : Str) : Prop := ∃ C, mg c = some (.ref C) ∧ Cls K C
def d1m (F : En → Res D) (c : Str) : D → M D := fun a => match a with
  | .obj c' ns ds => if c' = c then noExc (callR F [.d (.obj c' ns ds)]) else fun _ => .bad
  | _ => fun _ => .bad
def d2m (F : En → Res D) (c : Str) : D → D → M D := fun a b => match a, b with
  | .obj c1 n1 s1, .obj c2 n2 s2 => if c1 = c ∧ c2 = c then noExc (callR F [.d (.obj c1 n1 s1), .d (.obj c2 n2 s2)]) else fun _ => .bad
  | _, _ => fun _ => .bad
def asB : D → M Bool := fun d => li (match d with
  | .bl b => some b | _ => none)
def d2n (F : En → Res D) (c : Str) : D → D → M D := fun a b => bd (d2m F c a b) fun d => bd (asB d) fun b => pu (.bl (!b))
def rOwn1 (C : Addr) (sp : Sp) : V → Hp → VK → Prop := fun x H Q => ∃ a dx fs, x = .ref a ∧ H a = some (.ins C dx fs) ∧ sp [x] H Q E0
def rOwn2 (C : Addr) (sp : Sp) : R2 := fun x y H Q => ∃ a b dx fs dy gs, x = .ref a ∧ y = .ref b ∧ H a = some (.ins C dx fs) ∧ H b = some (.ins C dy gs) ∧ sp [x, y] H Q E0

section
variable {K : PySem.W.Frag} {mg : Str → Option Value} {W : WX} {c : Str} {C : Addr} {F : En → Res D}
theorem d1m_ok {Z : Ent} {B : Hp} {σ : St} {H : Hp} {e : En} {x : V} {a : D} {Q : VK} (hm : mg c = some (.ref C)) (S : SR K mg Z B σ H e) (ha : At K mg B x a) (q : (d1m F c a e).wp (PV K mg Z B σ Q) (PX K mg Z B σ W)) : rOwn1 C (spD K mg F) x H Q := by
  cases a with
  | obj c1 n1 s1 =>
    by_cases hc : c1 = c
    · subst hc
      have q2 : ((if c1 = c1 then noExc (callR F [.d (.obj c1 n1 s1)]) else fun _ => .bad) e).wp (PV K mg Z B σ Q) (PX K mg Z B σ W) := q
      rw [if_pos rfl] at q2
      have ha2 := ha
      obtain ⟨p, C1, dx, fs, rfl, g1, g2, g3, g4⟩ := ha.obj_inv
      obtain rfl := ref_inj g1 hm
      exact ⟨p, dx, fs, rfl, S.bh _ _ g2, callR_ok (W := fun _ _ _ _ => False) S (.cons (.d ha2) .nil) ((noExc_wp q2).imp (fun _ _ q => q) fun _ _ q => False.elim q)⟩
    · have q2 : ((if c1 = c then noExc (callR F [.d (.obj c1 n1 s1)]) else fun _ => .bad) e).wp (PV K mg Z B σ Q) (PX K mg Z B σ W) := q
      rw [if_neg hc] at q2
      exact False.elim q2
  | _ => exact False.elim q
theorem od_own2 (hm : mg c = some (.ref C)) : OpD K mg W (rOwn2 C (spD K mg F)) (d2m F c) := by
  intro Z B σ H e x y a b Q S ha hb q
  cases a with
  | obj c1 n1 s1 => cases b with
    | obj c2 n2 s2 =>
      have q2 : ((if c1 = c ∧ c2 = c then noExc (callR F [.d (.obj c1 n1 s1), .d (.obj c2 n2 s2)]) else fun _ => .bad) e).wp (PV K mg Z B σ Q) (PX K mg Z B σ W) := q
      by_cases hc : c1 = c ∧ c2 = c
      · rw [if_pos hc] at q2
        obtain ⟨hc1, hc2⟩ := hc
        subst hc1 hc2
        have ha2 := ha
        have hb2 := hb
        obtain ⟨p, C1, dx, fs, rfl, g1, g2, g3, g4⟩ := ha.obj_inv
        obtain ⟨p2, C2, dy, gs, rfl, k1, k2, k3, k4⟩ := hb.obj_inv
        obtain rfl := ref_inj g1 hm
        obtain rfl := ref_inj k1 hm
        exact ⟨p, p2, dx, fs, dy, gs, rfl, rfl, S.bh _ _ g2, S.bh _ _ k2, callR_ok (W := fun _ _ _ _ => False) S (.cons (.d ha2) (.cons (.d hb2) .nil)) ((noExc_wp q2).imp (fun _ _ q => q) fun _ _ q => False.elim q)⟩
      · rw [if_neg hc] at q2
        exact False.elim q2
    | _ => exact False.elim q
  | _ => exact False.elim q
/-- .. the answer not taken as it is, but negated -/
def rNeg (r : R2) : R2 := fun x y H Q => r x y H fun v H' => ∃ b, v = .bl b ∧ Q (.bl (!b)) H'
theorem od_own2n (hm : mg c = some (.ref C)) : OpD K mg W (rNeg (rOwn2 C (spD K mg F))) (d2n F c) := by
  intro Z B σ H e x y a b Q S ha hb q
  refine od_own2 (W := W) hm Z B σ H e x y a b _ S ha hb ((wp_bd.mp q).imp (fun d e1 h1 v B1 H1 S1 l1 a1 => ?_) fun _ _ q => q)
  obtain ⟨b, h2, h3⟩ := wp_li (wp_bd.mp h1)
  cases d with
  | bl b' =>
    cases h2
    exact ⟨b, a1.bl_inv, h3 _ B1 H1 S1 l1 (.bl _)⟩
  | _ => cases h2
end

section
variable {X : Cx} {k j : Nat} {sp : Sp} {f C : Addr} {c : Str} {F : En → Res D}
theorem run_0 {pins : List (Addr × Obj)} {σ : St} {H : Hp} {s : Shared} {Q : VK} {us : List Value} {vs : List V} (G : FnR X.prog X.w X.K X.mg X.base (L2.CX X.prog X.w) k f sp) (hr : Room k X.A) (I : Inv X pins σ H s) (r : Vals vs us) (h : sp vs H Q E0) :
    wpAny (model X.prog X.w) X.A (call (.ref f) us) (EP X pins σ Q) X.xe s := wpAny_call (run_R (W := WNo) G hr takes0 I r h)
theorem run_0in {pins : List (Addr × Obj)} {σ : St} {H : Hp} {s : Shared} {Q : VK} {us : List Value} {vs : List V} (G : FnR X.prog X.w X.K X.mg X.base (L2.CX X.prog X.w) k f sp) (hr : Room (k + 1) X.A) (I : Inv X pins σ H s) (r : Vals vs us) (h : sp vs H Q E0) {E : Value → Shared → Prop} :
    wpAny (model X.prog X.w) X.A.in1 (call (.ref f) us) (EP X pins σ Q) E s := by
  refine wpAny_call (codeAny_mono (G X.A.in1 X.stack s H us vs Q E0 hr.in1 I.env0.in1 r h) fun r s' hq => ?_)
  cases r with
  | error er => exact False.elim (passL (X := X.nox) pins σ H s er s' (I.wish _) hq)
  | ok fl => cases fl with
    | ret u => exact I.after hq
    | next => exact False.elim hq
    | brk => exact False.elim hq
    | cont => exact False.elim hq
end

/-! ### the rules of operators -/
theorem noone_bind (self : Value) : bindSpecial (.builtin "object.__ne__") self = pure (.builtin "object.__ne__", [self]) :=
  (Slot.of (T := "object") (name := "__ne__") (owner := "object") (n := "__ne__") (by rw [typeLookup_type, builtinLookup_eq_fast]; kernel_rfl) (by decide +kernel) (by decide +kernel) (by decide +kernel) (.inl (by decide +kernel)) (by rw [isSubtype_type]; kernel_rfl)).bind self
theorem plain_one : plainId "object.__ne__" = true := (Slot.of (T := "object") (name := "__ne__") (owner := "object") (n := "__ne__") (by rw [typeLookup_type, builtinLookup_eq_fast]; kernel_rfl) (by decide +kernel) (by decide +kernel) (by decide +kernel) (.inl (by decide +kernel)) (by rw [isSubtype_type]; kernel_rfl)).plain
section
variable {prog : Program} {w : World} {A : Around} {E : Value → Shared → Prop} {s : Shared} {K : PySem.W.Frag} {x C f : Addr} {ox : Obj} {od : Option Obj} {b : Value}
/-- x != b where the class has an own == alone -/
theorem ne_K {Q : Value → Shared → Prop} (hu : A.units + 1 < cLine) (X : K.In s.heap) (I : PySem.W.InstAt s.heap x ox C od) (hb : PySem.W.Looks (model prog w) s.heap (typeOf b) (.ref C)) (hn : PySem.W.findIn K (.ref C) "__ne__" = some (some (.builtin "object.__ne__")))
    (hm : PySem.W.mroIn K C (.type "object") = some true) (hs : PySem.W.findIn K (.ref C) "__eq__" = some (some (.ref f))) (hf : PySem.W.isFn K (.ref f) = true)
    (h : wpAny (model prog w) A.in1 (call (.ref f) [.ref x, b]) (fun v s' => ∃ c, v = .bool c ∧ Q (.bool (!c)) s') E s) : wpAny (model prog w) A (richCompare .NotEq (.ref x) b) Q E s := by
  have ent : wpAny (model prog w) A.in1 (Builtin.«object.__ne__» ⟨[.ref x, b], []⟩) (fun fin s' => ∃ c, fin = .done (.ret (.bool c)) ∧ Q (.bool c) s') E s := by
    unfold Builtin.«object.__ne__»
    obtain ⟨hp, g, d, tk, os⟩ := s
    repeat (first
      | with_reducible refine wpAny_cRoomFor (A := A.in1) hu ?_
      | (refine wpAny_bind (m := callSpecialIfBound? (.ref x) (Str.ofString "__eq__") [b])
          (PySem.W.ifBound_K X I hs hf (wpAny_mono h (fun r s' hr => by
            obtain ⟨c, rfl, hq⟩ := hr
            obtain ⟨hp', g', d', tk', os'⟩ := s'
            repeat (first | exact ⟨_, rfl, hq⟩ | (refine wpAny_bind (m := truthy (.bool _)) (wpAny_truthy_bool ?_)) | exact wpAny_pure ⟨_, rfl, hq⟩ | wp_step)) fun _ _ e => e)))
      | wp_step)
  have tc : wpAny (model prog w) A (tryCompare (.ref x) "__ne__" b) (fun r s' => ∃ v, r = some v ∧ Q v s') E s := by
    unfold tryCompare
    refine wpAny_bind (m := callSpecialIfBound? (.ref x) (Str.ofString "__ne__") [b]) ?_
    simp only [callSpecialIfBound?, bindSpecialIfBound?]
    refine wpAny_holding (wpAny_bind (wpAny_bind (wpAny_bind (I.type.here ((PySem.W.looks_findIn X hn).here ?_)))))
    simp only [noone_bind]
    refine wpAny_bind (wpAny_askSetting (wpAny_ite ?_))
    have fin : wpAny (model prog w) A (call (.builtin "object.__ne__") ([.ref x] ++ [b]) >>= fun v => pure (some v)) (fun r s' => ∃ c, r = some (.bool c) ∧ Q (.bool c) s') E s := by
      refine wpAny_bind (wpAny_call (codeAny_call_builtin plain_one F.cmpEntry_ne (PySem.W.check_slot F.cmpKind_ne F.cmpSplit_ne (I.type.andThen (PySem.W.looks_mroIn X hm)) (F.cmpArgs_ne _ _) (wpAny_mono ent (fun fin s' z => ?_) fun _ _ z => z))))
      obtain ⟨c, rfl, hq⟩ := z
      exact wpAny_pure ⟨_, rfl, hq⟩
    split
    · refine wpAny_bind (wpAny_pure (wpAny_pure (wpAny_mono (by exact fin) (fun r s' z => ?_) fun _ _ z => z)))
      obtain ⟨c, rfl, hq⟩ := z
      exact wpAny_pure ⟨_, rfl, hq⟩
    · refine wpAny_tryCatch (wpAny_bind (wpAny_pure (wpAny_pure (wpAny_mono (by exact fin) (fun r s' z => ?_) fun _ _ z => z))))
      obtain ⟨c, rfl, hq⟩ := z
      exact wpAny_pure ⟨_, rfl, hq⟩
  unfold richCompare
  simp only [oneThing_ref]
  refine wpAny_holding (wpAny_bind (wpAny_cRoomFor (Nat.lt_of_succ_lt hu) ?_))
  refine wpAny_bind (I.type.here (wpAny_bind (hb.here ?_)))
  rw [show (Value.ref C != Value.ref C) = false from by simp]
  simp only [Bool.false_eq_true, if_false]
  refine wpAny_bind (wpAny_pure ?_)
  simp only [Bool.false_eq_true, if_false]
  refine wpAny_bind (wpAny_mono tc (fun r s' z => ?_) fun _ _ e => e)
  obtain ⟨v, rfl, hq⟩ := z
  exact wpAny_pure hq
end
end Dl

set_option maxHeartbeats 400000
/-! Layer D, part 9: the rules of own operators, ranges of any size, fields stored. -/
namespace Dl
open PySem PySem.Spec PyProof.Rows L2 RZ

section
variable {X : Cx} {j k : Nat} {c : Str} {F : En → Res D} {W : WX}
/-- a handed value is no NotImplemented -/
theorem rel_ne {v : V} {u : Value} (r : RelV v u) : u ≠ .notImplemented := by
  intro z
  subst z
  cases v <;> first | exact nomatch r | (obtain ⟨t, q⟩ := r; exact nomatch q) | (obtain ⟨t, u, q⟩ := r; exact nomatch q)
theorem cmpBack_ep {pins : List (Addr × Obj)} {σ : St} {Q : VK} {v : Value} {s' : Shared} (h : EP X pins σ Q v s') : PySem.W.CmpBack (EP X pins σ Q) v s' := by
  obtain ⟨y, H', I, r, q⟩ := h
  have ne := rel_ne r
  cases v <;> first | exact absurd rfl ne | exact ⟨y, H', I, r, q⟩
/-- o op o of one own class -/
theorem ped_own {op : Operator} {a b : Expr} {fa fb : M D} {pos : Pos} (cf : OpI X.prog X.w X.K X.mg X.base k c (PySem.dunder op.info.2) F) (hr : Room j X.A) (hk : k ≤ j) (ha : PED X W a fa) (hb : PED X W b fb) : PED X W (.BinOp a op b pos) (f2 (d2m F c) fa fb) := by
  obtain ⟨C, f, hm, hs, hf, sf, G⟩ := cf
  refine ped_op (r := rOwn2 C (spD X.K X.mg F)) ?_ (od_own2 hm) ha hb
  intro pins s σ H x y v u Q I rx ry h
  obtain ⟨p, p2, dx, fs, dy, gs, rfl, rfl, h1, h2, h3⟩ := h
  cases rx
  cases ry
  obtain ⟨mA, J, _⟩ := ins_get I.hok h1
  obtain ⟨mB, J', _⟩ := ins_get I.hok h2
  obtain ⟨od, J, _⟩ := J.look
  obtain ⟨od', J', _⟩ := J'.look
  obtain ⟨m, hF⟩ := I.fr
  exact PySem.W.binop_K hF I.ok.mod.kin J J'.type sf hs hf (wpAny_mono (run_0 (us := [.ref p, .ref p2]) (vs := [.ref p, .ref p2]) G (hr.mono hk) I (.cons rfl (.cons rfl .nil)) h3) (fun _ _ z => cmpBack_ep z) fun _ _ z => z)
/-- o == o of one own class (or another comparison that it has) -/
theorem opr_ownC {op : CmpOp} {C f : Addr} {sp : Sp} (hs : PySem.W.findIn X.K (.ref C) (cmpInfo op).2.1 = some (some (.ref f))) (hf : PySem.W.isFn X.K (.ref f) = true) (G : FnR X.prog X.w X.K X.mg X.base (L2.CX X.prog X.w) k f sp) (hr : Room k X.A) (hc : compareOp op = richCompare op) : OpR X (compareOp op) (rOwn2 C sp) := by
  intro pins s σ H x y v u Q I rx ry h
  obtain ⟨p, p2, dx, fs, dy, gs, rfl, rfl, h1, h2, h3⟩ := h
  cases rx
  cases ry
  obtain ⟨mA, J, _⟩ := ins_get I.hok h1
  obtain ⟨mB, J', _⟩ := ins_get I.hok h2
  obtain ⟨od, J, _⟩ := J.look
  obtain ⟨od', J', _⟩ := J'.look
  obtain ⟨m, hF⟩ := I.fr
  rw [hc]
  exact PySem.W.cmp_K (tb := .ref C) hr.units0 hF I.ok.mod.kin J J'.type (by simp [PySem.W.notFirst]) hs hf (wpAny_mono (run_0 (us := [.ref p, .ref p2]) (vs := [.ref p, .ref p2]) G hr I (.cons rfl (.cons rfl .nil)) h3) (fun _ _ z => cmpBack_ep z) fun _ _ z => z)
theorem opr_ownN {C f : Addr} {sp : Sp} (hs : PySem.W.findIn X.K (.ref C) "__eq__" = some (some (.ref f))) (hf : PySem.W.isFn X.K (.ref f) = true) (hn : PySem.W.findIn X.K (.ref C) "__ne__" = some (some (.builtin "object.__ne__"))) (ho : PySem.W.mroIn X.K C (.type "object") = some true)
    (G : FnR X.prog X.w X.K X.mg X.base (L2.CX X.prog X.w) k f sp) (hr : Room (k + 1) X.A) : OpR X (compareOp .NotEq) (rNeg (rOwn2 C sp)) := by
  intro pins s σ H x y v u Q I rx ry h
  obtain ⟨p, p2, dx, fs, dy, gs, rfl, rfl, h1, h2, h3⟩ := h
  cases rx
  cases ry
  obtain ⟨mA, J, _⟩ := ins_get I.hok h1
  obtain ⟨mB, J', _⟩ := ins_get I.hok h2
  obtain ⟨od, J, _⟩ := J.look
  obtain ⟨od', J', _⟩ := J'.look
  show wpAny (model X.prog X.w) X.A (richCompare .NotEq (.ref p) (.ref p2)) (EP X pins σ Q) X.xe s
  refine ne_K (by have := hr.un; omega) I.kIn J J'.type hn ho hs hf (wpAny_mono (run_0in (us := [.ref p, .ref p2]) (vs := [.ref p, .ref p2]) G hr I (.cons rfl (.cons rfl .nil)) h3) (fun v' s' z => ?_) fun _ _ z => z)
  obtain ⟨y, H', I', r, b, rfl, q⟩ := z
  cases r
  exact ⟨b, rfl, .bl (!b), H', I', rfl, q⟩
theorem ped_ownEq {a b : Expr} {fa fb : M D} {pos : Pos} (cf : OpI X.prog X.w X.K X.mg X.base k c "__eq__" F) (hr : Room j X.A) (hk : k ≤ j) (ha : PED X W a fa) (hb : PED X W b fb) (h1 : behindInMarks .Eq b = false := by first | exact nobehind _ (by decide) (by decide) | rfl) : PED X W (.Compare a [.Eq] [b] pos) (f2 (d2m F c) fa fb) := by
  obtain ⟨C, f, hm, hs, hf, sf, G⟩ := cf
  exact ped_cmp (opr_ownC (op := .Eq) hs hf G (hr.mono hk) rfl) (od_own2 hm) ha hb h1
theorem ped_ownNe {a b : Expr} {fa fb : M D} {pos : Pos} (cf : OpI X.prog X.w X.K X.mg X.base k c "__eq__" F) (ne : NeI X.K X.mg c) (hr : Room j X.A) (hk : k + 1 ≤ j) (ha : PED X W a fa) (hb : PED X W b fb) (h1 : behindInMarks .NotEq b = false := by first | exact nobehind _ (by decide) (by decide) | rfl) : PED X W (.Compare a [.NotEq] [b] pos) (f2 (d2n F c) fa fb) := by
  obtain ⟨C, f, hm, hs, hf, sf, G⟩ := cf
  obtain ⟨C', hm', hn, ho⟩ := ne
  obtain rfl := ref_inj hm hm'
  exact ped_cmp (opr_ownN hs hf hn ho G (hr.mono hk)) (od_own2n hm) ha hb h1
end

/-! ### ranges of any size -/
section
theorem turn_rangeW {P : Program} {w : World} {K : PySem.W.Frag} {tg : Expr} (it : Addr) (lo : Int) (n : Nat) : Turn P w K tg (Itr lo n) [it] it (fun i h => IsLongIter h it (lo + (i : Nat) * 1) ((n : Int) - (i : Nat)) 1) where
  mem := by simp
  obj := fun i h st b hb => by
    obtain rfl : b = it := by simpa using hb
    exact ⟨_, st, fun v z => nomatch (show Data.fields _ = Data.cell v from z)⟩
  keep := fun i h h' st k => k it (by simp) _ st
  item := by
    intro X hP hw hK hc i pins s σ H E I hf st hg
    subst hP hw hK
    obtain ⟨f0, f1, f2, f3, f4, f5⟩ := hf it (by simp)
    refine (PySem.Walks.longrange (prog := X.prog) (w := X.w) (I.ok.hd hc) it lo 1 n).item i s _ _ hg st fun v h' tk hv st' kk => ?_
    obtain ⟨t, rfl⟩ := hv
    have I1 : Inv X pins σ H { s with heap := h', toks := tk } := I.turned (fun b o hb e => kk b o (by simpa using hb) e) f0 f1 f3 f4 f5
    exact ⟨_, rfl, go_of (s := { s with heap := h', toks := tk }) (n := "longrange_iterator") st' rfl rfl (by decide) ⟨.int (lo + i), H, I1, ⟨t, by rw [Int.mul_one]⟩, ⟨rfl, rfl⟩, st', fun b hb => (hf b hb).1⟩⟩
  done := by
    intro X hP hw hK hc i pins s σ H E I hf st hg
    subst hP hw hK
    obtain ⟨f0, f1, f2, f3, f4, f5⟩ := hf it (by simp)
    have hg : n ≤ i := hg
    exact wpAny_pyNext_long_end (I.ok.hd hc) st (by omega) fun h' eb => ⟨rfl, I.turned (t' := s.toks) (fun b o hb e => eb b o hb e) f0 f1 f3 f4 f5⟩
  self := fun _ _ _ _ _ st h => wpAny_pyIter_longiter st h
variable {X : Cx} {tg : Expr}
theorem range_itW {pins : List (Addr × Obj)} {σ : St} {H : Hp} {s : Shared} {R : It → Hp → Prop} {E : Value → Shared → Prop} {lo hi : Int} {t u v : Tok} {tk : Nat} (I : Inv X pins σ H s)
    (q : R (Itr lo (hi - lo).toNat) H) : wpAny (model X.prog X.w) X.A (pyIter (.ref s.heap.objs.size)) (PIE X pins σ tg R) E { s with heap := s.heap.push { cls := .type "range", data := .fields #[.int lo t, .int hi u, .int 1 v] }, toks := tk } := by
  have I1 : Inv X pins σ H { s with heap := s.heap.push { cls := .type "range", data := .fields #[.int lo t, .int hi u, .int 1 v] }, toks := tk } := I.kept fun b o e => Heap.get?_push_of_some _ e
  have e1 : lo + ((0 : Nat) : Int) * 1 = lo := by simp
  have e2 : (((hi - lo).toNat : Nat) : Int) - ((0 : Nat) : Int) = Builtin.Range.rangeSize lo hi 1 := by rw [rangeSize_one]; split <;> omega
  have new : ∀ b ∈ [(s.heap.push { cls := .type "range", data := .fields #[.int lo t, .int hi u, .int 1 v] }).objs.size], FpOk X pins H b := fun b hb => by
    obtain rfl : b = (s.heap.push { cls := .type "range", data := .fields #[.int lo t, .int hi u, .int 1 v] }).objs.size := by simpa using hb
    exact I1.fpOk (Nat.le_refl _) (I1.hok.fresh (Nat.le_refl _))
  cases hsm : Builtin.Range.small lo hi 1 with
  | true =>
    refine wpAny_pyIter_range (IsRange.new ..) hsm ⟨_, [(s.heap.push { cls := .type "range", data := .fields #[.int lo t, .int hi u, .int 1 v] }).objs.size], _, _, H, rfl, I1.kept (t' := tk) fun b o e => Heap.get?_push_of_some _ e, turn_range _ lo (hi - lo).toNat, ?_, new, q⟩
    show IsRangeIter _ _ (lo + ((0 : Nat) : Int) * 1) ((((hi - lo).toNat : Nat) : Int) - ((0 : Nat) : Int)) 1
    rw [e1, e2]
    exact Heap.get?_push_size _ rfl
  | false =>
    refine wpAny_pyIter_longrange (IsRange.new ..) hsm ⟨_, [(s.heap.push { cls := .type "range", data := .fields #[.int lo t, .int hi u, .int 1 v] }).objs.size], _, _, H, rfl, I1.kept (t' := tk) fun b o e => Heap.get?_push_of_some _ e, turn_rangeW _ lo (hi - lo).toNat, ?_, new, q⟩
    show IsLongIter _ _ (lo + ((0 : Nat) : Int) * 1) ((((hi - lo).toNat : Nat) : Int) - ((0 : Nat) : Int)) 1
    rw [e1, e2]
    exact Heap.get?_push_size _ rfl
def iRngW1 (ta : TA) : TI := fun σ H R => ta σ H fun vs H1 => ∃ j : Int, vs = [.int j] ∧ R (Itr 0 j.toNat) H1
def iRngW2 (ta : TA) : TI := fun σ H R => ta σ H fun vs H1 => ∃ i j : Int, vs = [.int i, .int j] ∧ R (Itr i (j - i).toNat) H1
theorem pi_rangeW1 {a : Expr} {ta : TA} {p pos : Pos} (hg : Gl X "range") (hm : X.mg "range" = none) (ha : PA X [a] ta) (hs : starEach [a] X.env = [(false, eval a X.env)] := by rfl) : PI X tg (.Call (.Name "range" p) [a] [] pos) (iRngW1 ta) := by
  refine ⟨fun pins s σ H R I h => ?_⟩
  refine Call_ (ld_blt I hg hm boot_range (PyProof.Rows.callWith_type1 (thn (ha.run pos pins s σ H _ I h) fun us s1 ⟨vs, H1, I1, r1, j, e, q⟩ => ?_) hs rfl))
  subst e
  cases r1 with
  | cons r rr =>
    cases rr
    obtain ⟨t, et⟩ := r
    subst et
    exact call_range_1 (range_itW I1 (by simpa using q))
theorem pi_rangeW2 {a b : Expr} {ta : TA} {p pos : Pos} (hg : Gl X "range") (hm : X.mg "range" = none) (ha : PA X [a, b] ta) (hs : starEach [a, b] X.env = [(false, eval a X.env), (false, eval b X.env)] := by rfl) (hs2 : starEach [b] X.env = [(false, eval b X.env)] := by rfl) :
    PI X tg (.Call (.Name "range" p) [a, b] [] pos) (iRngW2 ta) := by
  refine ⟨fun pins s σ H R I h => ?_⟩
  refine Call_ (ld_blt I hg hm boot_range (PyProof.Rows.callWith_type1 (thn (ha.run pos pins s σ H _ I h) fun us s1 ⟨vs, H1, I1, r1, i, j, e, q⟩ => ?_) (by rw [hs, hs2]) (by rw [hs2]; rfl)))
  subst e
  cases r1 with
  | cons r rr =>
    cases rr with
    | cons r2 rr =>
      cases rr
      obtain ⟨t, et⟩ := r
      obtain ⟨t2, et2⟩ := r2
      subst et et2
      exact call_range_2 (range_itW I1 q)
end
def dRngW1 : List D → M (List D) := fun ds => li (match ds with
  | [.int j] => some (rangeD 0 j.toNat)
  | _ => none)
def dRngW2 : List D → M (List D) := fun ds => li (match ds with
  | [.int i, .int j] => some (rangeD i (j - i).toNat)
  | _ => none)
section
variable {X : Cx} {W : WX} {tg a b : Expr} {fr : M (List D)} {p pos : Pos}
theorem pid_rangeW1 (ha : PAD X W [a] fr) (hm : X.mg "range" = none) (hg : Gl X "range" := by rfl) (hs : starEach [a] X.env = [(false, eval a X.env)] := by rfl) : PID X W tg (.Call (.Name "range" p) [a] [] pos) (bd fr dRngW1) := by
  obtain ⟨ta, pa, ea⟩ := ha
  refine ⟨_, pi_rangeW1 hg hm pa hs, fun Z B σ H e R S h => ?_⟩
  refine ea Z B σ H e _ S ((wp_bd.mp h).imp (fun ds e1 h1 vs B1 H1 S1 l1 a1 => ?_) fun x e' q => q)
  obtain ⟨r, h2, h3⟩ := wp_li h1
  match ds, a1, h2 with
  | [.int j], .cons r .nil, h2 =>
    cases h2
    exact ⟨j, by rw [r.int_inv], h3 _ B1 H1 S1 l1 walks_range⟩
theorem pid_rangeW2 (ha : PAD X W [a, b] fr) (hm : X.mg "range" = none) (hg : Gl X "range" := by rfl) (hs : starEach [a, b] X.env = [(false, eval a X.env), (false, eval b X.env)] := by rfl) (hs2 : starEach [b] X.env = [(false, eval b X.env)] := by rfl) : PID X W tg (.Call (.Name "range" p) [a, b] [] pos) (bd fr dRngW2) := by
  obtain ⟨ta, pa, ea⟩ := ha
  refine ⟨_, pi_rangeW2 hg hm pa hs hs2, fun Z B σ H e R S h => ?_⟩
  refine ea Z B σ H e _ S ((wp_bd.mp h).imp (fun ds e1 h1 vs B1 H1 S1 l1 a1 => ?_) fun x e' q => q)
  obtain ⟨r, h2, h3⟩ := wp_li h1
  match ds, a1, h2 with
  | [.int i, .int j], .cons r (.cons r2 .nil), h2 =>
    cases h2
    exact ⟨i, j, by rw [r.int_inv, r2.int_inv], h3 _ B1 H1 S1 l1 walks_range⟩
end
end Dl

set_option maxHeartbeats 400000
/-! Layer D, part 10: bool() by an own __bool__, fields stored, in, slices, pairs stored, isinstance with own classes. -/
namespace Dl
open PySem PySem.Spec PyProof.Rows L2 RZ

/-! ### bool(o) -/
section
variable {prog : Program} {w : World} {A : Around} {E : Value → Shared → Prop} {s : Shared} {x : Value}
theorem bool_of_truth {Q : Value → Shared → Prop} (h : wpAny (model prog w) A.in1.in1 (truthy x) (fun b s' => Q (.bool b) s') E s) : wpAny (model prog w) A (call (.type "bool") [x]) Q E s := by
  have ft := F.called_bool
  obtain ⟨c, tl, hmro⟩ := ft.mro
  have hmade := ft.made
  have hsub := ft.sub
  refine wpAny_call (codeAny_of_tree ?_)
  show wpAny _ _ (callAny (.type "bool") _) _ _ _
  refine wpAny_pure ⟨Code.quiet_builtin _ (by decide +kernel), codeAny_builtin F.entry_type_call ?_⟩
  rw [Around.under_plain (weight_type_call_type "bool" [x] []) (units_type_call_type "bool" [x] [])]
  have h1 := ft.notType
  have h2 := ft.canCreate
  have hcn := F.newCall_bool_1 x
  have hct := F.typeCall_bool_1 x
  repeat (any_goals (first | assumption | wp_step))
  have ent : wpAny (model prog w) A.in1.in1 (Builtin.«bool.__new__» ⟨[.type "bool", x], []⟩) (fun fin s' => ∃ b, fin = .done (.ret (.bool b)) ∧ Q (.bool b) s') E s := by
    have f1 := F.conv_sub_bool
    unfold Builtin.«bool.__new__»
    obtain ⟨hp, g, d, tk, os⟩ := s
    repeat (any_goals (first | (refine wpAny_bind (m := truthy x) (wpAny_mono h (fun b s' hq => ?_) fun _ _ z => z)) | assumption | wp_step))
    all_goals first | exact wpAny_pure ⟨_, rfl, hq⟩ | exact ⟨_, rfl, hq⟩ | skip
  refine codeAny_mono (R := wants (fun v s' => ∃ b, v = .bool b ∧ Q v s') E) (codeAny_call_builtin ft.plain F.entry_bool_new (wpAny_of_eq hcn (wpAny_mono ent (fun fin s' z => ?_) fun _ _ z => z))) fun r s₁ hr => ?_
  · obtain ⟨b, rfl, q⟩ := z
    exact ⟨b, rfl, q⟩
  · cases r with
    | error e => exact hr
    | ok fl =>
      cases fl with
      | ret obj =>
        obtain ⟨b, rfl, hq⟩ := hr
        have hT : s₁.TypeIs (.bool b) "bool" := rfl
        have hli := ft.init.lookup
        have hbi := ft.init.bind (.bool b)
        repeat (any_goals (first | assumption | wp_step))
        refine codeAny_mono (codeAny_call_builtin ft.init.plain F.entry_object_init (ft.init.check _ _ _ _ _ _ _ _ hT (F.args_object_init_2 _ x) (object_init_meets ft.init.lookup ft.made F.newNe_bool prog w _ (wants (fun r s₂ => r = .none ∧ Q (.bool b) s₂) E) s₁ ⟨hT, rfl, hq⟩))) fun r₂ s₂ hr₂ => ?_
        cases r₂ with
        | error e => exact hr₂
        | ok fl₂ =>
          cases fl₂ with
          | ret r =>
            obtain ⟨rfl, hq⟩ := hr₂
            repeat (any_goals (first | assumption | wp_step))
          | _ => exact hr₂.elim
      | _ => exact hr.elim
end

section
variable {X : Cx} {j k : Nat} {c : Str} {F : En → Res D} {W : WX}
theorem run_0in2 {pins : List (Addr × Obj)} {σ : St} {H : Hp} {s : Shared} {Q : VK} {us : List Value} {vs : List V} {f : Addr} {sp : Sp} (G : FnR X.prog X.w X.K X.mg X.base (L2.CX X.prog X.w) k f sp) (hr : Room (k + 2) X.A) (I : Inv X pins σ H s) (r : Vals vs us) (h : sp vs H Q E0) {E : Value → Shared → Prop} :
    wpAny (model X.prog X.w) X.A.in1.in1 (call (.ref f) us) (EP X pins σ Q) E s := by
  refine wpAny_call (codeAny_mono (G X.A.in1.in1 X.stack s H us vs Q E0 (Room.in1 (Room.in1 hr)) I.env0.in1.in1 r h) fun r s' hq => ?_)
  cases r with
  | error er => exact False.elim (passL (X := X.nox) pins σ H s er s' (I.wish _) hq)
  | ok fl => cases fl with
    | ret u => exact I.after hq
    | _ => exact False.elim hq
def dBoolO (F : En → Res D) (c : Str) : List D → M D := fun ds => match ds with
  | [d] => bd (d1m F c d) fun r => bd (asB r) fun b => pu (.bl b)
  | _ => fun _ => .bad
def rBoolO (C : Addr) (sp : Sp) : List V → Hp → VK → Prop := fun xs H Q => ∃ x, xs = [x] ∧ rOwn1 C sp x H fun v H' => ∃ b, v = .bl b ∧ Q (.bl b) H'
/-- bool(o) by the class's own __bool__ -/
theorem cr_boolO {C f : Addr} {sp : Sp} (hs : PySem.W.findIn X.K (.ref C) "__bool__" = some (some (.ref f))) (hf : PySem.W.isFn X.K (.ref f) = true) (G : FnR X.prog X.w X.K X.mg X.base (L2.CX X.prog X.w) k f sp) (hr : Room (k + 2) X.A) : CallR X (.type "bool") (rBoolO C sp) := by
  intro pins s σ H xs us Q I r h
  obtain ⟨x, rfl, p, dx, fs, rfl, h1, h2⟩ := h
  obtain rfl := Vals.ref1 r
  obtain ⟨mA, J, _⟩ := ins_get I.hok h1
  obtain ⟨od, J, _⟩ := J.look
  obtain ⟨m, hF⟩ := I.fr
  refine bool_of_truth (PySem.W.truthy_K hF I.ok.mod.kin J hs hf (wpAny_mono (run_0in2 (us := [.ref p]) (vs := [.ref p]) G hr I (.cons rfl .nil) h2) (fun v' s' z => ?_) fun _ _ z => z))
  obtain ⟨y, H', I', r, b, rfl, q⟩ := z
  cases r
  exact ⟨.bl b, H', I', rfl, q⟩
theorem cd_boolO {C : Addr} (hm : X.mg c = some (.ref C)) : ClD X.K X.mg W (rBoolO C (spD X.K X.mg F)) (dBoolO F c) := by
  intro Z B σ H e xs as Q S a q
  match as, a, q with
  | [d], .cons r .nil, q =>
    refine ⟨_, rfl, d1m_ok (W := W) hm S r ((wp_bd.mp q).imp (fun y e1 h1 v B1 H1 S1 l1 a1 => ?_) fun _ _ q => q)⟩
    obtain ⟨b, h2, h3⟩ := wp_li (wp_bd.mp h1)
    cases y with
    | bl b' => cases h2; exact ⟨b, a1.bl_inv, h3 _ B1 H1 S1 l1 (.bl _)⟩
    | _ => cases h2
variable {e : Expr} {fa : M D} {fr : M (List D)} {pos p px p2 : Pos} {a b o : Expr} {fb : M D} {x f : Str}
theorem ped_boolO (cf : OpI X.prog X.w X.K X.mg X.base k c "__bool__" F) (hr : Room j X.A) (hk : k + 2 ≤ j) (hm : X.mg "bool" = none) (ha : PAD X W [e] fr) (hg : Gl X "bool" := by rfl)
    (he : starEach (e :: []) X.env = (false, eval e X.env) :: starEach [] X.env := by rfl) (hpl : (backTo pos (starEach [] X.env)).any (·.1) = false := by rfl) : PED X W (.Call (.Name "bool" p) [e] [] pos) (bd fr (dBoolO F c)) := by
  obtain ⟨C, f, hm', hs, hf, sf, G⟩ := cf
  exact ped_callTy (cr_boolO hs hf G (hr.mono hk)) (cd_boolO hm') hm (by decide +kernel) ha hg (by decide) (by decide) he hpl

/-! ### fields stored and read of one's own instance -/
def putNs (f : Str) : List Str → List Str
  | [] => [f] | g :: r => if g = f then g :: r else g :: putNs f r
def putDs (f : Str) (d : D) : List Str → List D → List D
  | [], _ => [d] | g :: r, x :: xs => if g = f then d :: xs else x :: putDs f d r xs
  | _ :: _, [] => []
theorem putF_at {K : PySem.W.Frag} {mg : Str → Option Value} {B : Hp} {f : Str} {v : V} {d : D} (r : At K mg B v d) : ∀ {fs : List (Str × V)} {ns : List Str} {ds : List D}, fs.map (·.1) = ns → AtL K mg B (fs.map (·.2)) ds → (putF f v fs).map (·.1) = putNs f ns ∧ AtL K mg B ((putF f v fs).map (·.2)) (putDs f d ns ds)
  | [], _, _, rfl, _ => ⟨rfl, .cons r .nil⟩
  | (g, x) :: fs, _, _, rfl, .cons rx t => by
    obtain ⟨i1, i2⟩ := putF_at (f := f) r (fs := fs) rfl t
    by_cases h : g = f
    · have e1 : putF f v ((g, x) :: fs) = (g, v) :: fs := by simp only [putF, if_pos h]
      rw [e1]
      refine ⟨by simp only [List.map_cons, putNs, if_pos h], ?_⟩
      simp only [List.map_cons, putDs, if_pos h]
      exact .cons r t
    · have e1 : putF f v ((g, x) :: fs) = (g, x) :: putF f v fs := by simp only [putF, if_neg h]
      rw [e1]
      refine ⟨by simp only [List.map_cons, putNs, if_neg h, i1], ?_⟩
      simp only [List.map_cons, putDs, if_neg h]
      exact .cons rx i2
def putI (i : Nat) (c f : Str) (d : D) : M Unit := fun e => match e[i]? with
  | some (.oin r c' ns ds) => if c' = c ∧ ns.length < 1000 then .ok () (e.set i (.oin r c (putNs f ns) (putDs f d ns ds))) else .bad
  | _ => .bad
def fFldS (i : Nat) (c f : Str) (fa : M D) : M Fl := bd fa fun d => bd (noExc (putI i c f d)) fun _ => pu .nx
def getI (i : Nat) (c f : Str) : M D := fun e => match e[i]? with
  | some (.oin _ c' ns ds) => if c' = c then (match look f ns ds with
    | some d => .ok d e | none => .bad) else .bad
  | _ => .bad
theorem psd_fld (i : Nat) {p3 : Pos} (cf : FlI X.K X.mg c f) (ha : PED X W a fa) (hN : X.N[i]? = some x := by rfl) (hv : Vis X.env.scope x := by first | exact Or.inl rfl | exact Or.inr (Or.inl rfl) | exact Or.inr (Or.inr rfl)) (hd : (x == ("__debug__" : Str)) = false := by decide) (hcd : (x == ("__classdict__" : Str)) = false := by decide)
    (hs : swapsWith a (some (.Attribute (.Name x px) f p3)) pos.line X.env = pure false := by rfl) : PSD X W (.Assign [.Attribute (.Name x px) f p3] a pos) (fFldS i c f fa) := by
  obtain ⟨C, hm, cl, na⟩ := cf
  obtain ⟨ta, pa, ea⟩ := ha
  refine ⟨_, ps_fld (pe_var hN hv hd hcd) pa hs, fun Z B σ H e Y S h => ?_⟩
  refine ea.then S h (fun x e' q => PXs.at q) fun d e1 v B1 H1 S1 l1 a1 h1 => ?_
  have h1 := noExc_wp (wp_bd.mp h1)
  unfold putI at h1
  cases q : e1[i]? with
  | none => rw [q] at h1; exact False.elim h1
  | some s =>
    rw [q] at h1
    cases s with
    | oin r c' ns ds =>
      by_cases hc : c' = c ∧ ns.length < 1000
      · simp only [if_pos hc] at h1
        obtain ⟨rfl, hl⟩ := hc
        obtain ⟨p, C', dx, fs, e2, g1, g2, g3, g4, g5⟩ := S1.sl i _ q
        obtain rfl := ref_inj g1 hm
        obtain ⟨k1, k2⟩ := putF_at (f := f) a1 g3 g4
        refine ⟨_, e2, p, _, dx, fs, rfl, g2, cl, na, by rw [← List.length_map (as := fs) (f := (·.1)), g3]; exact hl, ?_⟩
        exact h1 σ B1 _ (S1.write ⟨_, q, rfl⟩ e2 ⟨p, _, dx, _, e2, g1, upd_same, k1, k2, g5⟩ rfl) l1
      · simp only [if_neg hc] at h1
        exact False.elim h1
    | _ => exact False.elim h1
theorem ped_ofld (i : Nat) (cf : FlI X.K X.mg c f) (hN : X.N[i]? = some x := by rfl) (hv : Vis X.env.scope x := by first | exact Or.inl rfl | exact Or.inr (Or.inl rfl) | exact Or.inr (Or.inr rfl)) (hd : (x == ("__debug__" : Str)) = false := by decide) (hcd : (x == ("__classdict__" : Str)) = false := by decide)
    (hb : attributeBase (.Name x px) f X.env (eval (.Name x px) X.env) = eval (.Name x px) X.env := by rfl) : PED X W (.Attribute (.Name x px) f pos) (getI i c f) := by
  obtain ⟨C, hm, cl, na⟩ := cf
  refine ⟨_, pe_fld (pe_var hN hv hd hcd) hb, fun Z B σ H e Q S h => ?_⟩
  unfold getI at h
  cases q : e[i]? with
  | none => rw [q] at h; exact False.elim h
  | some s =>
    rw [q] at h
    cases s with
    | oin r c' ns ds =>
      by_cases hc : c' = c
      · simp only [if_pos hc] at h
        subst hc
        obtain ⟨p, C', dx, fs, e2, g1, g2, g3, g4, g5⟩ := S.sl i _ q
        obtain rfl := ref_inj g1 hm
        cases hl : look f ns ds with
        | none => rw [hl] at h; exact False.elim h
        | some d =>
          rw [hl] at h
          obtain ⟨v, w1, w2⟩ := look_some g3 g4 hl
          exact ⟨_, e2, p, _, dx, fs, v, rfl, g2, cl, na, w1, h v B H S (Same.refl B) w2⟩
      · simp only [if_neg hc] at h
        exact False.elim h
    | _ => exact False.elim h
/-- len of one's own list -/
theorem ped_lenO (i : Nat) (hm : X.mg "len" = none) (hN : X.N[i]? = some x := by rfl) (hv : Vis X.env.scope x := by first | exact Or.inl rfl | exact Or.inr (Or.inl rfl) | exact Or.inr (Or.inr rfl)) (hd : (x == ("__debug__" : Str)) = false := by decide) (hcd : (x == ("__classdict__" : Str)) = false := by decide) (hg : Gl X "len" := by rfl)
    (he : starEach (.Name x px :: []) X.env = (false, eval (.Name x px) X.env) :: starEach [] X.env := by rfl) (hpl : (backTo pos (starEach [] X.env)).any (·.1) = false := by rfl) : PED X W (.Call (.Name "len" p) [.Name x px] [] pos) (fLenO i) := by
  refine ⟨_, pe_callB call_len_seq hg hm (by decide +kernel) (pa_cons (pe_var hN hv hd hcd) pa_nil he) (by decide) (by decide) he hpl, fun Z B σ H e Q S h => ?_⟩
  unfold fLenO at h
  cases q : e[i]? with
  | none => rw [q] at h; exact False.elim h
  | some s =>
    rw [q] at h
    cases s with
    | own r ds =>
      obtain ⟨p, xs, e1, h1, h2, _⟩ := S.own q
      exact ⟨_, e1, p, xs, rfl, .inl (SqL.of h1), by rw [h2.length]; exact h _ B H S (Same.refl B) (.int _)⟩
    | _ => exact False.elim h
end

/-! ### in, not in -/
def flatD : D → Bool
  | .non => true | .bl _ => true | .int _ => true | .str _ => true | _ => false
def eqFD : D → D → Bool
  | .non, .non => true
  | .bl a, .bl b => a == b
  | .bl a, .int b => (if a then 1 else 0) == b
  | .int a, .bl b => a == (if b then 1 else 0)
  | .int a, .int b => a == b
  | .str a, .str b => a == b
  | _, _ => false
def itemsD : D → Option (List D)
  | .lst xs => some xs | .tup xs => some xs | .scr ns => some (ns.map D.int) | _ => none
def inD (x : D) (xs : List D) : Bool := xs.any fun y => eqFD y x
def dIn (neg : Bool) : D → D → M D := fun a b => li (match itemsD b with
  | some xs => if flatD a = true ∧ xs.all flatD = true then some (.bl (if neg then !inD a xs else inD a xs)) else none
  | none => none)
section
variable {K : PySem.W.Frag} {mg : Str → Option Value} {B : Hp} {W : WX}
theorem flat_at {v : V} {d : D} (r : At K mg B v d) (h : flatD d = true) : flatV v = true := by cases r <;> first | rfl | exact nomatch h
theorem eqF_at {v w : V} {d e : D} (r : At K mg B v d) (r2 : At K mg B w e) (h : flatD d = true) (h2 : flatD e = true) : eqV v w = eqFD d e := by
  cases r <;> cases r2 <;> first | rfl | exact nomatch h | exact nomatch h2
theorem all_at : ∀ {xs : List V} {ds : List D}, AtL K mg B xs ds → ds.all flatD = true → xs.all flatV = true
  | _, _, .nil, _ => rfl
  | _, _, .cons r t, h => by
    simp only [List.all_cons, Bool.and_eq_true] at h ⊢
    exact ⟨flat_at r h.1, all_at t h.2⟩
theorem in_at {v : V} {d : D} (r : At K mg B v d) (h : flatD d = true) : ∀ {xs : List V} {ds : List D}, AtL K mg B xs ds → ds.all flatD = true → L2.inV v xs = inD d ds
  | _, _, .nil, _ => rfl
  | _, _, .cons r2 t, h2 => by
    simp only [List.all_cons, Bool.and_eq_true] at h2
    have ih := in_at r h t h2.2
    unfold L2.inV inD at ih ⊢
    rw [List.any_cons, List.any_cons, ih, eqF_at r2 r h2.1 h]
theorem items_at {Z : Ent} {σ : St} {H : Hp} {e : En} {v : V} {d : D} {xs : List D} (S : SR K mg Z B σ H e) (r : At K mg B v d) (h : itemsD d = some xs) : ∃ p vs, v = .ref p ∧ (SqL K H p vs ∨ SqT K H p vs) ∧ AtL K mg B vs xs := by
  cases d with
  | lst ys => cases h; obtain ⟨p, vs, rfl, g1, g2⟩ := r.lst_inv; exact ⟨p, vs, rfl, .inl (SqL.of (S.bh _ _ g1)), g2⟩
  | tup ys => cases h; obtain ⟨p, vs, rfl, g1, g2⟩ := r.tup_inv; exact ⟨p, vs, rfl, .inr (seqT S.bh g1), g2⟩
  | scr ns => cases h; obtain ⟨p, rfl, g1⟩ := r.scr_inv; exact ⟨p, _, rfl, .inl (S.bh.seq g1), .of_ints ns⟩
  | _ => cases h
theorem od_in (neg : Bool) : OpD K mg W (L2.rIn K neg) (dIn neg) := by
  intro Z B σ H e x y a b Q S ha hb q
  obtain ⟨d, h1, h2⟩ := wp_li q
  cases e1 : itemsD b with
  | none => rw [e1] at h1; cases h1
  | some xs =>
    rw [e1] at h1
    by_cases hc : flatD a = true ∧ xs.all flatD = true
    · simp only [if_pos hc] at h1
      cases h1
      obtain ⟨p, vs, rfl, g1, g2⟩ := items_at S hb e1
      exact ⟨p, vs, rfl, g1, flat_at ha hc.1, all_at g2 hc.2, by rw [in_at ha hc.1 g2 hc.2]; exact h2 _ B H S (Same.refl B) (.bl _)⟩
    · simp only [if_neg hc] at h1
      cases h1
def dIsN (neg : Bool) : D → D → M D := fun a b => li (match b with
  | .non => some (.bl (match a with
    | .non => !neg | _ => neg))
  | _ => none)
theorem isN_at {v : V} {d : D} (r : At K mg B v d) : decide (v = .non) = (match d with
  | .non => true | _ => false) := by cases r <;> rfl
theorem od_isN : OpD K mg W (fun x y H Q => y = .non ∧ Q (.bl (decide (x = .non))) H) (dIsN false) := by
  intro Z B σ H e x y a b Q S ha hb q
  obtain ⟨d, h1, h2⟩ := wp_li q
  cases b with
  | non =>
    cases h1
    refine ⟨hb.non_inv, ?_⟩
    rw [isN_at ha]
    cases a <;> exact h2 _ B H S (Same.refl B) (.bl _)
  | _ => cases h1
theorem od_notN : OpD K mg W (fun x y H Q => y = .non ∧ Q (.bl (!decide (x = .non))) H) (dIsN true) := by
  intro Z B σ H e x y a b Q S ha hb q
  obtain ⟨d, h1, h2⟩ := wp_li q
  cases b with
  | non =>
    cases h1
    refine ⟨hb.non_inv, ?_⟩
    rw [isN_at ha]
    cases a <;> exact h2 _ B H S (Same.refl B) (.bl _)
  | _ => cases h1
end
end Dl

set_option maxHeartbeats 400000
/-! Layer D, part 11: slices, pairs stored, lists unpacked, isinstance with own classes. -/
namespace Dl
open PySem PySem.Spec PyProof.Rows L2 RZ

/-! ### slices of lists and tuples, known -/
def fSl (fa : M D) (flo fhi : M (Option Int)) : M D := bd fa fun d => bd flo fun lo => bd fhi fun hi => li (match d with
  | .lst xs => some (.lst (cutD xs lo hi)) | .tup xs => some (.tup (cutD xs lo hi)) | _ => none)
section
variable {X : Cx} {W : WX} {a b : Expr} {fa fb : M D} {pos p2 : Pos}
theorem cut_whole {xs : List V} {lo hi : Option Int} (h : HT.sIx xs.length 0 lo = 0 ∧ HT.sIx xs.length xs.length hi = xs.length) : cutV xs lo hi = xs := by
  unfold cutV
  rw [h.1, h.2]
  simp
theorem ped_slice {lo hi : Option Expr} {flo fhi : M (Option Int)} (ha : PED X W a fa) (hl : POD X W lo flo) (hh : POD X W hi fhi) : PED X W (.Subscript a (.Slice lo hi none p2) pos) (fSl fa flo fhi) := by
  obtain ⟨ta, pa, ea⟩ := ha
  obtain ⟨tl, pl, el⟩ := hl
  obtain ⟨th, ph, eh⟩ := hh
  refine ⟨_, pe_slice (L2.SlR.or sl_list sl_tupA) pa pl ph, fun Z B σ H e Q S h => ?_⟩
  refine ea.then S h (fun x e' q => q) fun d e1 v B1 H1 S1 l1 a1 h1 => ?_
  refine el Z B1 σ H1 e1 _ S1 ((wp_bd.mp h1).imp (fun lo e2 q2 B2 H2 S2 l2 => ?_) fun x e' q => PX.up l1 q)
  refine eh Z B2 σ H2 e2 _ S2 ((wp_bd.mp q2).imp (fun hi e3 q3 B3 H3 S3 l3 => ?_) fun x e' q => PX.up (l1.trans l2) q)
  obtain ⟨ds, h2, h3⟩ := wp_li q3
  have l13 := (l1.trans l2).trans l3
  cases d with
  | lst xs =>
    cases h2
    obtain ⟨p, vs, rfl, e1, r1⟩ := a1.lst_inv
    refine .inl ⟨p, vs, rfl, SqL.of (S3.bh _ _ (l3 _ _ (l2 _ _ e1))), fun q hq => ?_⟩
    obtain ⟨S4, l4⟩ := S3.new (o := .lst (cutV vs lo hi)) hq
    exact h3 _ _ _ S4 (l13.trans l4) (.lst upd_same ((r1.mono ((l2.trans l3).trans l4)).cut lo hi))
  | tup xs =>
    cases h2
    obtain ⟨p, vs, rfl, e1, r1⟩ := a1.tup_inv
    refine .inr ⟨p, vs, rfl, seqT S3.bh (seqT (l2.trans l3) e1), fun hw => ?_, fun hw q hq => ?_⟩
    · refine h3 _ B3 H3 S3 l13 (.tup (seqT (l2.trans l3) e1) ?_)
      have := (r1.mono (l2.trans l3)).cut lo hi
      rw [cut_whole hw] at this
      exact this
    · obtain ⟨S4, l4⟩ := S3.new (o := .tup (cutV vs lo hi)) hq
      exact h3 _ _ _ S4 (l13.trans l4) (.tup (SqT.of upd_same) ((r1.mono ((l2.trans l3).trans l4)).cut lo hi))
  | _ => cases h2

/-! ### a list unpacked -/
def gUnlD (n : Nat) (t : List D → M Unit) : D → M Unit := fun d => bd (li (match d with
  | .lst ds => if ds.length = n then some ds else none
  | _ => none)) t
theorem pgd_unl {es : List Expr} {k n : Nat} {t : List D → M Unit} (hc : X.calm = true) (h : PGsD X es t) (hn : (assignEach es X.env).length = n := by rfl) (hst : (assignEach es X.env).findIdx? (·.1) = none := by rfl) : PGD X (.Tuple es k pos) (gUnlD n t) := by
  obtain ⟨g, pg, eg⟩ := h
  refine ⟨_, pg_unl hc pg hn hst, fun Z B σ H e v d Q S r h => ?_⟩
  obtain ⟨ds, h1, h2⟩ := wp_li (wp_bd.mp h)
  cases d with
  | lst xs =>
    have h1 : (if xs.length = n then some xs else none) = some ds := h1
    split at h1
    · cases h1
      obtain ⟨p, vs, rfl, e1, r1⟩ := r.lst_inv
      exact ⟨p, vs, rfl, SqL.of (S.bh _ _ e1), by rw [r1.length]; assumption, eg Z B σ H e vs _ Q S r1 h2⟩
    · cases h1
  | _ => cases h1

/-! ### a, b = x, y -/
def fPar (i j : Nat) (fr : M (List D)) : M Fl := bd fr fun ds => bd (noExc (match ds with
  | [d1, d2] => bd (setV i d1) fun _ => setV j d2
  | _ => fun _ => .bad)) fun _ => pu .nx
theorem psd_par (i j : Nat) {x y : Str} {fr : M (List D)} {px py pt : Pos} {kt k2 pt2} (hc : X.calm = true) (hN : X.N.Nodup) (hr : PAD X W [a, b] fr) (hij : i ≠ j) (hi : X.N[i]? = some x := by rfl) (hj : X.N[j]? = some y := by rfl) (hx : X.env.scope.names.lookup x = some .local := by rfl) (hy : X.env.scope.names.lookup y = some .local := by rfl)
    (hw : swappedStores [.Tuple [.Name x px, .Name y py] kt pt] (.Tuple [a, b] k2 pt2) X.env = pure (some [x, y]) := by rfl) (hs : swapsWithSole [.Tuple [.Name x px, .Name y py] kt pt] (.Tuple [a, b] k2 pt2) pos.line X.env = pure false := by rfl) :
    PSD X W (.Assign [.Tuple [.Name x px, .Name y py] kt pt] (.Tuple [a, b] k2 pt2) pos) (fPar i j fr) := by
  obtain ⟨ta, pa, ea⟩ := hr
  refine ⟨_, ps_par hc hN hi hj hij hx hy pa hw hs, fun Z B σ H e Y S h => ?_⟩
  refine ea.then S h (fun x e' q => PXs.at q) fun ds e1 vs B1 H1 S1 l1 a1 h1 => ?_
  match ds, a1, h1 with
  | [d1, d2], .cons r1 (.cons r2 .nil), h1 =>
    have h2 := setV_wp (wp_bd.mp (noExc_wp (wp_bd.mp h1)))
    exact ⟨_, _, rfl, setV_wp h2 _ B1 H1 ((S1.set r1).set r2) l1⟩
/-- .. the first a new list -/
def fParN (i j : Nat) (fn : M (List D)) (fb : M D) : M Fl := bd fn fun ds => fun e => match fb (refE e) with
  | .ok d e' => if e'.length = e.length then (bd (noExc (bd (setO i ds) fun _ => setV j d)) fun _ => pu .nx) (fixE [] e e') else .bad
  | _ => .bad
theorem pa_two {ta tb : TE} (h1 : PE X a ta) (h2 : PE X b tb) (hs : starEach (a :: [b]) X.env = (false, eval a X.env) :: starEach [b] X.env := by rfl) (hs2 : starEach (b :: []) X.env = (false, eval b X.env) :: starEach [] X.env := by rfl) : PA X [a, b] (tCons ta (tCons tb tNil)) := pa_cons h1 (pa_cons h2 pa_nil hs2) hs
theorem psd_parN (i j : Nat) {x y : Str} {fn : M (List D)} {px py pt : Pos} {kt k2 pt2} (hc : X.calm = true) (hN : X.N.Nodup) (ha : PND X W a fn) (hb : PED X WNo b fb) (hij : i ≠ j) (hi : X.N[i]? = some x := by rfl) (hj : X.N[j]? = some y := by rfl) (hx : X.env.scope.names.lookup x = some .local := by rfl) (hy : X.env.scope.names.lookup y = some .local := by rfl)
    (hw : swappedStores [.Tuple [.Name x px, .Name y py] kt pt] (.Tuple [a, b] k2 pt2) X.env = pure (some [x, y]) := by rfl) (hs : swapsWithSole [.Tuple [.Name x px, .Name y py] kt pt] (.Tuple [a, b] k2 pt2) pos.line X.env = pure false := by rfl)
    (hs1 : starEach (a :: [b]) X.env = (false, eval a X.env) :: starEach [b] X.env := by rfl) (hs2 : starEach (b :: []) X.env = (false, eval b X.env) :: starEach [] X.env := by rfl) :
    PSD X W (.Assign [.Tuple [.Name x px, .Name y py] kt pt] (.Tuple [a, b] k2 pt2) pos) (fParN i j fn fb) := by
  obtain ⟨ta, pa, ea⟩ := ha
  obtain ⟨tb, pb, eb⟩ := hb
  refine ⟨_, ps_par hc hN hi hj hij hx hy (pa_two pa pb hs1 hs2) hw hs, fun Z B σ H e Y S h => ?_⟩
  refine ea.then S h (fun x e' q => PXs.at q) fun ds e1 p xs B1 H1 S1 l1 w1 w2 w3 w4 w5 h1 => ?_
  refine eb _ B1 σ H1 (refE e1) _ S1.reenter ?_
  cases q : fb (refE e1) with
  | bad => rw [q] at h1; exact h1
  | exc z e2 => rw [q] at h1; exact False.elim h1
  | ok d e2 =>
    rw [q] at h1
    have h1 : ((if e2.length = e1.length then (bd (noExc (bd (setO i ds) fun _ => setV j d)) fun _ => pu Fl.nx) (fixE [] e1 e2) else .bad)).wp (PF X.K X.mg Z B Y) (PXs X.K X.mg Z B W) := h1
    by_cases hl : e2.length = e1.length
    · rw [if_pos hl] at h1
      intro v B2 H2 S2 l2 r2
      have S3 := S1.exit (vs := []) S2 rfl hl
      have hf3 : Free σ (fixE [] e1 e2) p := fun k hk => w5 k (ownAt_fixE hl hk)
      have hB2 : B2 p = none := by
        cases q : B2 p with
        | none => rfl
        | some u =>
          rcases S2.nb p u q with z | z
          · have z : B1 p = some u := z
            rw [w3] at z; cases z
          · have z : H1 p = none := z
            rw [w1] at z; cases z
      have hH2 : H2 p = some (.lst xs) := S2.fh p _ w1 fun m => by
        obtain ⟨k, hk, ek⟩ := mem_ownA.mp m
        exact w5 k hk ek
      have h2 := setV_wp (setO_wp (wp_bd.mp (noExc_wp (wp_bd.mp h1))))
      have S4 := S3.setO (i := i) (s := .own false ds) hf3 fun _ => ⟨p, xs, rfl, hH2, w2.mono l2, hB2, fun _ => w4, fun z => nomatch z⟩
      exact ⟨_, _, rfl, h2 _ B2 H2 (S4.set r2) (l1.trans l2)⟩
    · rw [if_neg hl] at h1
      exact False.elim h1
end

/-! ### isinstance with own classes -/
/-- the class's answers: t for the built-in ones, by name for own ones -/
def KoI (K : PySem.W.Frag) (mg : Str → Option Value) (c : Str) (yes no : List Str) : Prop := ∃ C, mg c = some (.ref C) ∧ (∀ t ∈ tys, PySem.W.kitOne K (.type t) (.ref C) = some false) ∧
  (∀ n ∈ yes, ∃ N, mg n = some (.ref N) ∧ C8.InsC K N ∧ PySem.W.kitOne K (.ref N) (.ref C) = some true) ∧ (∀ n ∈ no, ∃ N, mg n = some (.ref N) ∧ C8.InsC K N ∧ PySem.W.kitOne K (.ref N) (.ref C) = some false)
def oIsO (yes no : List Str) : D → Option D := fun d => match d with
  | .obj n _ _ => if n ∈ yes then some (.bl true) else if n ∈ no then some (.bl false) else none
  | d => match tyD d with
    | some _ => some (.bl false) | none => none
section
variable {X : Cx} {W : WX} {a : Expr} {fa : M D} {p1 p2 pos : Pos} {x : Str} {yes no : List Str}
theorem ped_isO (cf : KoI X.K X.mg x yes no) (ha : PED X W a fa) (hm : X.mg "isinstance" = none) (hg : Gl X "isinstance" := by rfl) (hgx : Gl X x := by rfl) (hd : (x == ("__debug__" : Str)) = false := by decide)
    (he : starEach (a :: [.Name x p2]) X.env = (false, eval a X.env) :: starEach [.Name x p2] X.env := by rfl) (he2 : starEach (.Name x p2 :: []) X.env = (false, eval (.Name x p2) X.env) :: starEach [] X.env := by rfl) (hpl : (backTo pos (starEach [.Name x p2] X.env)).any (·.1) = false := by rfl) :
    PED X W (.Call (.Name "isinstance" p1) [a, .Name x p2] [] pos) (bd fa fun d => li (oIsO yes no d)) := by
  obtain ⟨C, hC, ht, hy, hn⟩ := cf
  obtain ⟨ta, pa, ea⟩ := ha
  refine ⟨_, pe_callB call_isi hg hm (by decide +kernel) (pa_cons pa (pa_cons (pe_glob (v := .ref C) hgx hC rfl hd) pa_nil he2) he) (by decide) (by decide) he hpl, fun Z B σ H e Q S h => ?_⟩
  refine ea.then S h (fun x e' q => q) fun d e1 v B1 H1 S1 l1 a1 h1 => ?_
  obtain ⟨z, h2, h3⟩ := wp_li h1
  have inst : ∀ {n ns ds b}, d = .obj n ns ds → (∃ N, X.mg n = some (.ref N) ∧ C8.InsC X.K N ∧ PySem.W.kitOne X.K (.ref N) (.ref C) = some b) → z = .bl b → rIsi X.K [v, .ref C] H1 Q := fun {n ns ds b} ed ⟨N, m1, m2, m3⟩ ez => by
    subst ed ez
    obtain ⟨p, N', dx, fs, rfl, g1, g2, g3, g4⟩ := a1.obj_inv
    obtain rfl := ref_inj g1 m1
    exact ⟨_, _, _, _, _, rfl, .own C, .base (.ins (S1.bh _ _ g2) m2.cl m2.ha m2.hn m2.htk m2.hm), m3, h3 _ B1 H1 S1 l1 (.bl _)⟩
  have base : ∀ {t}, tyD d = some t → z = .bl false → rIsi X.K [v, .ref C] H1 Q := fun {t} et ez => by
    subst ez
    exact ⟨_, _, _, _, _, rfl, .own C, a1.ty S1.bh et, ht t (tyD_mem et), h3 _ B1 H1 S1 l1 (.bl _)⟩
  cases d with
  | obj n ns ds =>
    have h2 : (if n ∈ yes then some (D.bl true) else if n ∈ no then some (.bl false) else none) = some z := h2
    by_cases c1 : n ∈ yes
    · rw [if_pos c1] at h2; cases h2
      exact inst rfl (hy n c1) rfl
    · rw [if_neg c1] at h2
      by_cases c2 : n ∈ no
      · rw [if_pos c2] at h2; cases h2
        exact inst rfl (hn n c2) rfl
      · rw [if_neg c2] at h2; cases h2
  | _ => cases h2; exact base rfl rfl
end
end Dl

set_option maxHeartbeats 400000
/-! Layer D, part 12: names of either kind, tests by own ==, the end of a law. -/
namespace Dl
open PySem PySem.Spec PyProof.Rows L2 RZ

/-- a name: a datum, or a list of one's own that becomes known -/
def fAny (i : Nat) : M D := fun e => match e[i]? with
  | some (.val d) => .ok d e
  | some (.own false ds) => .ok (.lst ds) (e.set i (.val (.lst ds)))
  | _ => .bad
def fGetA (i : Nat) (fk : M D) : M D := fun e => match e[i]? with
  | some (.val _) => f2 dAt (fVar i) fk e
  | _ => fGet i fk e
def fLenA (i : Nat) : M D := fun e => match e[i]? with
  | some (.val _) => bd (fCons (fVar i) fNil) (d1 oLen) e
  | _ => fLenO i e
section
variable {X : Cx} {W : WX} {a b : Expr} {fa fb fk : M D} {pos p px ps : Pos} {x : Str}
theorem ped_dyn {f g h : M D} (hf : PED X W a f) (hg : PED X W a g) (hh : ∀ e, h e = f e ∨ h e = g e) : PED X W a h := by
  obtain ⟨tf, pf, ef⟩ := hf
  obtain ⟨tg, pg, eg⟩ := hg
  refine ⟨fun σ H Q => tf σ H Q ∨ tg σ H Q, ⟨fun pins s σ H Q I q => q.elim (pf.run pins s σ H Q I) (pg.run pins s σ H Q I)⟩, fun Z B σ H e Q S q => ?_⟩
  rcases hh e with z | z
  · exact .inl (ef Z B σ H e Q S (z ▸ q))
  · exact .inr (eg Z B σ H e Q S (z ▸ q))
theorem ped_any (i : Nat) (hN : X.N[i]? = some x := by rfl) (hv : Vis X.env.scope x := by first | exact Or.inl rfl | exact Or.inr (Or.inl rfl) | exact Or.inr (Or.inr rfl)) (hd : (x == ("__debug__" : Str)) = false := by decide) (hcd : (x == ("__classdict__" : Str)) = false := by decide) : PED X W (.Name x pos) (fAny i) :=
  ped_dyn (ped_var i hN hv hd hcd) (ped_frz i hN hv hd hcd) fun e => by
    unfold fAny fVar fFrz
    cases e[i]? with
    | none => exact .inl rfl
    | some s => cases s with
      | own r ds => cases r <;> exact .inr rfl
      | _ => exact .inl rfl
theorem ped_getA (i : Nat) (hk : PED X W b fk) (hN : X.N[i]? = some x := by rfl) (hv : Vis X.env.scope x := by first | exact Or.inl rfl | exact Or.inr (Or.inl rfl) | exact Or.inr (Or.inr rfl)) (hd : (x == ("__debug__" : Str)) = false := by decide) (hcd : (x == ("__classdict__" : Str)) = false := by decide)
    (hs : PlainIx b := by exact fun _ _ => rfl) : PED X W (.Subscript (.Name x px) b ps) (fGetA i fk) :=
  ped_dyn (ped_ix (ped_var i hN hv hd hcd) hk hs) (ped_get i hk hN hv hd hcd hs) fun e => by
    unfold fGetA
    cases e[i]? with
    | none => exact .inr rfl
    | some s => cases s <;> first | exact .inl rfl | exact .inr rfl
theorem ped_lenA (i : Nat) (hm : X.mg "len" = none) (hN : X.N[i]? = some x := by rfl) (hv : Vis X.env.scope x := by first | exact Or.inl rfl | exact Or.inr (Or.inl rfl) | exact Or.inr (Or.inr rfl)) (hd : (x == ("__debug__" : Str)) = false := by decide) (hcd : (x == ("__classdict__" : Str)) = false := by decide) (hg : Gl X "len" := by rfl)
    (he : starEach (.Name x px :: []) X.env = (false, eval (.Name x px) X.env) :: starEach [] X.env := by rfl) (hpl : (backTo pos (starEach [] X.env)).any (·.1) = false := by rfl) : PED X W (.Call (.Name "len" p) [.Name x px] [] pos) (fLenA i) :=
  ped_dyn (ped_callB call_len_seq cd_len hm (by decide +kernel) (pad_cons (ped_var i hN hv hd hcd) pad_nil he) hg (by decide) (by decide) he hpl) (ped_lenO i hm hN hv hd hcd hg he hpl) fun e => by
    unfold fLenA
    cases e[i]? with
    | none => exact .inr rfl
    | some s => cases s <;> first | exact .inl rfl | exact .inr rfl
variable {j k : Nat} {c : Str} {F : En → Res D}
theorem pbd_ownEq (cf : OpI X.prog X.w X.K X.mg X.base k c "__eq__" F) (hr : Room j X.A) (hk : k ≤ j) (ha : PED X W a fa) (hb : PED X W b fb) (h1 : behindInMarks .Eq b = false := by first | exact nobehind _ (by decide) (by decide) | rfl) : PBD X W (.Compare a [.Eq] [b] pos) (fB (f2 (d2m F c) fa fb)) := by
  obtain ⟨C, f, hm, hs, hf, sf, G⟩ := cf
  exact pbd_cmp (opr_ownC (op := .Eq) hs hf G (hr.mono hk) rfl) (od_own2 hm) ha hb h1
theorem pbd_ownNe (cf : OpI X.prog X.w X.K X.mg X.base k c "__eq__" F) (ne : NeI X.K X.mg c) (hr : Room j X.A) (hk : k + 1 ≤ j) (ha : PED X W a fa) (hb : PED X W b fb) (h1 : behindInMarks .NotEq b = false := by first | exact nobehind _ (by decide) (by decide) | rfl) : PBD X W (.Compare a [.NotEq] [b] pos) (fB (f2 (d2n F c) fa fb)) := by
  obtain ⟨C, f, hm, hs, hf, sf, G⟩ := cf
  obtain ⟨C', hm', hn, ho⟩ := ne
  obtain rfl := ref_inj hm hm'
  exact pbd_cmp (opr_ownN hs hf hn ho G (hr.mono hk)) (od_own2n hm) ha hb h1
end

/-! ### the end -/
def spLaw (K : PySem.W.Frag) : Sp := fun vs H Q _ => ∃ (a : Addr) (ns : List Int), vs = [.ref a] ∧ SqL K H a (ns.map V.int) ∧ ns.length ≤ 63 ∧ ∀ v H', v = .bl true → Q v H'
theorem law_ok {P : Program} {w : World} {K : PySem.W.Frag} {mg : Str → Option Value} {base : Heap} {CX : CXT} {k : Nat} {f : Addr} {fd : FuncData} {ps : List Str} {F : En → Res D} (h : FnOk P w K mg base CX k f fd ps (spD K mg F))
    (hl : ∀ ns : List Int, ns.length ≤ 63 → ∃ e', F [.val (.scr ns)] = .ok (.bl true) e') : FnOk P w K mg base CX k f fd ps (spLaw K) := by
  refine h.imp fun vs H Q E ⟨a, ns, ev, hs, hn, q⟩ => ?_
  subst ev
  obtain ⟨e', he⟩ := hl ns hn
  refine ⟨H, [], [.val (.scr ns)], ⟨Same.refl H, Same.refl H, fun a o h _ => h, fun a o h => .inl h, fun a o h => ⟨o, h⟩, rfl, fun i s z => ?_, fun i j a hij hi => ?_⟩, ?_⟩
  · match i, z with
    | 0, z => cases z; exact ⟨_, rfl, .scr hs⟩
    | i + 1, z => simp at z
  · obtain ⟨s, z, ho⟩ := hi
    match i, z with
    | 0, z => cases z; cases ho
    | i + 1, z => simp at z
  · rw [he]
    exact fun v B' H' S' r => q v H' r.bl_inv
theorem walk {l : PySem.W.OpenLaw} {q : Program} {loose : List Str} {XP : (Str → Option Value) → Heap → Prop} {YP : World → Heap → Prop} {d : DefRec} {K : Params → PySem.W.Frag} {k : Nat} {x : Str} (hn : l.most = some 63) (hdf : d.params.defaults = []) (hr : Room k callerA)
    (hY : ∀ (w : World) (h : Heap), YP w h → (K w.params).In h)
    (F : ∀ (w : World) (mg : Str → Option Value) (fa : Addr) (h : Heap), (K w.params).In h → h.Ns mainGlobals mg → mg d.name = some (.ref fa) →
      ∃ fd : FuncData, (∀ (s : Shared) (u : Value), BindsTo s fd ⟨[u], []⟩ [(x, u)]) ∧ ∀ base : Heap, (K w.params).In base → base.Ns mainGlobals mg → FnOk l.prog w (K w.params) mg base (L2.CX l.prog w) k fa fd [x] (spLaw (K w.params))) :
    PySem.W.WalkO q loose XP YP l.row.toRowW d [] (fun f vs => PySem.call f vs) :=
  L2.walk_of (n := 63) (k := k) (x := x) (CX := fun w => L2.CX l.prog w) (sp := fun w => spLaw (K w.params)) hn (by decide) hdf hr hY F (fun _ _ a ns hl _ hS => ⟨a, ns, rfl, hS, hl, fun _ _ z => z⟩) fun w H s e s' h => by
    obtain ⟨_, _, _, _, _, _, _, _, _, _, _, _, z⟩ := h
    exact z

/-! ### facts of isinstance -/
section
variable {K : PySem.W.Frag} {N C : Addr}
theorem kit_cond (h1 : PySem.W.isClsIn K C = true) (h2 : PySem.W.typeIn K (.ref C) = some (.type "type")) : ((PySem.W.clsIn K C).isSome && PySem.W.typeIn K (.ref C) == some (.type "type")) = true := by
  have h1' : (PySem.W.clsIn K C).isSome = true := h1
  rw [h1', h2]
  rfl
theorem kit_self : PySem.W.kitOne K (.ref C) (.ref C) = some true := by
  unfold PySem.W.kitOne
  rw [if_pos (by simp)]
theorem kit_sub (h1 : PySem.W.isClsIn K C = true) (h2 : PySem.W.typeIn K (.ref C) = some (.type "type")) (h3 : PySem.W.mroIn K N (.ref C) = some true) : PySem.W.kitOne K (.ref N) (.ref C) = some true := by
  unfold PySem.W.kitOne
  split
  · rfl
  · show (if ((PySem.W.clsIn K C).isSome && PySem.W.typeIn K (.ref C) == some (.type "type")) = true then PySem.W.subIn K (.ref N) (.ref C) else none) = some true
    rw [if_pos (kit_cond h1 h2)]
    exact h3
theorem kit_no (h1 : PySem.W.isClsIn K C = true) (h2 : PySem.W.typeIn K (.ref C) = some (.type "type")) (h3 : PySem.W.mroIn K N (.ref C) = some false) (hne : N ≠ C) : PySem.W.kitOne K (.ref N) (.ref C) = some false := by
  unfold PySem.W.kitOne
  rw [if_neg (by simpa using hne)]
  show (if ((PySem.W.clsIn K C).isSome && PySem.W.typeIn K (.ref C) == some (.type "type")) = true then PySem.W.subIn K (.ref N) (.ref C) else none) = some false
  rw [if_pos (kit_cond h1 h2)]
  exact h3
theorem kit_base (h1 : PySem.W.isClsIn K C = true) (h2 : PySem.W.typeIn K (.ref C) = some (.type "type")) : ∀ t ∈ tys, PySem.W.kitOne K (.type t) (.ref C) = some false := by
  have key : ∀ t, PySem.W.subIn K (.type t) (.ref C) = some false → PySem.W.kitOne K (.type t) (.ref C) = some false := fun t h3 => by
    unfold PySem.W.kitOne
    rw [if_neg (by simp)]
    show (if ((PySem.W.clsIn K C).isSome && PySem.W.typeIn K (.ref C) == some (.type "type")) = true then PySem.W.subIn K (.type t) (.ref C) else none) = some false
    rw [if_pos (kit_cond h1 h2)]
    exact h3
  unfold tys
  simp only [List.forall_mem_cons]
  exact ⟨key _ rfl, key _ rfl, key _ rfl, key _ rfl, key _ rfl, key _ rfl, key _ rfl, fun _ z => nomatch z⟩
end
end Dl

set_option maxHeartbeats 400000
/-! Layer D, part 13: how mirrors are computed. -/
namespace Dl
open PySem

section
variable {α β : Type} {a b d : D} {e : En} {i j : Int}
@[simp] theorem bd_ok {m : M α} {f : α → M β} {x : α} {e' : En} (h : m e = .ok x e') : bd m f e = f x e' := by unfold bd; rw [h]
@[simp] theorem pu_eq {x : α} : pu x e = .ok x e := rfl
@[simp] theorem li_eq {x : α} : li (some x) e = .ok x e := rfl
@[simp] theorem fC_eq : fC d e = .ok d e := rfl
theorem bd_eq {m : M α} {f : α → M β} : bd m f e = (match m e with
  | .ok a e' => f a e' | .exc x e' => .exc x e' | .bad => .bad) := rfl
@[simp] theorem dAdd_eq : dAdd (.int i) (.int j) e = .ok (.int (i + j)) e := rfl
@[simp] theorem dSub_eq : dSub (.int i) (.int j) e = .ok (.int (i - j)) e := rfl
@[simp] theorem dLt_eq : dLt (.int i) (.int j) e = .ok (.bl (decide (i < j))) e := rfl
@[simp] theorem dLe_eq : dLe (.int i) (.int j) e = .ok (.bl (decide (i ≤ j))) e := rfl
@[simp] theorem dGt_eq : dGt (.int i) (.int j) e = .ok (.bl (decide (j < i))) e := rfl
@[simp] theorem dGe_eq : dGe (.int i) (.int j) e = .ok (.bl (decide (j ≤ i))) e := rfl
theorem opI_eq {c : Int → Int → Bool} {g : Int → Int → D} (h : c i j = true) : opI c g (.int i) (.int j) e = .ok (g i j) e := by
  unfold opI li
  simp only [h, if_true]
theorem dMod_eq (h : 0 < j) : dMod (.int i) (.int j) e = .ok (.int (i % j)) e := opI_eq (by simpa using h)
theorem dDiv_eq (h : 0 < j) (h2 : j.natAbs.log2 < 9000) : dDiv (.int i) (.int j) e = .ok (.int (i / j)) e := opI_eq (by simpa using ⟨h, h2⟩)
theorem dMul_l (h : -(2 ^ 64) < i ∧ i < 2 ^ 64) : dMul (.int i) (.int j) e = .ok (.int (i * j)) e := opI_eq (by unfold cMul; simp only [Bool.or_eq_true, decide_eq_true_eq]; exact .inl (.inl h))
theorem dMul_r (h : -(2 ^ 64) < j ∧ j < 2 ^ 64) : dMul (.int i) (.int j) e = .ok (.int (i * j)) e := opI_eq (by unfold cMul; simp only [Bool.or_eq_true, decide_eq_true_eq]; exact .inl (.inr h))
theorem dPow_eq (h : 0 ≤ j ∧ j ≤ 1000000 ∧ i.natAbs < 2 ^ 64) : dPow (.int i) (.int j) e = .ok (.int (i ^ j.toNat)) e := opI_eq (by simpa using h)
@[simp] theorem f2_ok {o : D → D → M D} {fa fb : M D} {x y : D} {e1 e2 : En} (h1 : fa e = .ok x e1) (h2 : fb e1 = .ok y e2) : f2 o fa fb e = o x y e2 := by unfold f2 bd; simp only [h1, h2]
@[simp] theorem fB_ok {fa : M D} {c : Bool} {e1 : En} (h : fa e = .ok (.bl c) e1) : fB fa e = .ok c e1 := by unfold fB bd; simp only [h]; rfl
@[simp] theorem fCons_ok {fa : M D} {fr : M (List D)} {x : D} {xs : List D} {e1 e2 : En} (h1 : fa e = .ok x e1) (h2 : fr e1 = .ok xs e2) : fCons fa fr e = .ok (x :: xs) e2 := by unfold fCons bd; simp only [h1, h2]; rfl
@[simp] theorem fStar_ok {fa fr : M (List D)} {x : List D} {xs : List D} {e1 e2 : En} (h1 : fa e = .ok x e1) (h2 : fr e1 = .ok xs e2) : fStar fa fr e = .ok (x ++ xs) e2 := by unfold fStar bd; simp only [h1, h2]; rfl
@[simp] theorem fNil_eq : fNil e = .ok [] e := rfl
@[simp] theorem fL_ok {fa : M (List D)} {xs : List D} {e1 : En} (h : fa e = .ok xs e1) : fL fa e = .ok (.lst xs) e1 := by unfold fL bd; simp only [h]; rfl
theorem fLst_ok {fa : M (List D)} {xs : List D} {e1 : En} (h : fa e = .ok xs e1) (h2 : xs.length ≤ 16777216) : fLst fa e = .ok xs e1 := by unfold fLst bd; simp only [h, if_pos h2]; rfl
theorem fTup_ok {fa : M (List D)} {xs : List D} {e1 : En} (h : fa e = .ok xs e1) (h2 : xs.length ≤ 16777216) : fTup fa e = .ok (.tup xs) e1 := by unfold fTup bd; simp only [h, if_pos h2]; rfl
end

/-! ### comprehensions over data: the state as it was -/
theorem lcLoop_pure {vs : List Nat} {t : D → M Unit} {c : M Bool} {el : M D} {e : En} {f : D → Option D} : ∀ {ds : List D}, (∀ d ∈ ds, lcTurn vs t c el d e = .ok (f d) e) → lcLoop vs t c el ds e = .ok (ds.filterMap f) e
  | [], _ => rfl
  | d :: ds, h => by
    have h1 := h d List.mem_cons_self
    have h2 := lcLoop_pure (ds := ds) fun x hx => h x (List.mem_cons_of_mem _ hx)
    unfold lcLoop
    rw [bd_ok h1, bd_ok h2]
    cases q : f d with
    | none => simp [q]
    | some y => simp [q]
theorem fLc_pure {src : M (List D)} {vs : List Nat} {t : D → M Unit} {c : M Bool} {el : M D} {e e1 : En} {ds : List D} {f : D → Option D} (hs : src e = .ok ds e1) (hl : ds.length ≤ 16777216) (hn : noOwn vs e1 = true)
    (ht : ∀ d ∈ ds, lcTurn vs t c el d (wipeE vs e1) = .ok (f d) (wipeE vs e1)) (hr : restE vs e1 (wipeE vs e1) = e1) : fLc src vs t c el e = .ok (ds.filterMap f) e1 := by
  unfold fLc
  rw [bd_ok hs]
  show (if ds.length ≤ 16777216 ∧ noOwn vs e1 = true then (match lcLoop vs t c el ds (wipeE vs e1) with
    | .ok r e' => Res.ok r (restE vs e1 e') | _ => .bad) else .bad) = _
  rw [if_pos ⟨hl, hn⟩, lcLoop_pure ht]
  show Res.ok _ (restE vs e1 (wipeE vs e1)) = _
  rw [hr]
/-! ### loops -/
theorem forL_inv {t : D → M Unit} {body : M Fl} {I : En → Prop} : ∀ {ds : List D} {e : En}, I e → (∀ d ∈ ds, ∀ e, I e → ∃ e', I e' ∧ bd (noExc (t d)) (fun _ => body) e = .ok .nx e') → ∃ e', I e' ∧ forL t body ds e = .ok .nx e'
  | [], e, h, _ => ⟨e, h, rfl⟩
  | d :: ds, e, h, step => by
    obtain ⟨e1, h1, s1⟩ := step d List.mem_cons_self e h
    obtain ⟨e2, h2, s2⟩ := forL_inv (ds := ds) h1 fun x hx => step x (List.mem_cons_of_mem _ hx)
    refine ⟨e2, h2, ?_⟩
    unfold forL
    rw [bd_eq (m := noExc (t d))] at s1 ⊢
    cases q : noExc (t d) e with
    | ok a e3 =>
      rw [q] at s1
      show bd body _ e3 = _
      rw [bd_ok (show body e3 = .ok .nx e1 from s1)]
      exact s2
    | exc x e3 => rw [q] at s1; cases s1
    | bad => rw [q] at s1; cases s1
/-- a loop that folds: slot contents told by a state -/
theorem forL_fold {S : Type} {t : D → M Unit} {body : M Fl} {E : S → En} {g : S → D → S} : ∀ {ds : List D} {s : S}, (∀ d ∈ ds, ∀ s, bd (noExc (t d)) (fun _ => body) (E s) = .ok .nx (E (g s d))) → forL t body ds (E s) = .ok .nx (E (ds.foldl g s))
  | [], s, _ => rfl
  | d :: ds, s, step => by
    have s1 := step d List.mem_cons_self s
    have s2 := forL_fold (ds := ds) (s := g s d) fun x hx => step x (List.mem_cons_of_mem _ hx)
    unfold forL
    rw [bd_eq (m := noExc (t d))] at s1 ⊢
    cases q : noExc (t d) (E s) with
    | ok a e3 =>
      rw [q] at s1
      show bd body _ e3 = _
      rw [bd_ok (show body e3 = .ok .nx _ from s1)]
      exact s2
    | exc x e3 => rw [q] at s1; cases s1
    | bad => rw [q] at s1; cases s1

/-! ### steps -/
section
variable {α β : Type} {e e1 e2 : En} {d x y : D} {ds : List D}
theorem findO_d : ∀ {ds : List D} {os : En} {i : Nat}, findO (ds.map Ar.d) os i = none
  | [], _, _ => rfl
  | _ :: _, [], _ => rfl
  | _ :: ds, _ :: os, i => findO_d (ds := ds) (os := os) (i := i)
theorem putG_id : ∀ {n : Nat} {e : En}, putG (fun _ s => s) n e = e
  | _, [] => rfl
  | n, s :: e => by unfold putG; rw [putG_id]
theorem putG_same {g : Nat → Sl → Sl} (h : ∀ i s, g i s = s) : ∀ {n : Nat} {e : En}, putG g n e = e
  | _, [] => rfl
  | n, s :: e => by unfold putG; rw [putG_same h, h]
theorem putO_d {os : En} : putO (ds.map Ar.d) os e = e := by
  unfold putO
  exact putG_same fun i s => by rw [findO_d]
theorem owns_d : ∀ {ds : List D}, owns (ds.map Ar.d) = []
  | [] => rfl
  | _ :: ds => owns_d (ds := ds)
theorem map_toSl : ∀ {ds : List D}, (ds.map Ar.d).map (toSl e) = ds.map Sl.val
  | [] => rfl
  | _ :: ds => congrArg (_ :: ·) (map_toSl (ds := ds))
theorem callR_d {F : En → Res D} {os : En} (h : F (ds.map Sl.val) = .ok d os) : callR F (ds.map Ar.d) e = .ok d e := by
  unfold callR
  rw [owns_d, map_toSl, h]
  show Res.ok d (putO (ds.map Ar.d) os e) = _
  rw [putO_d]
theorem callR1 {F : En → Res D} {os : En} (h : F [.val x] = .ok d os) : callR F [.d x] e = .ok d e := callR_d (ds := [x]) h
theorem callR2 {F : En → Res D} {os : En} (h : F [.val x, .val y] = .ok d os) : callR F [.d x, .d y] e = .ok d e := callR_d (ds := [x, y]) h
theorem callR3 {F : En → Res D} {os : En} {z : D} (h : F [.val x, .val y, .val z] = .ok d os) : callR F [.d x, .d y, .d z] e = .ok d e := callR_d (ds := [x, y, z]) h
theorem rD_ok {fa : M D} {fr : M (List Ar)} {xs : List Ar} (h1 : fa e = .ok x e1) (h2 : fr e1 = .ok xs e2) : rD fa fr e = .ok (.d x :: xs) e2 := by unfold rD; rw [bd_ok h1, bd_ok h2]; rfl
theorem rNil_eq : rNil e = .ok [] e := rfl
theorem fRet_ok {fa : M D} (h : fa e = .ok x e1) : fRet fa e = .ok (.rt x) e1 := bd_ok h
theorem fSeq_nx {a b : M Fl} {r : Res Fl} (h : a e = .ok .nx e1) (h2 : b e1 = r) : fSeq a b e = r := by unfold fSeq; rw [bd_ok h]; exact h2
theorem fSeq_rt {a b : M Fl} (h : a e = .ok (.rt d) e1) : fSeq a b e = .ok (.rt d) e1 := by unfold fSeq; rw [bd_ok h]; rfl
theorem fIf_t {c : M Bool} {fa fb : M α} {r : Res α} (h : c e = .ok true e1) (h2 : fa e1 = r) : fIf c fa fb e = r := by unfold fIf; rw [bd_ok h]; exact h2
theorem fIf_f {c : M Bool} {fa fb : M α} {r : Res α} (h : c e = .ok false e1) (h2 : fb e1 = r) : fIf c fa fb e = r := by unfold fIf; rw [bd_ok h]; exact h2
theorem fNot_ok {c : M Bool} {b : Bool} (h : c e = .ok b e1) : fNot c e = .ok (!b) e1 := by unfold fNot; rw [bd_ok h]; rfl
theorem fOr_f {c c2 : M Bool} {r : Res Bool} (h : c e = .ok false e1) (h2 : c2 e1 = r) : fOr c c2 e = r := by unfold fOr; rw [bd_ok h]; exact h2
theorem fOr_t {c c2 : M Bool} (h : c e = .ok true e1) : fOr c c2 e = .ok true e1 := by unfold fOr; rw [bd_ok h]; rfl
theorem fOr_ok {c c2 : M Bool} {a b : Bool} (h : c e = .ok a e1) (h2 : c2 e1 = .ok b e1) : fOr c c2 e = .ok (a || b) e1 := by unfold fOr; rw [bd_ok h]; cases a <;> first | exact h2 | rfl
theorem fAnd_ok {c c2 : M Bool} {a b : Bool} (h : c e = .ok a e1) (h2 : c2 e1 = .ok b e1) : fAnd c c2 e = .ok (a && b) e1 := by unfold fAnd; rw [bd_ok h]; cases a <;> first | exact h2 | rfl
theorem fAndV_ok {c c2 : M D} {a b : Bool} (h : c e = .ok (.bl a) e1) (h2 : c2 e1 = .ok (.bl b) e1) : fAndV c c2 e = .ok (.bl (a && b)) e1 := by unfold fAndV; rw [bd_ok (fB_ok h)]; cases a <;> first | exact h2 | rfl
theorem fOrV_ok {c c2 : M D} {a b : Bool} (h : c e = .ok (.bl a) e1) (h2 : c2 e1 = .ok (.bl b) e1) : fOrV c c2 e = .ok (.bl (a || b)) e1 := by unfold fOrV; rw [bd_ok (fB_ok h)]; cases a <;> first | exact h2 | rfl
theorem fSetT_ok {fa : M D} {t : D → M Unit} {u : Unit} (h : fa e = .ok x e1) (h2 : t x e1 = .ok u e2) : fSetT fa t e = .ok .nx e2 := by
  unfold fSetT
  rw [bd_ok h, bd_ok (show noExc (t x) e1 = .ok u e2 by unfold noExc; rw [h2])]
  rfl
theorem fDrop_ok {fa : M D} (h : fa e = .ok x e1) : fDrop fa e = .ok .nx e1 := bd_ok h
theorem runF_ok {n m : Nat} {g : M Fl} {as : En} (h : g (as ++ List.replicate (m - n) .no) = .ok (.rt d) e1) (hn : as.length = n) (hm : n ≤ m) (hl : e1.length = m) : runF n m g as = .ok d ((e1.take n).map keepR) := by
  unfold runF
  rw [if_pos ⟨hn, hm⟩, h]
  show (if e1.length = m then Res.ok d ((e1.take n).map keepR) else .bad) = _
  rw [if_pos hl]
theorem runF_nx {n m : Nat} {g : M Fl} {as : En} (h : g (as ++ List.replicate (m - n) .no) = .ok .nx e1) (hn : as.length = n) (hm : n ≤ m) (hl : e1.length = m) : runF n m g as = .ok .non ((e1.take n).map keepR) := by
  unfold runF
  rw [if_pos ⟨hn, hm⟩, h]
  show (if e1.length = m then Res.ok D.non ((e1.take n).map keepR) else .bad) = _
  rw [if_pos hl]
theorem noExc_ok {m : M α} {a : α} (h : m e = .ok a e1) : noExc m e = .ok a e1 := by unfold noExc; rw [h]
theorem fProp_ok {c : Str} {F : En → Res D} {fa : M D} {ns : List Str} {os : En} (h : fa e = .ok (.obj c ns ds) e1) (h2 : F [.val (.obj c ns ds)] = .ok d os) : fProp c F fa e = .ok d e1 := by
  unfold fProp
  rw [bd_ok h]
  simp only [if_true]
  rw [bd_ok (li_eq (x := ()) (e := e1))]
  exact noExc_ok (callR1 h2)
theorem fMake_ok {c : Str} {F : En → Res D} {fa : M (List D)} {xs : List D} {ns : List Str} {r : Bool} {os : En} (h : fa e = .ok xs e1) (h2 : F (.oin true c [] [] :: xs.map .val) = .ok .non (.oin r c ns ds :: os)) : fMake c F fa e = .ok (.obj c ns ds) e1 := by
  unfold fMake
  rw [bd_ok h]
  show (match F (.oin true c [] [] :: xs.map .val) with
    | .ok .non (.oin _ c' ns fs :: _) => Res.ok (D.obj c' ns fs) e1
    | .exc x _ => .exc x e1
    | _ => .bad) = _
  rw [h2]
theorem fCallO1 {c : Str} {F : En → Res D} {fo fa : M D} {ns : List Str} {os : En} (h : fo e = .ok (.obj c ns ds) e1) (h1 : fa e1 = .ok x e2) (h2 : F [.val (.obj c ns ds), .val x] = .ok d os) : fCallO c F fo (rD fa rNil) e = .ok d e2 := by
  unfold fCallO
  rw [bd_ok h]
  simp only [if_true]
  rw [bd_ok (li_eq (x := ()) (e := e1)), bd_ok (rD_ok h1 rNil_eq)]
  exact callR2 h2
theorem fMeth1 {c m : Str} {F : En → Res D} {fo fa : M D} {ns : List Str} {os : En} (h : fo e = .ok (.obj c ns ds) e1) (hm : (look m ns ds).isNone = true) (h1 : fa e1 = .ok x e2) (h2 : F [.val (.obj c ns ds), .val x] = .ok d os) : fMeth c m F fo (rD fa rNil) e = .ok d e2 := by
  unfold fMeth
  rw [bd_ok h]
  have e3 : dNoF c m (.obj c ns ds) e1 = .ok (.obj c ns ds) e1 := by
    unfold dNoF
    simp only [hm, and_self, if_true]
    rfl
  rw [bd_ok e3, bd_ok (rD_ok h1 rNil_eq)]
  exact callR2 h2
theorem d2m_ok {c : Str} {F : En → Res D} {n1 n2 : List Str} {s1 s2 : List D} {os : En} (h : F [.val (.obj c n1 s1), .val (.obj c n2 s2)] = .ok d os) : d2m F c (.obj c n1 s1) (.obj c n2 s2) e = .ok d e := by
  have e1 : d2m F c (.obj c n1 s1) (.obj c n2 s2) = noExc (callR F [.d (.obj c n1 s1), .d (.obj c n2 s2)]) := by
    unfold d2m
    simp only [and_self, if_true]
  rw [e1]
  exact noExc_ok (callR2 h)
theorem d2n_ok {c : Str} {F : En → Res D} {n1 n2 : List Str} {s1 s2 : List D} {os : En} {b : Bool} (h : F [.val (.obj c n1 s1), .val (.obj c n2 s2)] = .ok (.bl b) os) : d2n F c (.obj c n1 s1) (.obj c n2 s2) e = .ok (.bl (!b)) e := by
  unfold d2n
  rw [bd_ok (d2m_ok h)]
  rfl
theorem dEq_ok {a b : D} {p q : PyData} (h1 : toP a = some p) (h2 : toP b = some q) (h3 : SeqAt.shaped p = true) (h4 : SeqAt.shaped q = true) : dEq a b e = .ok (.bl (PyData.eqv p q)) e := by
  unfold dEq eqD
  rw [h1, h2]
  simp only [h3, h4, and_self, if_true]
  rfl
theorem dNe_ok {a b : D} {p q : PyData} (h1 : toP a = some p) (h2 : toP b = some q) (h3 : SeqAt.shaped p = true) (h4 : SeqAt.shaped q = true) : dNe a b e = .ok (.bl (!PyData.eqv p q)) e := by
  unfold dNe eqD
  rw [h1, h2]
  simp only [h3, h4, and_self, if_true]
  rfl
end

/-! ### == of ints, of lists and tuples of ints -/
theorem toPs_ints : ∀ l : List Int, toPs (l.map D.int) = some (l.map PyData.int)
  | [] => rfl
  | x :: l => by
    show (match toP (D.int x), toPs (l.map D.int) with
      | some p, some q => some (p :: q) | _, _ => none) = _
    rw [toPs_ints l]
    rfl
theorem lay_ints : ∀ l : List Int, PyData.canLayAll0 (l.map PyData.int) = true
  | [] => rfl
  | x :: l => by
    show (PyData.canLay0 (.int x) && PyData.canLayAll0 (l.map PyData.int)) = true
    rw [lay_ints l]
    rfl
theorem depth_ints : ∀ l : List Int, PyData.depthAll (l.map PyData.int) = 0
  | [] => rfl
  | x :: l => by
    show max (PyData.depth (.int x)) (PyData.depthAll (l.map PyData.int)) = 0
    rw [depth_ints l]
    rfl
theorem eqv_ints : ∀ l m : List Int, PyData.eqvAll (l.map PyData.int) (m.map PyData.int) = decide (l = m)
  | [], [] => rfl
  | [], _ :: _ => rfl
  | _ :: _, [] => rfl
  | x :: l, y :: m => by
    show ((x == y) && PyData.eqvAll (l.map PyData.int) (m.map PyData.int)) = _
    rw [eqv_ints l m]
    by_cases h : x = y <;> by_cases h2 : l = m <;> simp [h, h2]
theorem shaped_list (l : List Int) : SeqAt.shaped (.list (l.map PyData.int)) = true := by
  show (PyData.canLayAll0 (l.map PyData.int) && decide (PyData.depthAll (l.map PyData.int) + 1 ≤ 64)) = true
  rw [lay_ints, depth_ints]
  rfl
theorem shaped_tup (l : List Int) : SeqAt.shaped (.tuple (l.map PyData.int)) = true := by
  show (PyData.canLayAll0 (l.map PyData.int) && decide (PyData.depthAll (l.map PyData.int) + 1 ≤ 64)) = true
  rw [lay_ints, depth_ints]
  rfl
theorem toP_list (l : List Int) : toP (.lst (l.map D.int)) = some (.list (l.map PyData.int)) := by unfold toP; rw [toPs_ints]
theorem toP_tup (l : List Int) : toP (.tup (l.map D.int)) = some (.tuple (l.map PyData.int)) := by unfold toP; rw [toPs_ints]
section
variable {e : En}
theorem dEq_int {i j : Int} : dEq (.int i) (.int j) e = .ok (.bl (decide (i = j))) e := by
  rw [dEq_ok (p := .int i) (q := .int j) rfl rfl rfl rfl]
  show Res.ok (D.bl (i == j)) e = _
  congr 2
theorem dNe_int {i j : Int} : dNe (.int i) (.int j) e = .ok (.bl (!decide (i = j))) e := by
  rw [dNe_ok (p := .int i) (q := .int j) rfl rfl rfl rfl]
  show Res.ok (D.bl (!(i == j))) e = _
  congr 2
theorem dEq_list {l m : List Int} : dEq (.lst (l.map D.int)) (.lst (m.map D.int)) e = .ok (.bl (decide (l = m))) e := by
  rw [dEq_ok (toP_list l) (toP_list m) (shaped_list l) (shaped_list m)]
  show Res.ok (D.bl (PyData.eqvAll _ _)) e = _
  rw [eqv_ints]
theorem dNe_list {l m : List Int} : dNe (.lst (l.map D.int)) (.lst (m.map D.int)) e = .ok (.bl (!decide (l = m))) e := by
  rw [dNe_ok (toP_list l) (toP_list m) (shaped_list l) (shaped_list m)]
  show Res.ok (D.bl (!(PyData.eqvAll _ _))) e = _
  rw [eqv_ints]
theorem dEq_tup {l m : List Int} : dEq (.tup (l.map D.int)) (.tup (m.map D.int)) e = .ok (.bl (decide (l = m))) e := by
  rw [dEq_ok (toP_tup l) (toP_tup m) (shaped_tup l) (shaped_tup m)]
  show Res.ok (D.bl (PyData.eqvAll _ _)) e = _
  rw [eqv_ints]
theorem dNe_bl {a b : Bool} : dNe (.bl a) (.bl b) e = .ok (.bl (!(a == b))) e := by
  rw [dNe_ok (p := .bool a) (q := .bool b) rfl rfl rfl rfl]
  rfl
end

/-! ### more steps -/
section
variable {α : Type} {e e1 e2 e3 : En} {d y : D} {ds : List D} {i : Nat}
theorem setV_ok {s : Sl} (h : e[i]? = some s) (hr : s.isRef = false) : setV i d e = .ok () (e.set i (.val d)) := by
  unfold setV
  rw [h]
  show (if s.isRef = true then Res.bad else Res.ok () (e.set i (.val d))) = _
  rw [if_neg (by simp [hr])]
theorem lcTurn_t {vs : List Nat} {t : D → M Unit} {c : M Bool} {el : M D} (h1 : t d (refE e) = .ok () e1) (h2 : c e1 = .ok true e2) (h3 : el e2 = .ok y e3) (hl : e3.length = e.length) : lcTurn vs t c el d e = .ok (some y) (fixE vs e e3) := by
  unfold lcTurn
  have h : (bd (noExc (t d)) fun _ => bd c fun b => if b = true then bd el fun y => pu (some y) else pu none) (refE e) = .ok (some y) e3 := by
    rw [bd_ok (noExc_ok h1), bd_ok h2, if_pos rfl, bd_ok h3]
    rfl
  rw [h]
  show (if e3.length = e.length then Res.ok (some y) (fixE vs e e3) else .bad) = _
  rw [if_pos hl]
theorem lcTurn_f {vs : List Nat} {t : D → M Unit} {c : M Bool} {el : M D} (h1 : t d (refE e) = .ok () e1) (h2 : c e1 = .ok false e2) (hl : e2.length = e.length) : lcTurn vs t c el d e = .ok none (fixE vs e e2) := by
  unfold lcTurn
  have h : (bd (noExc (t d)) fun _ => bd c fun b => if b = true then bd el fun y => pu (some y) else pu none) (refE e) = .ok none e2 := by
    rw [bd_ok (noExc_ok h1), bd_ok h2, if_neg Bool.false_ne_true]
    rfl
  rw [h]
  show (if e2.length = e.length then Res.ok none (fixE vs e e2) else .bad) = _
  rw [if_pos hl]
theorem forL_nx {t : D → M Unit} {body : M Fl} {r : Res Fl} {u : Unit} (h1 : t d e = .ok u e1) (h2 : body e1 = .ok .nx e2) (h3 : forL t body ds e2 = r) : forL t body (d :: ds) e = r := by
  unfold forL
  rw [bd_ok (noExc_ok h1), bd_ok h2]
  exact h3
theorem fFor_ok {src : M (List D)} {t : D → M Unit} {body : M Fl} {r : Res Fl} (h : src e = .ok ds e1) (h2 : forL t body ds e1 = r) : fFor src t body e = r := by
  unfold fFor
  rw [bd_ok h]
  exact h2
theorem bdli {fa : M D} {g : D → Option α} {a : α} (h : fa e = .ok d e1) (h2 : g d = some a) : bd fa (fun d => li (g d)) e = .ok a e1 := by
  rw [bd_ok h, h2]
  rfl
theorem d1_ok' {fr : M (List D)} {g : D → Option D} {x : D} (h : fr e = .ok [d] e1) (h2 : g d = some x) : bd fr (d1 g) e = .ok x e1 := by
  rw [bd_ok h]
  show li (g d) e1 = _
  rw [h2]
  rfl
theorem d2_ok' {fr : M (List D)} {g : D → D → Option D} {x a b : D} (h : fr e = .ok [a, b] e1) (h2 : g a b = some x) : bd fr (d2 g) e = .ok x e1 := by
  rw [bd_ok h]
  show li (g a b) e1 = _
  rw [h2]
  rfl
theorem walk_lst {fa : M D} (h : fa e = .ok (.lst ds) e1) : bd fa dWalk e = .ok ds e1 := by rw [bd_ok h]; rfl
theorem walk_tup {fa : M D} (h : fa e = .ok (.tup ds) e1) : bd fa dWalk e = .ok ds e1 := by rw [bd_ok h]; rfl
theorem fm_int {f : D → Option D} {g : Int → D} (h : ∀ x, f (.int x) = some (g x)) : ∀ l : List Int, (l.map D.int).filterMap f = l.map g
  | [] => rfl
  | x :: l => by rw [List.map_cons, List.filterMap_cons, h, List.map_cons, fm_int h l]
theorem fm_if {f : D → Option D} {g : Int → D} {p : Int → Bool} (h : ∀ x, f (.int x) = if p x then some (g x) else none) : ∀ l : List Int, (l.map D.int).filterMap f = (l.filter p).map g
  | [] => rfl
  | x :: l => by
    rw [List.map_cons, List.filterMap_cons, h, List.filter_cons]
    cases p x with
    | true => simp only [if_true, List.map_cons, fm_if h l]
    | false => simp only [Bool.false_eq_true, if_false, fm_if h l]
theorem all_bls (bs : List Bool) : oAll (.lst (bs.map D.bl)) = some (.bl (bs.all id)) := by
  show (match toBls (bs.map D.bl) with
    | some bs => some (D.bl (bs.all id)) | none => none) = _
  rw [toBls_map]
end
end Dl

set_option maxHeartbeats 400000
/-! Tables of counts: a start and lost ranks, in plain Lean. -/
namespace Tab
open Dl

def cnt (l : List Int) (c : Int) : Int := ((l.filter fun x => decide (x ≤ c)).length : Int)
def aft (s : Int) (l : List Int) (c : Int) : Int := s + c - cnt l c
def fld (l : List Int) (m : Int) : Int := l.foldl (fun r x => if x ≤ r then r + 1 else r) m
def lr (s : Int) (l : List Int) (c : Int) : Int := fld l (if s < c then c - s else 0)
structure Vl (s : Int) (l : List Int) : Prop where
  s0 : 0 ≤ s
  up : l.Pairwise (· < ·)
  pos : ∀ x ∈ l, 0 < x

theorem cnt_nil (c : Int) : cnt [] c = 0 := rfl
theorem cnt_cons (x : Int) (l : List Int) (c : Int) : cnt (x :: l) c = (if x ≤ c then 1 else 0) + cnt l c := by
  unfold cnt
  rw [List.filter_cons]
  by_cases h : x ≤ c
  · simp [h]; omega
  · simp [h]
theorem cnt_app (l m : List Int) (c : Int) : cnt (l ++ m) c = cnt l c + cnt m c := by
  unfold cnt
  rw [List.filter_append, List.length_append]
  omega
theorem cnt_perm {l m : List Int} (h : l.Perm m) (c : Int) : cnt l c = cnt m c := by
  unfold cnt
  rw [(h.filter _).length_eq]
theorem cnt_nn (l : List Int) (c : Int) : 0 ≤ cnt l c := by unfold cnt; omega
theorem cnt_zero {l : List Int} {c : Int} (h : ∀ x ∈ l, c < x) : cnt l c = 0 := by
  induction l with
  | nil => rfl
  | cons x l ih =>
    rw [cnt_cons, ih fun y hy => h y (List.mem_cons_of_mem _ hy), if_neg (by have := h x List.mem_cons_self; omega)]
    rfl
theorem cnt_mono {l : List Int} {c d : Int} (h : c ≤ d) : cnt l c ≤ cnt l d := by
  induction l with
  | nil => exact Int.le_refl _
  | cons x l ih =>
    rw [cnt_cons, cnt_cons]
    split <;> split <;> omega
/-- one count further -/
theorem cnt_step {l : List Int} (hu : l.Pairwise (· < ·)) (c : Int) : cnt l (c + 1) = cnt l c + if c + 1 ∈ l then 1 else 0 := by
  induction l with
  | nil => rfl
  | cons x l ih =>
    have h := List.pairwise_cons.mp hu
    have ih := ih h.2
    rw [cnt_cons, cnt_cons, ih]
    by_cases hx : x = c + 1
    · subst hx
      have hn : ¬ (c + 1 ∈ l) := fun z => by have := h.1 _ z; omega
      rw [if_pos (Int.le_refl _), if_neg (show ¬ c + 1 ≤ c by omega), if_pos List.mem_cons_self, if_neg hn]
      omega
    · have e : (c + 1 ∈ x :: l) ↔ c + 1 ∈ l := by
        rw [List.mem_cons]
        exact ⟨fun z => z.resolve_left fun q => hx q.symm, .inr⟩
      simp only [e]
      by_cases h1 : x ≤ c
      · rw [if_pos (show x ≤ c + 1 by omega), if_pos h1]
        omega
      · rw [if_neg (show ¬ x ≤ c + 1 by omega), if_neg h1]
        omega
theorem cnt_add {l : List Int} (hu : l.Pairwise (· < ·)) (c : Int) : ∀ n : Nat, cnt l (c + n) ≤ cnt l c + n
  | 0 => by simp
  | n + 1 => by
    have ih := cnt_add hu c n
    have s := cnt_step hu (c + n)
    have e : c + ((n + 1 : Nat) : Int) = c + n + 1 := by omega
    rw [e, s]
    split <;> omega
theorem cnt_le {l : List Int} (hu : l.Pairwise (· < ·)) {c d : Int} (h : c ≤ d) : cnt l d - cnt l c ≤ d - c := by
  have := cnt_add hu c (d - c).toNat
  have e : c + ((d - c).toNat : Int) = d := by omega
  rw [e] at this
  omega
theorem gap_nn {s : Int} {l : List Int} (v : Vl s l) {c : Int} (h : 0 ≤ c) : 0 ≤ c - cnt l c := by
  have h1 := cnt_le v.up h
  have h2 : cnt l 0 = 0 := cnt_zero v.pos
  omega
theorem fld_cons (x : Int) (l : List Int) (m : Int) : fld (x :: l) m = fld l (if x ≤ m then m + 1 else m) := rfl
theorem fld_small {l : List Int} {m : Int} (h : ∀ x ∈ l, m < x) : fld l m = m := by
  induction l with
  | nil => rfl
  | cons x l ih =>
    rw [fld_cons, if_neg (by have := h x List.mem_cons_self; omega)]
    exact ih fun y hy => h y (List.mem_cons_of_mem _ hy)
theorem fld_spec {l : List Int} (hu : l.Pairwise (· < ·)) : ∀ m : Int, fld l m = m + cnt l (fld l m) ∧ fld l m ∉ l ∧ m ≤ fld l m := by
  induction l with
  | nil => intro m; exact ⟨by show m = m + 0; omega, by simp, Int.le_refl _⟩
  | cons x l ih =>
    intro m
    have h := List.pairwise_cons.mp hu
    rw [fld_cons]
    by_cases hx : x ≤ m
    · rw [if_pos hx]
      obtain ⟨h1, h2, h3⟩ := ih h.2 (m + 1)
      refine ⟨?_, ?_, by omega⟩
      · rw [cnt_cons, if_pos (by omega)]
        omega
      · rw [List.mem_cons]
        exact fun z => z.elim (fun q => by omega) h2
    · rw [if_neg hx]
      have e : fld l m = m := fld_small fun y hy => by have := h.1 y hy; omega
      rw [e]
      refine ⟨?_, ?_, Int.le_refl _⟩
      · rw [cnt_cons, if_neg hx, cnt_zero fun y hy => by have := h.1 y hy; omega]
        omega
      · rw [List.mem_cons]
        exact fun z => z.elim (fun q => by omega) fun q => by have := h.1 m q; omega
theorem lr_nn {s : Int} {l : List Int} (v : Vl s l) (c : Int) : 0 ≤ lr s l c := by
  unfold lr
  have := (fld_spec v.up (if s < c then c - s else 0)).2.2
  split at this <;> split <;> omega
theorem lr_back {s : Int} {l : List Int} (v : Vl s l) {c : Int} (h : s < c) : aft s l (lr s l c) = c ∧ lr s l c ∉ l ∧ 0 < lr s l c := by
  unfold lr aft
  rw [if_pos h]
  obtain ⟨h1, h2, h3⟩ := fld_spec v.up (c - s)
  exact ⟨by omega, h2, by omega⟩
theorem lr_zero {s : Int} {l : List Int} (v : Vl s l) {c : Int} (h : c ≤ s) : lr s l c = 0 := by
  unfold lr
  rw [if_neg (by omega)]
  exact fld_small v.pos
theorem aft_ge {s : Int} {l : List Int} (v : Vl s l) {c : Int} (h : 0 ≤ c) : s ≤ aft s l c := by
  have := gap_nn v h
  unfold aft
  omega
theorem galois {s : Int} {l : List Int} (v : Vl s l) (c : Int) {k : Int} (hk : 0 ≤ k) : lr s l c ≤ k ↔ c ≤ aft s l k := by
  by_cases h : s < c
  · obtain ⟨h1, h2, h3⟩ := lr_back v h
    constructor
    · intro z
      have := cnt_le v.up z
      unfold aft at h1 ⊢
      omega
    · intro z
      refine Int.not_lt.mp fun q => ?_
      have e := cnt_step v.up (lr s l c - 1)
      rw [show lr s l c - 1 + 1 = lr s l c by omega, if_neg h2] at e
      have := cnt_le v.up (show k ≤ lr s l c - 1 by omega)
      unfold aft at h1 z
      omega
  · rw [lr_zero v (by omega)]
    have := aft_ge v hk
    omega
/-! ### sums -/
def sumL (s1 : Int) (l1 l2 : List Int) : List Int := isort (l1 ++ (l2.filter fun r => decide (s1 < r)).map (lr s1 l1))
theorem cnt_fur {s1 : Int} {l1 : List Int} (v : Vl s1 l1) {c : Int} (hc : 0 ≤ c) (l2 : List Int) : cnt ((l2.filter fun r => decide (s1 < r)).map (lr s1 l1)) c = cnt l2 (aft s1 l1 c) - cnt l2 s1 := by
  induction l2 with
  | nil => rfl
  | cons x l ih =>
    have ha := aft_ge v hc
    rw [cnt_cons, cnt_cons, List.filter_cons]
    by_cases h : s1 < x
    · simp only [h, decide_true, if_true, List.map_cons]
      rw [cnt_cons, ih, if_neg (show ¬ x ≤ s1 by omega)]
      by_cases h2 : lr s1 l1 x ≤ c
      · rw [if_pos h2, if_pos ((galois v x hc).mp h2)]
        omega
      · rw [if_neg h2, if_neg fun z => h2 ((galois v x hc).mpr z)]
        omega
    · simp only [h, decide_false, Bool.false_eq_true, if_false]
      rw [ih, if_pos (show x ≤ aft s1 l1 c by omega), if_pos (show x ≤ s1 by omega)]
      omega
theorem comp {s1 s2 : Int} {l1 l2 : List Int} (v : Vl s1 l1) {c : Int} (hc : 0 ≤ c) : aft (aft s2 l2 s1) (sumL s1 l1 l2) c = aft s2 l2 (aft s1 l1 c) := by
  have e : cnt (sumL s1 l1 l2) c = cnt l1 c + (cnt l2 (aft s1 l1 c) - cnt l2 s1) := by
    unfold sumL
    rw [cnt_perm (isort_perm _), cnt_app, cnt_fur v hc]
  show aft s2 l2 s1 + c - cnt (sumL s1 l1 l2) c = s2 + aft s1 l1 c - cnt l2 (aft s1 l1 c)
  rw [e]
  show s2 + s1 - cnt l2 s1 + c - _ = s2 + (s1 + c - cnt l1 c) - _
  omega
theorem sum_vl {s1 s2 : Int} {l1 l2 : List Int} (v : Vl s1 l1) (v2 : Vl s2 l2) : Vl (aft s2 l2 s1) (sumL s1 l1 l2) := by
  have hf : ∀ y ∈ (l2.filter fun r => decide (s1 < r)).map (lr s1 l1), 0 < y ∧ y ∉ l1 := fun y hy => by
    obtain ⟨x, hx, rfl⟩ := List.mem_map.mp hy
    have hx := List.mem_filter.mp hx
    have := lr_back v (of_decide_eq_true hx.2)
    exact ⟨this.2.2, this.2.1⟩
  refine ⟨?_, ?_, fun x hx => ?_⟩
  · have := aft_ge v2 v.s0
    have := v2.s0
    omega
  · have nd : (l1 ++ (l2.filter fun r => decide (s1 < r)).map (lr s1 l1)).Nodup := by
      refine List.nodup_append.mpr ⟨v.up.imp fun h => by omega, ?_, fun a ha b hb e => (hf b hb).2 (e ▸ ha)⟩
      refine List.pairwise_map.mpr ?_
      refine List.Pairwise.imp_of_mem (R := (· < ·)) (fun {a b} ha hb hab e => ?_) (v2.up.filter _)
      have h1 := (lr_back v (of_decide_eq_true (List.mem_filter.mp ha).2)).1
      have h2 := (lr_back v (of_decide_eq_true (List.mem_filter.mp hb).2)).1
      rw [e, h2] at h1
      omega
    have nd2 : (sumL s1 l1 l2).Nodup := (isort_perm _).nodup_iff.mpr nd
    have st : (sumL s1 l1 l2).Pairwise (· ≤ ·) := isort_sorted _
    exact (st.and nd2).imp fun h => by omega
  · have hx : x ∈ l1 ++ (l2.filter fun r => decide (s1 < r)).map (lr s1 l1) := (isort_perm _).mem_iff.mp hx
    rcases List.mem_append.mp hx with h | h
    · exact v.pos x h
    · exact (hf x h).1
theorem sorted_ext : ∀ {l m : List Int}, l.Pairwise (· < ·) → m.Pairwise (· < ·) → (∀ x, x ∈ l ↔ x ∈ m) → l = m
  | [], [], _, _, _ => rfl
  | [], y :: m, _, _, h => absurd ((h y).mpr List.mem_cons_self) (by simp)
  | x :: l, [], _, _, h => absurd ((h x).mp List.mem_cons_self) (by simp)
  | x :: l, y :: m, hl, hm, h => by
    have h1 := List.pairwise_cons.mp hl
    have h2 := List.pairwise_cons.mp hm
    have e : x = y := by
      rcases List.mem_cons.mp ((h x).mp List.mem_cons_self) with e | mx
      · exact e
      · rcases List.mem_cons.mp ((h y).mpr List.mem_cons_self) with e | my
        · exact e.symm
        · have a := h2.1 x mx
          have b := h1.1 y my
          omega
    subst e
    congr 1
    refine sorted_ext h1.2 h2.2 fun z => ⟨fun hz => ?_, fun hz => ?_⟩
    · exact (List.mem_cons.mp ((h z).mp (List.mem_cons_of_mem _ hz))).resolve_left fun q => by have := h1.1 z hz; omega
    · exact (List.mem_cons.mp ((h z).mpr (List.mem_cons_of_mem _ hz))).resolve_left fun q => by have := h2.1 z hz; omega
theorem mem_iff {s : Int} {l : List Int} (v : Vl s l) (x : Int) : x ∈ l ↔ 0 < x ∧ aft s l x = aft s l (x - 1) := by
  have e := cnt_step v.up (x - 1)
  rw [show x - 1 + 1 = x by omega] at e
  unfold aft
  constructor
  · intro h
    rw [if_pos h] at e
    exact ⟨v.pos x h, by omega⟩
  · rintro ⟨h1, h2⟩
    refine Classical.byContradiction fun q => ?_
    rw [if_neg q] at e
    omega
theorem ext {s t : Int} {l m : List Int} (v : Vl s l) (u : Vl t m) (h : ∀ c, 0 ≤ c → aft s l c = aft t m c) : s = t ∧ l = m := by
  refine ⟨?_, sorted_ext v.up u.up fun x => ?_⟩
  · have := h 0 (Int.le_refl _)
    unfold aft at this
    rw [cnt_zero v.pos, cnt_zero u.pos] at this
    omega
  · rw [mem_iff v, mem_iff u]
    constructor
    · rintro ⟨h1, h2⟩
      exact ⟨h1, by rw [← h x (by omega), ← h (x - 1) (by omega)]; exact h2⟩
    · rintro ⟨h1, h2⟩
      exact ⟨h1, by rw [h x (by omega), h (x - 1) (by omega)]; exact h2⟩
theorem vl0 : Vl 0 [] := ⟨Int.le_refl _, .nil, fun x h => nomatch h⟩
theorem aft_nn {s : Int} {l : List Int} (v : Vl s l) {c : Int} (h : 0 ≤ c) : 0 ≤ aft s l c := by
  have := aft_ge v h
  have := v.s0
  omega
theorem assoc {s1 s2 s3 : Int} {l1 l2 l3 : List Int} (v1 : Vl s1 l1) (v2 : Vl s2 l2) (v3 : Vl s3 l3) :
    aft s3 l3 (aft s2 l2 s1) = aft (aft s3 l3 s2) (sumL s2 l2 l3) s1 ∧ sumL (aft s2 l2 s1) (sumL s1 l1 l2) l3 = sumL s1 l1 (sumL s2 l2 l3) :=
  ext (sum_vl (sum_vl v1 v2) v3) (sum_vl v1 (sum_vl v2 v3)) fun c hc => by
    rw [comp (sum_vl v1 v2) hc, comp v1 hc, comp v1 hc, comp v2 (aft_nn v1 hc)]
theorem zero_r {s : Int} {l : List Int} (v : Vl s l) : aft 0 [] s = s ∧ sumL s l [] = l :=
  ext (sum_vl v vl0) v fun c hc => by
    rw [comp v hc]
    unfold aft
    rw [cnt_nil]
    omega
theorem zero_l {s : Int} {l : List Int} (v : Vl s l) : aft s l 0 = s ∧ sumL 0 [] l = l :=
  ext (sum_vl vl0 v) v fun c hc => by
    rw [comp vl0 hc]
    congr 1
    unfold aft
    rw [cnt_nil]
    omega
theorem least_sum {s1 s2 : Int} {l1 l2 : List Int} (v1 : Vl s1 l1) (v2 : Vl s2 l2) (c : Int) : lr (aft s2 l2 s1) (sumL s1 l1 l2) c = lr s1 l1 (lr s2 l2 c) := by
  have key : ∀ k, 0 ≤ k → (lr (aft s2 l2 s1) (sumL s1 l1 l2) c ≤ k ↔ lr s1 l1 (lr s2 l2 c) ≤ k) := fun k hk => by
    rw [galois (sum_vl v1 v2) c hk, comp v1 hk, galois v1 _ hk, galois v2 c (aft_nn v1 hk)]
  have a := (key _ (lr_nn v1 _)).mpr (Int.le_refl _)
  have b := (key _ (lr_nn (sum_vl v1 v2) c)).mp (Int.le_refl _)
  omega
theorem len_sum (s1 : Int) (l1 l2 : List Int) : ((sumL s1 l1 l2).length : Int) = l1.length + l2.length - cnt l2 s1 := by
  have e : ∀ l : List Int, ((l.filter fun r => decide (s1 < r)).length : Int) = l.length - cnt l s1 := fun l => by
    induction l with
    | nil => rfl
    | cons x l ih =>
      rw [cnt_cons, List.filter_cons]
      by_cases h : s1 < x
      · rw [if_neg (show ¬ x ≤ s1 by omega)]
        simp [h]
        omega
      · rw [if_pos (show x ≤ s1 by omega)]
        simp [h]
        omega
  unfold sumL
  rw [(isort_perm _).length_eq, List.length_append, List.length_map]
  have := e l2
  omega
theorem mem_sum {s1 : Int} {l1 l2 : List Int} {x : Int} (h : x ∈ l1) : x ∈ sumL s1 l1 l2 := (isort_perm _).mem_iff.mpr (List.mem_append_left _ h)
end Tab

set_option maxHeartbeats 400000
/-! k07: the walk. -/
namespace Dl.k07
open PySem PySem.Spec PyProof.Rows L2 RZ
def top (i : Nat) : Stmt := PySem.Challenge.pw_rankeffect_k07_whole_composed_tables.main.body.getD i (.Pass ⟨0, 0, 0, 0⟩)
section
variable {P : Program} {w : World} {K : PySem.W.Frag} {mg : Str → Option Value} {base : Heap} {f : Addr} {fd : FuncData}
/-! ### is_integer -/
abbrev s_is_integer : Stmt := top 5
def g_is_integer : M Fl := fRet (fAndV (bd (fVar 0) fun d => li (oIs "int" d)) (fBl (fNot (fB (bd (fVar 0) fun d => li (oIs "bool" d))))))
def R_is_integer : En → Res D := runF 1 1 g_is_integer
theorem sc_is_integer : FnScope ["value"] ["value"] (defScope s_is_integer) := ⟨rfl, rfl, rfl, by decide +kernel, rfl, by decide +kernel, by decide +kernel⟩
theorem ok_is_integer (F : Fun K "is_integer" "is_integer" s_is_integer f fd) (b_isinstance : mg "isinstance" = none) (b_int : mg "int" = none) (b_bool : mg "bool" = none) : FnOk P w K mg base (L2.CX P w) 1 f fd ["value"] (spD K mg R_is_integer) := by
  have S := sc_is_integer
  refine fn_ok (g := g_is_integer) F S (by decide) fun cdv A outer s H E hr => ?_
  exact pssd_one (psd_ret (ped_and (ped_is tab_int (ped_var 0) b_isinstance b_int (by decide +kernel)) (ped_one (ped_not (ped_is tab_bool (ped_var 0) b_isinstance b_bool (by decide +kernel))))))
/-! ### is_count -/
abbrev s_is_count : Stmt := top 6
def g_is_count : M Fl := fRet (fAndV (bd (rD (fVar 0) (rNil)) (callR R_is_integer)) (f2 dGe (fVar 0) (fC (.int 0))))
def R_is_count : En → Res D := runF 1 1 g_is_count
theorem sc_is_count : FnScope ["value"] ["value"] (defScope s_is_count) := ⟨rfl, rfl, rfl, by decide +kernel, rfl, by decide +kernel, by decide +kernel⟩
theorem ok_is_count (F : Fun K "is_count" "is_count" s_is_count f fd) (d_Fn_is_integer : FnI P w K mg base 1 "is_integer" R_is_integer) : FnOk P w K mg base (L2.CX P w) 2 f fd ["value"] (spD K mg R_is_count) := by
  have S := sc_is_count
  refine fn_ok (g := g_is_count) F S (by decide) fun cdv A outer s H E hr => ?_
  exact pssd_one (psd_ret (ped_and (ped_call d_Fn_is_integer hr (by decide) (takes_of rfl rfl rfl rfl) (prd_d (ped_var 0) (prd_nil))) (ped_one (ped_cmp op_ge od_ge (ped_var 0) (ped_int)))))
/-! ### is_rank -/
abbrev s_is_rank : Stmt := top 7
def g_is_rank : M Fl := fRet (fAndV (bd (rD (fVar 0) (rNil)) (callR R_is_integer)) (f2 dGt (fVar 0) (fC (.int 0))))
def R_is_rank : En → Res D := runF 1 1 g_is_rank
theorem sc_is_rank : FnScope ["value"] ["value"] (defScope s_is_rank) := ⟨rfl, rfl, rfl, by decide +kernel, rfl, by decide +kernel, by decide +kernel⟩
theorem ok_is_rank (F : Fun K "is_rank" "is_rank" s_is_rank f fd) (d_Fn_is_integer : FnI P w K mg base 1 "is_integer" R_is_integer) : FnOk P w K mg base (L2.CX P w) 2 f fd ["value"] (spD K mg R_is_rank) := by
  have S := sc_is_rank
  refine fn_ok (g := g_is_rank) F S (by decide) fun cdv A outer s H E hr => ?_
  exact pssd_one (psd_ret (ped_and (ped_call d_Fn_is_integer hr (by decide) (takes_of rfl rfl rfl rfl) (prd_d (ped_var 0) (prd_nil))) (ped_one (ped_cmp op_gt od_gt (ped_var 0) (ped_int)))))
/-! ### are_lost_ranks -/
abbrev s_are_lost_ranks : Stmt := top 10
def g_are_lost_ranks : M Fl := fSeq (fIf (fOr (fNot (fB (bd (fVar 0) fun d => li (oIs2 "list" "tuple" d)))) (fNot (fB (bd (fCons (fL (fLc (bd (fVar 0) dWalk) [3] (setV 3) (pu true) (bd (rD (fVar 3) (rNil)) (callR R_is_rank)))) (fNil)) (d1 oAll))))) (fRet (fC (.bl false))) (pu .nx)) (fRet (bd (fCons (fL (fLc (bd (fCons (fVar 0) (fCons (fSl (fVar 0) (fPart (some (fC (.int 1)))) (fPart none)) (fNil))) dZip) [1, 2] (gTupD 2 (gConsD (setV 1) (gConsD (setV 2) (gNilD)))) (pu true) (f2 dLt (fVar 1) (fVar 2)))) (fNil)) (d1 oAll)))
def R_are_lost_ranks : En → Res D := runF 1 4 g_are_lost_ranks
theorem sc_are_lost_ranks : FnScope ["value", "first", "second", "item"] ["value"] (defScope s_are_lost_ranks) := ⟨rfl, rfl, rfl, by decide +kernel, rfl, by decide +kernel, by decide +kernel⟩
theorem ok_are_lost_ranks (F : Fun K "are_lost_ranks" "are_lost_ranks" s_are_lost_ranks f fd) (b_isinstance : mg "isinstance" = none) (b_list : mg "list" = none) (b_tuple : mg "tuple" = none) (d_Fn_is_rank : FnI P w K mg base 2 "is_rank" R_is_rank) (b_all : mg "all" = none) (b_zip : mg "zip" = none) : FnOk P w K mg base (L2.CX P w) 3 f fd ["value"] (spD K mg R_are_lost_ranks) := by
  have S := sc_are_lost_ranks
  refine fn_ok (g := g_are_lost_ranks) F S (by decide) fun cdv A outer s H E hr => ?_
  exact pssd_cons (psd_if ((pwd_or (pbd_not (pbd_val (ped_is2 tab_list tab_tuple (ped_var 0) b_isinstance b_list (by decide +kernel) b_tuple (by decide +kernel)))) (pwd_or1 (pbd_not (pbd_val (ped_callB (cr_all (by rfl)) cd_all b_all (by decide +kernel) (pad_cons (ped_new (pnd_lc (own := [("item", 3)]) (by rfl) S.nd (pid_seq (ped_var 0)) (by exact blkOk_by (N := ["value", "first", "second", "item"]) (sc := defScope s_are_lost_ranks) (own := [("item", 3)]) (by decide +kernel)) (fun _ _ _ _ _ => pgv_name 3 S.nd (by decide)) (fun _ _ _ _ _ => ptsd_nil) (fun _ _ _ _ _ => ped_call d_Fn_is_rank hr (by decide) takes0 (prd_d (ped_var 3) (prd_nil))))) (pad_nil))))))).pt) (pssd_one (psd_ret (ped_bl))) (pssd_nil)) (pssd_one (psd_ret (ped_callB (cr_all (by rfl)) cd_all b_all (by decide +kernel) (pad_cons (ped_new (pnd_lc (own := [("first", 1), ("second", 2)]) (by rfl) S.nd (pid_zip (pad_cons (ped_var 0) (pad_cons (ped_slice (ped_var 0) (pod_some (ped_int)) pod_none) (pad_nil))) b_zip) (by exact blkOk_by (N := ["value", "first", "second", "item"]) (sc := defScope s_are_lost_ranks) (own := [("first", 1), ("second", 2)]) (by decide +kernel)) (fun _ _ _ _ _ => pgv_tup (by rfl) (pgvs_cons (pgv_name 1 S.nd (by decide)) (pgvs_cons (pgv_name 2 S.nd (by decide)) (pgvs_nil)))) (fun _ _ _ _ _ => ptsd_nil) (fun _ _ _ _ _ => ped_cmp op_lt od_lt (ped_var 1) (ped_var 2)))) (pad_nil)))))
/-! ### Table.__init__ -/
abbrev s_Table___init__ : Stmt := inClass (top 13) 0
def g_Table___init__ : M Fl := fSeq (fIf (fOr (fNot (fB (bd (rD (fVar 1) (rNil)) (callR R_is_count)))) (fNot (fB (bd (rD (fVar 2) (rNil)) (callR R_are_lost_ranks))))) ((fun _ => .bad)) (pu .nx)) (fSeq (fFldS 0 "Table" "base" (fVar 1)) (fFldS 0 "Table" "gone" (bd (fCons (fVar 2) (fNil)) (d1 oTuple))))
def R_Table___init__ : En → Res D := runF 3 3 g_Table___init__
theorem sc_Table___init__ : FnScope ["self", "start", "lost"] ["self", "start", "lost"] (defScope s_Table___init__) := ⟨rfl, rfl, rfl, by decide +kernel, rfl, by decide +kernel, by decide +kernel⟩
theorem ok_Table___init__ (F : Fun K "__init__" "Table.__init__" s_Table___init__ f fd) (d_Fn_is_count : FnI P w K mg base 2 "is_count" R_is_count) (d_Fn_are_lost_ranks : FnI P w K mg base 3 "are_lost_ranks" R_are_lost_ranks) (f_Table_base : FlI K mg "Table" "base") (f_Table_gone : FlI K mg "Table" "gone") (b_tuple : mg "tuple" = none) : FnOk P w K mg base (L2.CX P w) 4 f fd ["self", "start", "lost"] (spD K mg R_Table___init__) := by
  have S := sc_Table___init__
  refine fn_ok (g := g_Table___init__) F S (by decide) fun cdv A outer s H E hr => ?_
  exact pssd_cons (psd_if ((pwd_or (pbd_not (pbd_val (ped_call d_Fn_is_count hr (by decide) (takes_of rfl rfl rfl rfl) (prd_d (ped_var 1) (prd_nil))))) (pwd_or1 (pbd_not (pbd_val (ped_call d_Fn_are_lost_ranks hr (by decide) (takes_of rfl rfl rfl rfl) (prd_d (ped_var 2) (prd_nil))))))).pt) (pssd_one (psd_never)) (pssd_nil)) (pssd_cons (psd_fld 0 f_Table_base (ped_var 1)) (pssd_one (psd_fld 0 f_Table_gone (ped_callTy call_tuple_of cd_tuple b_tuple (by decide +kernel) (pad_cons (ped_var 2) (pad_nil))))))
/-! ### _law_pool -/
abbrev s__law_pool : Stmt := top 15
def g__law_pool : M Fl := fSeq (fSetT (fC (.int 0)) (setV 2)) (fSeq (fIf (fB (f2 dLt (fVar 1) (bd (fCons (fVar 0) (fNil)) (d1 oLen)))) (fSetT (bd (fCons (f2 dAt (fVar 0) (fVar 1)) (fNil)) (d1 oAbs)) (setV 2)) (pu .nx)) (fSeq (fSetT (f2 dMod (f2 dMul (f2 dAdd (f2 dAdd (f2 dAdd (f2 dMod (fVar 2) (fC (.int 2147483629))) (f2 dMul (f2 dMul (fC (.int 7919)) (fVar 1)) (fVar 1))) (f2 dMul (fC (.int 31)) (fVar 1))) (fC (.int 17))) (fC (.int 48271))) (fC (.int 2147483647))) (setV 3)) (fRetL (fLst (fCons (f2 dMul (fVar 2) (bd (fCons (f2 dGe (fVar 2) (f2 dPow (fC (.int 10)) (fC (.int 18)))) (fNil)) (d1 oInt))) (fCons (f2 dMod (f2 dMul (fVar 3) (fVar 3)) (fC (.int 2147483629))) (fNil)))))))
def R__law_pool : En → Res (List D) := runN 2 4 g__law_pool
theorem sc__law_pool : FnScope ["_law_script", "_law_k", "_law_cell", "_law_mixed"] ["_law_script", "_law_k"] (defScope s__law_pool) := ⟨rfl, rfl, rfl, by decide +kernel, rfl, by decide +kernel, by decide +kernel⟩
theorem ok__law_pool (F : Fun K "_law_pool" "_law_pool" s__law_pool f fd) (b_len : mg "len" = none) (b_abs : mg "abs" = none) (b_int : mg "int" = none) : FnOk P w K mg base (L2.CX P w) 1 f fd ["_law_script", "_law_k"] (spN K mg R__law_pool) := by
  have S := sc__law_pool
  refine fn_okN (g := g__law_pool) F S (by decide) fun cdv A outer s H E hr => ?_
  exact pssd_cons (psd_set (ped_int) (pgd_name 2 S.nd)) (pssd_cons (psd_if (pbd_cmp op_lt od_lt (ped_var 1) (ped_callB call_len_seq cd_len b_len (by decide +kernel) (pad_cons (ped_var 0) (pad_nil)))) (pssd_one (psd_set (ped_callB call_abs cd_abs b_abs (by decide +kernel) (pad_cons (ped_ix (ped_var 0) (ped_var 1)) (pad_nil))) (pgd_name 2 S.nd))) (pssd_nil)) (pssd_cons (psd_set (ped_op op_mod od_mod (ped_op op_mulU od_mul (ped_op op_add od_add (ped_op op_add od_add (ped_op op_add od_add (ped_op op_mod od_mod (ped_var 2) (ped_int)) (ped_op op_mulU od_mul (ped_op op_mulU od_mul (ped_int) (ped_var 1)) (ped_var 1))) (ped_op op_mulU od_mul (ped_int) (ped_var 1))) (ped_int)) (ped_int)) (ped_int)) (pgd_name 3 S.nd)) (pssd_one (psd_retL (pnd_lst (pad_cons (ped_op op_mulU od_mul (ped_var 2) (ped_callTy call_int1 cd_int b_int (by decide +kernel) (pad_cons (ped_cmp op_ge od_ge (ped_var 2) (ped_op op_pow od_pow (ped_int) (ped_int))) (pad_nil)))) (pad_cons (ped_op op_mod od_mod (ped_op op_mulU od_mul (ped_var 3) (ped_var 3)) (ped_int)) (pad_nil))))))))
/-! ### _law_take -/
abbrev s__law_take : Stmt := top 16
def g__law_take : M Fl := fSeq (fIf (fB (f2 dGt (fGetA 0 (fC (.int 0))) (fC (.int 0)))) (fSeq (fSetT (f2 dMod (fGetA 0 (fC (.int 0))) (fVar 1)) (setV 2)) (fSeq (fPut 0 (f2 dDiv (fGetA 0 (fC (.int 0))) (fVar 1)) (fC (.int 0))) (fRet (fVar 2)))) (pu .nx)) (fSeq (fPut 0 (f2 dMod (f2 dAdd (f2 dMul (fGetA 0 (fC (.int 1))) (fC (.int 48271))) (fC (.int 12345))) (fC (.int 2147483647))) (fC (.int 1))) (fRet (f2 dMod (f2 dDiv (f2 dMod (f2 dMul (fGetA 0 (fC (.int 1))) (fGetA 0 (fC (.int 1)))) (fC (.int 2147483629))) (fC (.int 64))) (fVar 1))))
def R__law_take : En → Res D := runF 2 3 g__law_take
theorem sc__law_take : FnScope ["_law_pool_here", "_law_many", "_law_found"] ["_law_pool_here", "_law_many"] (defScope s__law_take) := ⟨rfl, rfl, rfl, by decide +kernel, rfl, by decide +kernel, by decide +kernel⟩
theorem ok__law_take (F : Fun K "_law_take" "_law_take" s__law_take f fd) : FnOk P w K mg base (L2.CX P w) 1 f fd ["_law_pool_here", "_law_many"] (spD K mg R__law_take) := by
  have S := sc__law_take
  refine fn_ok (g := g__law_take) F S (by decide) fun cdv A outer s H E hr => ?_
  exact pssd_cons (psd_if (pbd_cmp op_gt od_gt (ped_getA 0 (ped_int)) (ped_int)) (pssd_cons (psd_set (ped_op op_mod od_mod (ped_getA 0 (ped_int)) (ped_var 1)) (pgd_name 2 S.nd)) (pssd_cons (psd_put 0 (ped_op op_fdivW od_div (ped_getA 0 (ped_int)) (ped_var 1)) (ped_int)) (pssd_one (psd_ret (ped_var 2))))) (pssd_nil)) (pssd_cons (psd_put 0 (ped_op op_mod od_mod (ped_op op_add od_add (ped_op op_mulU od_mul (ped_getA 0 (ped_int)) (ped_int)) (ped_int)) (ped_int)) (ped_int)) (pssd_one (psd_ret (ped_op op_mod od_mod (ped_op op_fdivW od_div (ped_op op_mod od_mod (ped_op op_mulU od_mul (ped_getA 0 (ped_int)) (ped_getA 0 (ped_int))) (ped_int)) (ped_int)) (ped_var 1)))))
/-! ### _law_table -/
abbrev s__law_table : Stmt := top 17
def g__law_table : M Fl := fSeq (fParN 1 2 (fLst (fNil)) (f2 dMul (f2 dAt (fL (fLst (fCons (fC (.int 0)) (fCons (f2 dPow (fC (.int 10)) (fC (.int 50))) (fNil))))) (bd (rO 0 (rD (fC (.int 2)) (rNil))) (callR R__law_take))) (bd (rO 0 (rD (fC (.int 2)) (rNil))) (callR R__law_take)))) (fSeq (fFor (bd (fCons (bd (rO 0 (rD (fC (.int 7)) (rNil))) (callR R__law_take)) (fNil)) dRngW1) (setV 3) (fSeq (fSetT (f2 dAdd (f2 dAdd (fVar 2) (fC (.int 1))) (bd (rO 0 (rD (fC (.int 3)) (rNil))) (callR R__law_take))) (setV 2)) (fApp 1 (fVar 2)))) (fRet (fMake "Table" R_Table___init__ (fCons (f2 dAt (fL (fLst (fCons (bd (rO 0 (rD (fC (.int 5)) (rNil))) (callR R__law_take)) (fCons (fC (.int 0)) (fCons (fC (.int 2)) (fCons (fC (.int 30)) (fCons (f2 dPow (fC (.int 10)) (fC (.int 50))) (fNil)))))))) (bd (rO 0 (rD (fC (.int 5)) (rNil))) (callR R__law_take))) (fCons (fAny 1) (fNil))))))
def R__law_table : En → Res D := runF 1 4 g__law_table
theorem sc__law_table : FnScope ["_law_pool_here", "_law_lost", "_law_last", "_law_turn"] ["_law_pool_here"] (defScope s__law_table) := ⟨rfl, rfl, rfl, by decide +kernel, rfl, by decide +kernel, by decide +kernel⟩
theorem ok__law_table (F : Fun K "_law_table" "_law_table" s__law_table f fd) (d_Fn__law_take : FnI P w K mg base 1 "_law_take" R__law_take) (b_range : mg "range" = none) (d_Mk_Table___init__ : MkI P w K mg base 4 "Table" R_Table___init__) : FnOk P w K mg base (L2.CX P w) 6 f fd ["_law_pool_here"] (spD K mg R__law_table) := by
  have S := sc__law_table
  refine fn_ok (g := g__law_table) F S (by decide) fun cdv A outer s H E hr => ?_
  exact pssd_cons (psd_parN 1 2 (by rfl) S.nd (pnd_lst (pad_nil)) (ped_op op_mulU od_mul (ped_ix (ped_new (pnd_lst (pad_cons (ped_int) (pad_cons (ped_op op_pow od_pow (ped_int) (ped_int)) (pad_nil))))) (ped_call d_Fn__law_take hr (by decide) takes0 (prd_o 0 (prd_d (ped_int) (prd_nil))))) (ped_call d_Fn__law_take hr (by decide) takes0 (prd_o 0 (prd_d (ped_int) (prd_nil))))) (by decide)) (pssd_cons (psd_for (passes_of rfl) (by rfl) (pid_rangeW1 (pad_cons (ped_call d_Fn__law_take hr (by decide) (takes_of rfl rfl rfl rfl) (prd_o 0 (prd_d (ped_int) (prd_nil)))) (pad_nil)) b_range) (pgd_name 3 S.nd) (pssd_cons (psd_set (ped_op op_add od_add (ped_op op_add od_add (ped_var 2) (ped_int)) (ped_call d_Fn__law_take hr (by decide) (takes_of rfl rfl rfl rfl) (prd_o 0 (prd_d (ped_int) (prd_nil))))) (pgd_name 2 S.nd)) (pssd_one (psd_app 1 (ped_var 2))))) (pssd_one (psd_ret (ped_make d_Mk_Table___init__ hr (by decide) (takes_of rfl rfl rfl rfl) (pad_cons (ped_ix (ped_new (pnd_lst (pad_cons (ped_call d_Fn__law_take hr (by decide) (takes_of rfl rfl rfl rfl) (prd_o 0 (prd_d (ped_int) (prd_nil)))) (pad_cons (ped_int) (pad_cons (ped_int) (pad_cons (ped_int) (pad_cons (ped_op op_pow od_pow (ped_int) (ped_int)) (pad_nil)))))))) (ped_call d_Fn__law_take hr (by decide) (takes_of rfl rfl rfl rfl) (prd_o 0 (prd_d (ped_int) (prd_nil))))) (pad_cons (ped_any 1) (pad_nil)))))))
/-! ### least_reaching -/
abbrev s_least_reaching : Stmt := top 12
def g_least_reaching : M Fl := fSeq (fSetT (fIf (fB (f2 dGt (fVar 2) (fVar 0))) (f2 dSub (fVar 2) (fVar 0)) (fC (.int 0))) (setV 3)) (fSeq (fFor (bd (fVar 1) dWalk) (setV 4) (fIf (fB (f2 dLe (fVar 4) (fVar 3))) (fSetT (f2 dAdd (fVar 3) (fC (.int 1))) (setV 3)) (pu .nx))) (fRet (fVar 3)))
def R_least_reaching : En → Res D := runF 3 5 g_least_reaching
theorem sc_least_reaching : FnScope ["start", "lost", "count", "result", "rank"] ["start", "lost", "count"] (defScope s_least_reaching) := ⟨rfl, rfl, rfl, by decide +kernel, rfl, by decide +kernel, by decide +kernel⟩
theorem ok_least_reaching (F : Fun K "least_reaching" "least_reaching" s_least_reaching f fd) : FnOk P w K mg base (L2.CX P w) 1 f fd ["start", "lost", "count"] (spD K mg R_least_reaching) := by
  have S := sc_least_reaching
  refine fn_ok (g := g_least_reaching) F S (by decide) fun cdv A outer s H E hr => ?_
  exact pssd_cons (psd_set (ped_ifExp (pbd_cmp op_gt od_gt (ped_var 2) (ped_var 0)) (ped_op op_sub od_sub (ped_var 2) (ped_var 0)) (ped_int)) (pgd_name 3 S.nd)) (pssd_cons (psd_for (passes_of rfl) (by rfl) (pid_seq (ped_var 1)) (pgd_name 4 S.nd) (pssd_one (psd_if (pbd_cmp op_le od_le (ped_var 4) (ped_var 3)) (pssd_one (psd_set (ped_op op_add od_add (ped_var 3) (ped_int)) (pgd_name 3 S.nd))) (pssd_nil)))) (pssd_one (psd_ret (ped_var 3))))
/-! ### after -/
abbrev s_after : Stmt := top 11
def g_after : M Fl := fRet (f2 dSub (f2 dAdd (fVar 0) (fVar 2)) (bd (fCons (fL (fLc (bd (fVar 1) dWalk) [3] (setV 3) (fB (f2 dLe (fVar 3) (fVar 2))) (fVar 3))) (fNil)) (d1 oLen)))
def R_after : En → Res D := runF 3 4 g_after
theorem sc_after : FnScope ["start", "lost", "count", "rank"] ["start", "lost", "count"] (defScope s_after) := ⟨rfl, rfl, rfl, by decide +kernel, rfl, by decide +kernel, by decide +kernel⟩
theorem ok_after (F : Fun K "after" "after" s_after f fd) (b_len : mg "len" = none) : FnOk P w K mg base (L2.CX P w) 1 f fd ["start", "lost", "count"] (spD K mg R_after) := by
  have S := sc_after
  refine fn_ok (g := g_after) F S (by decide) fun cdv A outer s H E hr => ?_
  exact pssd_one (psd_ret (ped_op op_sub od_sub (ped_op op_add od_add (ped_var 0) (ped_var 2)) (ped_callB call_len_seq cd_len b_len (by decide +kernel) (pad_cons (ped_new (pnd_lc (own := [("rank", 3)]) (by rfl) S.nd (pid_seq (ped_var 1)) (by exact blkOk_by (N := ["start", "lost", "count", "rank"]) (sc := defScope s_after) (own := [("rank", 3)]) (by decide +kernel)) (fun _ _ _ _ _ => pgv_name 3 S.nd (by decide)) (fun _ _ _ _ _ => ptsd_one (pbd_cmp op_le od_le (ped_var 3) (ped_var 2))) (fun _ _ _ _ _ => ped_var 3))) (pad_nil)))))
/-! ### Table.__add__ -/
abbrev s_Table___add__ : Stmt := inClass (top 13) 7
def g_Table___add__ : M Fl := fSeq (fSetT (fL (fLc (bd (bd (fVar 1) (dFld "Table" "gone")) dWalk) [3] (setV 3) (fB (f2 dGt (fVar 3) (bd (fVar 0) (dFld "Table" "base")))) (bd (rD (bd (fVar 0) (dFld "Table" "base")) (rD (bd (fVar 0) (dFld "Table" "gone")) (rD (fVar 3) (rNil)))) (callR R_least_reaching)))) (setV 2)) (fRet (fMake "Table" R_Table___init__ (fCons (bd (rD (bd (fVar 1) (dFld "Table" "base")) (rD (bd (fVar 1) (dFld "Table" "gone")) (rD (bd (fVar 0) (dFld "Table" "base")) (rNil)))) (callR R_after)) (fCons (fL (bd (fCons (fL (fLst (fStar (bd (bd (fVar 0) (dFld "Table" "gone")) dItems) (fStar (bd (fVar 2) dItems) (fNil))))) (fNil)) nSort)) (fNil)))))
def R_Table___add__ : En → Res D := runF 2 4 g_Table___add__
theorem sc_Table___add__ : FnScope ["self", "other", "further", "rank"] ["self", "other"] (defScope s_Table___add__) := ⟨rfl, rfl, rfl, by decide +kernel, rfl, by decide +kernel, by decide +kernel⟩
theorem ok_Table___add__ (F : Fun K "__add__" "Table.__add__" s_Table___add__ f fd) (f_Table_gone : FlI K mg "Table" "gone") (f_Table_base : FlI K mg "Table" "base") (d_Fn_least_reaching : FnI P w K mg base 1 "least_reaching" R_least_reaching) (b_sorted : mg "sorted" = none) (d_Fn_after : FnI P w K mg base 1 "after" R_after) (d_Mk_Table___init__ : MkI P w K mg base 4 "Table" R_Table___init__) : FnOk P w K mg base (L2.CX P w) 6 f fd ["self", "other"] (spD K mg R_Table___add__) := by
  have S := sc_Table___add__
  refine fn_ok (g := g_Table___add__) F S (by decide) fun cdv A outer s H E hr => ?_
  exact pssd_cons (psd_setLc (setLc_ps (own := [("rank", 3)]) (by rfl) S.nd (by rfl) (by rfl) (sw_true rfl rfl rfl (by decide +kernel)) (pid_seq (ped_fld f_Table_gone (ped_var 1))) (by exact blkOk_by (N := ["self", "other", "further", "rank"]) (sc := defScope s_Table___add__) (own := [("rank", 3)]) (by decide +kernel)) (fun _ _ _ _ _ => pgv_name 3 S.nd (by decide)) (fun _ _ _ _ _ => ptsd_one (pbd_cmp op_gt od_gt (ped_var 3) (ped_fld f_Table_base (ped_var 0)))) (fun _ _ _ _ _ => ped_call d_Fn_least_reaching hr (by decide) takes0 (prd_d (ped_fld f_Table_base (ped_var 0)) (prd_d (ped_fld f_Table_gone (ped_var 0)) (prd_d (ped_var 3) (prd_nil))))))) (pssd_one (psd_ret (ped_make d_Mk_Table___init__ hr (by decide) (takes_of rfl rfl rfl rfl) (pad_cons (ped_call d_Fn_after hr (by decide) (takes_of rfl rfl rfl rfl) (prd_d (ped_fld f_Table_base (ped_var 1)) (prd_d (ped_fld f_Table_gone (ped_var 1)) (prd_d (ped_fld f_Table_base (ped_var 0)) (prd_nil))))) (pad_cons (ped_new (pnd_callB cr_sortedI cn_sort b_sorted (by decide +kernel) (pad_cons (ped_new (pnd_lst (pad_star (ped_fld f_Table_gone (ped_var 0)) (pad_star (ped_var 2) (pad_nil))))) (pad_nil)))) (pad_nil))))))
/-! ### Table.lost -/
abbrev s_Table_lost : Stmt := inClass (top 13) 2
def g_Table_lost : M Fl := fRet (bd (fVar 0) (dFld "Table" "gone"))
def R_Table_lost : En → Res D := runF 1 1 g_Table_lost
theorem sc_Table_lost : FnScope ["self"] ["self"] (defScope s_Table_lost) := ⟨rfl, rfl, rfl, by decide +kernel, rfl, by decide +kernel, by decide +kernel⟩
theorem ok_Table_lost (F : Fun K "lost" "Table.lost" s_Table_lost f fd) (f_Table_gone : FlI K mg "Table" "gone") : FnOk P w K mg base (L2.CX P w) 1 f fd ["self"] (spD K mg R_Table_lost) := by
  have S := sc_Table_lost
  refine fn_ok (g := g_Table_lost) F S (by decide) fun cdv A outer s H E hr => ?_
  exact pssd_one (psd_ret (ped_fld f_Table_gone (ped_var 0)))
/-! ### check_count -/
abbrev s_check_count : Stmt := top 9
def g_check_count : M Fl := fIf (fNot (fB (bd (rD (fVar 0) (rNil)) (callR R_is_count)))) ((fun _ => .bad)) (pu .nx)
def R_check_count : En → Res D := runF 1 1 g_check_count
theorem sc_check_count : FnScope ["value"] ["value"] (defScope s_check_count) := ⟨rfl, rfl, rfl, by decide +kernel, rfl, by decide +kernel, by decide +kernel⟩
theorem ok_check_count (F : Fun K "check_count" "check_count" s_check_count f fd) (d_Fn_is_count : FnI P w K mg base 2 "is_count" R_is_count) : FnOk P w K mg base (L2.CX P w) 3 f fd ["value"] (spD K mg R_check_count) := by
  have S := sc_check_count
  refine fn_ok (g := g_check_count) F S (by decide) fun cdv A outer s H E hr => ?_
  exact pssd_one (psd_if (pbd_not (pbd_val (ped_call d_Fn_is_count hr (by decide) (takes_of rfl rfl rfl rfl) (prd_d (ped_var 0) (prd_nil))))) (pssd_one (psd_never)) (pssd_nil))
/-! ### Table.least -/
abbrev s_Table_least : Stmt := inClass (top 13) 5
def g_Table_least : M Fl := fSeq (fDrop (bd (rD (fVar 1) (rNil)) (callR R_check_count))) (fRet (bd (rD (bd (fVar 0) (dFld "Table" "base")) (rD (bd (fVar 0) (dFld "Table" "gone")) (rD (fVar 1) (rNil)))) (callR R_least_reaching)))
def R_Table_least : En → Res D := runF 2 2 g_Table_least
theorem sc_Table_least : FnScope ["self", "count"] ["self", "count"] (defScope s_Table_least) := ⟨rfl, rfl, rfl, by decide +kernel, rfl, by decide +kernel, by decide +kernel⟩
theorem ok_Table_least (F : Fun K "least" "Table.least" s_Table_least f fd) (d_Fn_check_count : FnI P w K mg base 3 "check_count" R_check_count) (f_Table_gone : FlI K mg "Table" "gone") (f_Table_base : FlI K mg "Table" "base") (d_Fn_least_reaching : FnI P w K mg base 1 "least_reaching" R_least_reaching) : FnOk P w K mg base (L2.CX P w) 4 f fd ["self", "count"] (spD K mg R_Table_least) := by
  have S := sc_Table_least
  refine fn_ok (g := g_Table_least) F S (by decide) fun cdv A outer s H E hr => ?_
  exact pssd_cons (psd_expr (ped_call d_Fn_check_count hr (by decide) (takes_of rfl rfl rfl rfl) (prd_d (ped_var 1) (prd_nil)))) (pssd_one (psd_ret (ped_call d_Fn_least_reaching hr (by decide) (takes_of rfl rfl rfl rfl) (prd_d (ped_fld f_Table_base (ped_var 0)) (prd_d (ped_fld f_Table_gone (ped_var 0)) (prd_d (ped_var 1) (prd_nil)))))))
/-! ### Table.__call__ -/
abbrev s_Table___call__ : Stmt := inClass (top 13) 4
def g_Table___call__ : M Fl := fSeq (fDrop (bd (rD (fVar 1) (rNil)) (callR R_check_count))) (fRet (bd (rD (bd (fVar 0) (dFld "Table" "base")) (rD (bd (fVar 0) (dFld "Table" "gone")) (rD (fVar 1) (rNil)))) (callR R_after)))
def R_Table___call__ : En → Res D := runF 2 2 g_Table___call__
theorem sc_Table___call__ : FnScope ["self", "count"] ["self", "count"] (defScope s_Table___call__) := ⟨rfl, rfl, rfl, by decide +kernel, rfl, by decide +kernel, by decide +kernel⟩
theorem ok_Table___call__ (F : Fun K "__call__" "Table.__call__" s_Table___call__ f fd) (d_Fn_check_count : FnI P w K mg base 3 "check_count" R_check_count) (f_Table_gone : FlI K mg "Table" "gone") (f_Table_base : FlI K mg "Table" "base") (d_Fn_after : FnI P w K mg base 1 "after" R_after) : FnOk P w K mg base (L2.CX P w) 4 f fd ["self", "count"] (spD K mg R_Table___call__) := by
  have S := sc_Table___call__
  refine fn_ok (g := g_Table___call__) F S (by decide) fun cdv A outer s H E hr => ?_
  exact pssd_cons (psd_expr (ped_call d_Fn_check_count hr (by decide) (takes_of rfl rfl rfl rfl) (prd_d (ped_var 1) (prd_nil)))) (pssd_one (psd_ret (ped_call d_Fn_after hr (by decide) (takes_of rfl rfl rfl rfl) (prd_d (ped_fld f_Table_base (ped_var 0)) (prd_d (ped_fld f_Table_gone (ped_var 0)) (prd_d (ped_var 1) (prd_nil)))))))
/-! ### Table.start -/
abbrev s_Table_start : Stmt := inClass (top 13) 1
def g_Table_start : M Fl := fRet (bd (fVar 0) (dFld "Table" "base"))
def R_Table_start : En → Res D := runF 1 1 g_Table_start
theorem sc_Table_start : FnScope ["self"] ["self"] (defScope s_Table_start) := ⟨rfl, rfl, rfl, by decide +kernel, rfl, by decide +kernel, by decide +kernel⟩
theorem ok_Table_start (F : Fun K "start" "Table.start" s_Table_start f fd) (f_Table_base : FlI K mg "Table" "base") : FnOk P w K mg base (L2.CX P w) 1 f fd ["self"] (spD K mg R_Table_start) := by
  have S := sc_Table_start
  refine fn_ok (g := g_Table_start) F S (by decide) fun cdv A outer s H E hr => ?_
  exact pssd_one (psd_ret (ped_fld f_Table_base (ped_var 0)))
/-! ### Table.growth -/
abbrev s_Table_growth : Stmt := inClass (top 13) 3
def g_Table_growth : M Fl := fRet (f2 dSub (bd (fVar 0) (dFld "Table" "base")) (bd (fCons (bd (fVar 0) (dFld "Table" "gone")) (fNil)) (d1 oLen)))
def R_Table_growth : En → Res D := runF 1 1 g_Table_growth
theorem sc_Table_growth : FnScope ["self"] ["self"] (defScope s_Table_growth) := ⟨rfl, rfl, rfl, by decide +kernel, rfl, by decide +kernel, by decide +kernel⟩
theorem ok_Table_growth (F : Fun K "growth" "Table.growth" s_Table_growth f fd) (f_Table_base : FlI K mg "Table" "base") (f_Table_gone : FlI K mg "Table" "gone") (b_len : mg "len" = none) : FnOk P w K mg base (L2.CX P w) 1 f fd ["self"] (spD K mg R_Table_growth) := by
  have S := sc_Table_growth
  refine fn_ok (g := g_Table_growth) F S (by decide) fun cdv A outer s H E hr => ?_
  exact pssd_one (psd_ret (ped_op op_sub od_sub (ped_fld f_Table_base (ped_var 0)) (ped_callB call_len_seq cd_len b_len (by decide +kernel) (pad_cons (ped_fld f_Table_gone (ped_var 0)) (pad_nil)))))
/-! ### _law_two_right -/
abbrev s__law_two_right : Stmt := top 18
def g__law_two_right : M Fl := fSeq (fSetT (f2 (d2m R_Table___add__ "Table") (fVar 0) (fVar 1)) (setV 2)) (fSeq (fSetT (f2 dCatL (f2 dCatL (f2 dCatL (fL (fLst (fCons (fC (.int 0)) (fNil)))) (fL (bd (fCons (fProp "Table" R_Table_lost (fVar 0)) (fNil)) nList))) (fL (fLc (bd (fProp "Table" R_Table_lost (fVar 1)) dWalk) [6] (setV 6) (pu true) (fMeth "Table" "least" R_Table_least (fVar 0) (rD (fVar 6) (rNil)))))) (fL (bd (fCons (fProp "Table" R_Table_lost (fVar 1)) (fNil)) nList))) (setV 3)) (fSeq (fFor (bd (fVar 3) dWalk) (setV 4) (fFor (bd (fCons (bd (fCons (fC (.int 0)) (fCons (f2 dSub (fVar 4) (fC (.int 2))) (fNil))) (d2 oMax)) (fCons (f2 dAdd (fVar 4) (fC (.int 3))) (fNil))) dRngW2) (setV 5) (fIf (fB (f2 dNe (fCallO "Table" R_Table___call__ (fVar 2) (rD (fVar 5) (rNil))) (fCallO "Table" R_Table___call__ (fVar 1) (rD (fCallO "Table" R_Table___call__ (fVar 0) (rD (fVar 5) (rNil))) (rNil))))) (fRet (fC (.bl false))) (pu .nx)))) (fSeq (fIf (fOr (fB (f2 dNe (fL (fLc (bd (fProp "Table" R_Table_lost (fVar 0)) dWalk) [6] (setV 6) (fB (f2 (dIn true) (fVar 6) (fProp "Table" R_Table_lost (fVar 2)))) (fVar 6))) (fL (fLst (fNil))))) (fB (f2 dNe (fProp "Table" R_Table_start (fVar 2)) (fCallO "Table" R_Table___call__ (fVar 1) (rD (fProp "Table" R_Table_start (fVar 0)) (rNil)))))) (fRet (fC (.bl false))) (pu .nx)) (fSeq (fIf (fB (f2 dNe (fProp "Table" R_Table_growth (fVar 2)) (f2 dAdd (fProp "Table" R_Table_growth (fVar 0)) (fProp "Table" R_Table_growth (fVar 1))))) (fRet (fC (.bl false))) (pu .nx)) (fRet (f2 dEq (fL (fLc (bd (fCons (fC (.int 8)) (fNil)) dRngW1) [5] (setV 5) (pu true) (fMeth "Table" "least" R_Table_least (fVar 2) (rD (fVar 5) (rNil))))) (fL (fLc (bd (fCons (fC (.int 8)) (fNil)) dRngW1) [5] (setV 5) (pu true) (fMeth "Table" "least" R_Table_least (fVar 0) (rD (fMeth "Table" "least" R_Table_least (fVar 1) (rD (fVar 5) (rNil))) (rNil)))))))))))
def R__law_two_right : En → Res D := runF 2 7 g__law_two_right
theorem sc__law_two_right : FnScope ["_law_one", "_law_two", "_law_both", "_law_bases", "_law_base", "_law_count", "_law_rank"] ["_law_one", "_law_two"] (defScope s__law_two_right) := ⟨rfl, rfl, rfl, by decide +kernel, rfl, by decide +kernel, by decide +kernel⟩
theorem ok__law_two_right (F : Fun K "_law_two_right" "_law_two_right" s__law_two_right f fd) (d_Op_Table___add___Table : OpI P w K mg base 6 "Table" "__add__" R_Table___add__) (d_Pr_Table_lost_Table : PrI P w K mg base 1 "Table" "lost" R_Table_lost) (b_list : mg "list" = none) (d_Mt_Table_least_Table : MtI P w K mg base 4 "Table" "least" R_Table_least) (b_max : mg "max" = none) (b_range : mg "range" = none) (d_Oc_Table___call__ : OcI P w K mg base 4 "Table" R_Table___call__) (d_Pr_Table_start_Table : PrI P w K mg base 1 "Table" "start" R_Table_start) (d_Pr_Table_growth_Table : PrI P w K mg base 1 "Table" "growth" R_Table_growth) : FnOk P w K mg base (L2.CX P w) 7 f fd ["_law_one", "_law_two"] (spD K mg R__law_two_right) := by
  have S := sc__law_two_right
  refine fn_ok (g := g__law_two_right) F S (by decide) fun cdv A outer s H E hr => ?_
  exact pssd_cons (psd_set (ped_own d_Op_Table___add___Table hr (by decide) (ped_var 0) (ped_var 1)) (pgd_name 2 S.nd)) (pssd_cons (psd_set (ped_op op_cat od_catL (ped_op op_cat od_catL (ped_op op_cat od_catL (ped_new (pnd_lst (pad_cons (ped_int) (pad_nil)))) (ped_new (pnd_callTy call_list_of cn_list b_list (by decide +kernel) (pad_cons (ped_prop d_Pr_Table_lost_Table hr (by decide) (ped_var 0)) (pad_nil))))) (ped_new (pnd_lc (own := [("_law_rank", 6)]) (by rfl) S.nd (pid_seq (ped_prop d_Pr_Table_lost_Table hr (by decide) (ped_var 1))) (by exact blkOk_by (N := ["_law_one", "_law_two", "_law_both", "_law_bases", "_law_base", "_law_count", "_law_rank"]) (sc := defScope s__law_two_right) (own := [("_law_rank", 6)]) (by decide +kernel)) (fun _ _ _ _ _ => pgv_name 6 S.nd (by decide)) (fun _ _ _ _ _ => ptsd_nil) (fun _ _ _ _ _ => ped_meth d_Mt_Table_least_Table hr (by decide) takes0 (ped_var 0) (prd_d (ped_var 6) (prd_nil)))))) (ped_new (pnd_callTy call_list_of cn_list b_list (by decide +kernel) (pad_cons (ped_prop d_Pr_Table_lost_Table hr (by decide) (ped_var 1)) (pad_nil))))) (pgd_name 3 S.nd)) (pssd_cons (psd_for (passes_of rfl) (by rfl) (pid_seq (ped_var 3)) (pgd_name 4 S.nd) (pssd_one (psd_for (passes_of rfl) (by rfl) (pid_rangeW2 (pad_cons (ped_callB (call_max2 (by rfl)) cd_max b_max (by decide +kernel) (pad_cons (ped_int) (pad_cons (ped_op op_sub od_sub (ped_var 4) (ped_int)) (pad_nil)))) (pad_cons (ped_op op_add od_add (ped_var 4) (ped_int)) (pad_nil))) b_range) (pgd_name 5 S.nd) (pssd_one (psd_if (pbd_cmp (op_neD hr.units) od_ne (ped_callO d_Oc_Table___call__ hr (by decide) (takes_of rfl rfl rfl rfl) (ped_var 2) (prd_d (ped_var 5) (prd_nil))) (ped_callO d_Oc_Table___call__ hr (by decide) (takes_of rfl rfl rfl rfl) (ped_var 1) (prd_d (ped_callO d_Oc_Table___call__ hr (by decide) (takes_of rfl rfl rfl rfl) (ped_var 0) (prd_d (ped_var 5) (prd_nil))) (prd_nil)))) (pssd_one (psd_ret (ped_bl))) (pssd_nil)))))) (pssd_cons (psd_if ((pwd_or (pbd_cmp (op_neD hr.units) od_ne (ped_new (pnd_lc (own := [("_law_rank", 6)]) (by rfl) S.nd (pid_seq (ped_prop d_Pr_Table_lost_Table hr (by decide) (ped_var 0))) (by exact blkOk_by (N := ["_law_one", "_law_two", "_law_both", "_law_bases", "_law_base", "_law_count", "_law_rank"]) (sc := defScope s__law_two_right) (own := [("_law_rank", 6)]) (by decide +kernel)) (fun _ _ _ _ _ => pgv_name 6 S.nd (by decide)) (fun _ _ _ _ _ => ptsd_one (pbd_cmp op_notIn_seq (od_in true) (ped_var 6) (ped_prop d_Pr_Table_lost_Table hr (by decide) (ped_var 2)))) (fun _ _ _ _ _ => ped_var 6))) (ped_new (pnd_lst (pad_nil)))) (pwd_or1 (pbd_cmp (op_neD hr.units) od_ne (ped_prop d_Pr_Table_start_Table hr (by decide) (ped_var 2)) (ped_callO d_Oc_Table___call__ hr (by decide) (takes_of rfl rfl rfl rfl) (ped_var 1) (prd_d (ped_prop d_Pr_Table_start_Table hr (by decide) (ped_var 0)) (prd_nil)))))).pt) (pssd_one (psd_ret (ped_bl))) (pssd_nil)) (pssd_cons (psd_if (pbd_cmp (op_neD hr.units) od_ne (ped_prop d_Pr_Table_growth_Table hr (by decide) (ped_var 2)) (ped_op op_add od_add (ped_prop d_Pr_Table_growth_Table hr (by decide) (ped_var 0)) (ped_prop d_Pr_Table_growth_Table hr (by decide) (ped_var 1)))) (pssd_one (psd_ret (ped_bl))) (pssd_nil)) (pssd_one (psd_ret (ped_cmp (op_eqD hr.units) od_eq (ped_new (pnd_lc (own := [("_law_count", 5)]) (by rfl) S.nd (pid_rangeW1 (pad_cons (ped_int) (pad_nil)) b_range) (by exact blkOk_by (N := ["_law_one", "_law_two", "_law_both", "_law_bases", "_law_base", "_law_count", "_law_rank"]) (sc := defScope s__law_two_right) (own := [("_law_count", 5)]) (by decide +kernel)) (fun _ _ _ _ _ => pgv_name 5 S.nd (by decide)) (fun _ _ _ _ _ => ptsd_nil) (fun _ _ _ _ _ => ped_meth d_Mt_Table_least_Table hr (by decide) takes0 (ped_var 2) (prd_d (ped_var 5) (prd_nil))))) (ped_new (pnd_lc (own := [("_law_count", 5)]) (by rfl) S.nd (pid_rangeW1 (pad_cons (ped_int) (pad_nil)) b_range) (by exact blkOk_by (N := ["_law_one", "_law_two", "_law_both", "_law_bases", "_law_base", "_law_count", "_law_rank"]) (sc := defScope s__law_two_right) (own := [("_law_count", 5)]) (by decide +kernel)) (fun _ _ _ _ _ => pgv_name 5 S.nd (by decide)) (fun _ _ _ _ _ => ptsd_nil) (fun _ _ _ _ _ => ped_meth d_Mt_Table_least_Table hr (by decide) takes0 (ped_var 0) (prd_d (ped_meth d_Mt_Table_least_Table hr (by decide) takes0 (ped_var 1) (prd_d (ped_var 5) (prd_nil))) (prd_nil))))))))))))
/-! ### Table.__eq__ -/
abbrev s_Table___eq__ : Stmt := inClass (top 13) 6
def g_Table___eq__ : M Fl := fRet (fAndV (bd (fVar 1) fun d => li (oIsO ["Table"] [] d)) (fAndV (f2 dEq (bd (fVar 0) (dFld "Table" "base")) (bd (fVar 1) (dFld "Table" "base"))) (f2 dEq (bd (fVar 0) (dFld "Table" "gone")) (bd (fVar 1) (dFld "Table" "gone")))))
def R_Table___eq__ : En → Res D := runF 2 2 g_Table___eq__
theorem sc_Table___eq__ : FnScope ["self", "other"] ["self", "other"] (defScope s_Table___eq__) := ⟨rfl, rfl, rfl, by decide +kernel, rfl, by decide +kernel, by decide +kernel⟩
theorem ok_Table___eq__ (F : Fun K "__eq__" "Table.__eq__" s_Table___eq__ f fd) (b_isinstance : mg "isinstance" = none) (ko_Table : KoI K mg "Table" ["Table"] []) (f_Table_base : FlI K mg "Table" "base") (f_Table_gone : FlI K mg "Table" "gone") : FnOk P w K mg base (L2.CX P w) 1 f fd ["self", "other"] (spD K mg R_Table___eq__) := by
  have S := sc_Table___eq__
  refine fn_ok (g := g_Table___eq__) F S (by decide) fun cdv A outer s H E hr => ?_
  exact pssd_one (psd_ret (ped_and (ped_isO ko_Table (ped_var 1) b_isinstance) (ped_and (ped_cmp (op_eqD hr.units) od_eq (ped_fld f_Table_base (ped_var 0)) (ped_fld f_Table_base (ped_var 1))) (ped_one (ped_cmp (op_eqD hr.units) od_eq (ped_fld f_Table_gone (ped_var 0)) (ped_fld f_Table_gone (ped_var 1)))))))
/-! ### Table.__bool__ -/
abbrev s_Table___bool__ : Stmt := inClass (top 13) 8
def g_Table___bool__ : M Fl := fRet (bd (fCons (fOrV (f2 dGt (bd (fVar 0) (dFld "Table" "base")) (fC (.int 0))) (f2 dGt (bd (fCons (bd (fVar 0) (dFld "Table" "gone")) (fNil)) (d1 oLen)) (fC (.int 0)))) (fNil)) (d1 oBool))
def R_Table___bool__ : En → Res D := runF 1 1 g_Table___bool__
theorem sc_Table___bool__ : FnScope ["self"] ["self"] (defScope s_Table___bool__) := ⟨rfl, rfl, rfl, by decide +kernel, rfl, by decide +kernel, by decide +kernel⟩
theorem ok_Table___bool__ (F : Fun K "__bool__" "Table.__bool__" s_Table___bool__ f fd) (f_Table_base : FlI K mg "Table" "base") (f_Table_gone : FlI K mg "Table" "gone") (b_len : mg "len" = none) (b_bool : mg "bool" = none) : FnOk P w K mg base (L2.CX P w) 1 f fd ["self"] (spD K mg R_Table___bool__) := by
  have S := sc_Table___bool__
  refine fn_ok (g := g_Table___bool__) F S (by decide) fun cdv A outer s H E hr => ?_
  exact pssd_one (psd_ret (ped_callTy call_bool1 cd_bool b_bool (by decide +kernel) (pad_cons (ped_or (ped_cmp op_gt od_gt (ped_fld f_Table_base (ped_var 0)) (ped_int)) (ped_one (ped_cmp op_gt od_gt (ped_callB call_len_seq cd_len b_len (by decide +kernel) (pad_cons (ped_fld f_Table_gone (ped_var 0)) (pad_nil))) (ped_int)))) (pad_nil))))
/-! ### law -/
abbrev s_law : Stmt := top 19
def g_law : M Fl := fSeq (fSetT (fMake "Table" R_Table___init__ (fCons (fC (.int 0)) (fCons (fTup (fNil)) (fNil)))) (setV 1)) (fSeq (fFor (bd (fCons (bd (fCons (fC (.int 3)) (fCons (bd (fCons (fC (.int 63)) (fCons (bd (fCons (fVar 0) (fNil)) (d1 oLen)) (fNil))) (d2 oMin)) (fNil))) (d2 oMax)) (fNil)) dRngW1) (setV 2) (fSeq (fSetN 3 (bd (rD (fVar 0) (rD (fVar 2) (rNil))) (callN R__law_pool))) (fSeq (fSetT (fL (fLc (bd (fCons (fC (.int 3)) (fNil)) dRngW1) [7] (setV 7) (pu true) (bd (rO 3 (rNil)) (callR R__law_table)))) (gUnlD 3 (gConsD (setV 4) (gConsD (setV 5) (gConsD (setV 6) (gNilD)))))) (fSeq (fIf (fOr (fNot (fB (bd (rD (fVar 4) (rD (fVar 5) (rNil))) (callR R__law_two_right)))) (fOr (fNot (fB (bd (rD (fVar 5) (rD (fVar 6) (rNil))) (callR R__law_two_right)))) (fNot (fB (bd (rD (fVar 4) (rD (fVar 4) (rNil))) (callR R__law_two_right)))))) (fRet (fC (.bl false))) (pu .nx)) (fSeq (fIf (fOr (fB (f2 (d2n R_Table___eq__ "Table") (f2 (d2m R_Table___add__ "Table") (f2 (d2m R_Table___add__ "Table") (fVar 4) (fVar 5)) (fVar 6)) (f2 (d2m R_Table___add__ "Table") (fVar 4) (f2 (d2m R_Table___add__ "Table") (fVar 5) (fVar 6))))) (fOr (fB (f2 (d2n R_Table___eq__ "Table") (f2 (d2m R_Table___add__ "Table") (fVar 4) (fVar 1)) (fVar 4))) (fB (f2 (d2n R_Table___eq__ "Table") (f2 (d2m R_Table___add__ "Table") (fVar 1) (fVar 4)) (fVar 4))))) (fRet (fC (.bl false))) (pu .nx)) (fIf (fB (f2 dNe (bd (fCons (f2 (d2m R_Table___add__ "Table") (fVar 4) (fVar 5)) (fNil)) (dBoolO R_Table___bool__ "Table")) (f2 (d2n R_Table___eq__ "Table") (f2 (d2m R_Table___add__ "Table") (fVar 4) (fVar 5)) (fVar 1)))) (fRet (fC (.bl false))) (pu .nx))))))) (fRet (fC (.bl true))))
def R_law : En → Res D := runF 1 8 g_law
theorem sc_law : FnScope ["_law_script", "_law_nothing", "_law_k", "_law_pool_here", "_law_one", "_law_two", "_law_three", "_law_turn"] ["_law_script"] (defScope s_law) := ⟨rfl, rfl, rfl, by decide +kernel, rfl, by decide +kernel, by decide +kernel⟩
theorem ok_law (F : Fun K "law" "law" s_law f fd) (d_Mk_Table___init__ : MkI P w K mg base 4 "Table" R_Table___init__) (b_len : mg "len" = none) (b_min : mg "min" = none) (b_max : mg "max" = none) (b_range : mg "range" = none) (d_FnN__law_pool : FnN P w K mg base 1 "_law_pool" R__law_pool) (d_Fn__law_table : FnI P w K mg base 6 "_law_table" R__law_table) (d_Fn__law_two_right : FnI P w K mg base 7 "_law_two_right" R__law_two_right) (d_Op_Table___add___Table : OpI P w K mg base 6 "Table" "__add__" R_Table___add__) (d_Op_Table___eq___Table : OpI P w K mg base 1 "Table" "__eq__" R_Table___eq__) (ne_Table : NeI K mg "Table") (d_Op_Table___bool___Table : OpI P w K mg base 1 "Table" "__bool__" R_Table___bool__) (b_bool : mg "bool" = none) : FnOk P w K mg base (L2.CX P w) 8 f fd ["_law_script"] (spD K mg R_law) := by
  have S := sc_law
  refine fn_ok (g := g_law) F S (by decide) fun cdv A outer s H E hr => ?_
  exact pssd_cons (psd_set (ped_make d_Mk_Table___init__ hr (by decide) (takes_of rfl rfl rfl rfl) (pad_cons (ped_int) (pad_cons (ped_tup (pad_nil)) (pad_nil)))) (pgd_name 1 S.nd)) (pssd_cons (psd_for (passes_of rfl) (by rfl) (pid_rangeW1 (pad_cons (ped_callB (call_max2 (by rfl)) cd_max b_max (by decide +kernel) (pad_cons (ped_int) (pad_cons (ped_callB (call_min2 (by rfl)) cd_min b_min (by decide +kernel) (pad_cons (ped_int) (pad_cons (ped_callB call_len_seq cd_len b_len (by decide +kernel) (pad_cons (ped_var 0) (pad_nil))) (pad_nil)))) (pad_nil)))) (pad_nil)) b_range) (pgd_name 2 S.nd) (pssd_cons (psd_setN 3 (pnd_call d_FnN__law_pool hr (by decide) (takes_of rfl rfl rfl rfl) (prd_d (ped_var 0) (prd_d (ped_var 2) (prd_nil)))) S.nd) (pssd_cons (psd_set (ped_new (pnd_lc (own := [("_law_turn", 7)]) (by rfl) S.nd (pid_rangeW1 (pad_cons (ped_int) (pad_nil)) b_range) (by exact blkOk_by (N := ["_law_script", "_law_nothing", "_law_k", "_law_pool_here", "_law_one", "_law_two", "_law_three", "_law_turn"]) (sc := defScope s_law) (own := [("_law_turn", 7)]) (by decide +kernel)) (fun _ _ _ _ _ => pgv_name 7 S.nd (by decide)) (fun _ _ _ _ _ => ptsd_nil) (fun _ _ _ _ _ => ped_call d_Fn__law_table hr (by decide) takes0 (prd_o 3 (prd_nil))))) (pgd_unl (by rfl) (pgsd_cons (pgd_name 4 S.nd) (pgsd_cons (pgd_name 5 S.nd) (pgsd_cons (pgd_name 6 S.nd) (pgsd_nil)))))) (pssd_cons (psd_if ((pwd_or (pbd_not (pbd_val (ped_call d_Fn__law_two_right hr (by decide) (takes_of rfl rfl rfl rfl) (prd_d (ped_var 4) (prd_d (ped_var 5) (prd_nil)))))) (pwd_or (pbd_not (pbd_val (ped_call d_Fn__law_two_right hr (by decide) (takes_of rfl rfl rfl rfl) (prd_d (ped_var 5) (prd_d (ped_var 6) (prd_nil)))))) (pwd_or1 (pbd_not (pbd_val (ped_call d_Fn__law_two_right hr (by decide) (takes_of rfl rfl rfl rfl) (prd_d (ped_var 4) (prd_d (ped_var 4) (prd_nil))))))))).pt) (pssd_one (psd_ret (ped_bl))) (pssd_nil)) (pssd_cons (psd_if ((pwd_or (pbd_ownNe d_Op_Table___eq___Table ne_Table hr (by decide) (ped_own d_Op_Table___add___Table hr (by decide) (ped_own d_Op_Table___add___Table hr (by decide) (ped_var 4) (ped_var 5)) (ped_var 6)) (ped_own d_Op_Table___add___Table hr (by decide) (ped_var 4) (ped_own d_Op_Table___add___Table hr (by decide) (ped_var 5) (ped_var 6)))) (pwd_or (pbd_ownNe d_Op_Table___eq___Table ne_Table hr (by decide) (ped_own d_Op_Table___add___Table hr (by decide) (ped_var 4) (ped_var 1)) (ped_var 4)) (pwd_or1 (pbd_ownNe d_Op_Table___eq___Table ne_Table hr (by decide) (ped_own d_Op_Table___add___Table hr (by decide) (ped_var 1) (ped_var 4)) (ped_var 4))))).pt) (pssd_one (psd_ret (ped_bl))) (pssd_nil)) (pssd_one (psd_if (pbd_cmp (op_neD hr.units) od_ne (ped_boolO d_Op_Table___bool___Table hr (by decide) b_bool (pad_cons (ped_own d_Op_Table___add___Table hr (by decide) (ped_var 4) (ped_var 5)) (pad_nil))) (ped_ownNe d_Op_Table___eq___Table ne_Table hr (by decide) (ped_own d_Op_Table___add___Table hr (by decide) (ped_var 4) (ped_var 5)) (ped_var 1))) (pssd_one (psd_ret (ped_bl))) (pssd_nil)))))))) (pssd_one (psd_ret (ped_bl))))
end
end Dl.k07

set_option maxHeartbeats 400000
/-! k07: what the defs compute. -/
namespace Dl.k07
open PySem Tab

abbrev tb (s : Int) (l : List Int) : D := .obj "Table" ["base", "gone"] [.int s, .tup (l.map D.int)]
/-- a list or a tuple of ints -/
inductive Sq (l : List Int) : D → Prop where
  | l : Sq l (.lst (l.map D.int))
  | t : Sq l (.tup (l.map D.int))
theorem Sq.walk {l : List Int} {q : D} (h : Sq l q) {fa : M D} {e e1 : En} (hf : fa e = .ok q e1) : bd fa dWalk e = .ok (l.map D.int) e1 := by
  cases h with
  | l => exact walk_lst hf
  | t => exact walk_tup hf

theorem is_integer_eq (i : Int) : R_is_integer [.val (.int i)] = .ok (.bl true) [.no] := rfl
theorem is_count_eq (i : Int) : R_is_count [.val (.int i)] = .ok (.bl (decide (0 ≤ i))) [.no] := rfl
theorem is_rank_eq (i : Int) : R_is_rank [.val (.int i)] = .ok (.bl (decide (0 < i))) [.no] := rfl
theorem check_count_eq {i : Int} (h : 0 ≤ i) : R_check_count [.val (.int i)] = .ok .non [.no] := by
  have e : (fNot (fB (bd (rD (fVar 0) rNil) (callR R_is_count)))) [.val (.int i)] = .ok (!decide (0 ≤ i)) [.val (.int i)] := rfl
  rw [decide_eq_true h] at e
  exact runF_nx (e1 := [.val (.int i)]) (fIf_f e rfl) rfl (Nat.le_refl _) rfl
theorem after_eq (s c : Int) {l : List Int} {q : D} (h : Sq l q) (hl : l.length ≤ 1000) : R_after [.val (.int s), .val q, .val (.int c)] = .ok (.int (aft s l c)) [.no, .no, .no] := by
  have e : (fLc (bd (fVar 1) dWalk) [3] (setV 3) (fB (f2 dLe (fVar 3) (fVar 2))) (fVar 3)) [.val (.int s), .val q, .val (.int c), .no] = .ok ((l.filter fun x => decide (x ≤ c)).map D.int) [.val (.int s), .val q, .val (.int c), .no] := by
    have z := fLc_pure (src := bd (fVar 1) dWalk) (vs := [3]) (t := setV 3) (c := fB (f2 dLe (fVar 3) (fVar 2))) (el := fVar 3) (e := [.val (.int s), .val q, .val (.int c), .no]) (e1 := [.val (.int s), .val q, .val (.int c), .no]) (ds := l.map D.int)
      (f := fun d => match d with
        | .int x => if decide (x ≤ c) then some (.int x) else none
        | _ => none) (h.walk rfl) (by rw [List.length_map]; omega) rfl (fun d hd => by
          obtain ⟨x, _, rfl⟩ := List.mem_map.mp hd
          have t1 : (fB (f2 dLe (fVar 3) (fVar 2))) [.val (.int s), .val q, .val (.int c), .val (.int x)] = .ok (decide (x ≤ c)) [.val (.int s), .val q, .val (.int c), .val (.int x)] := rfl
          by_cases hx : x ≤ c
          · rw [decide_eq_true hx] at t1
            simp only [hx, decide_true, if_true]
            exact Eq.trans (lcTurn_t (e1 := [.val (.int s), .val q, .val (.int c), .val (.int x)]) rfl t1 rfl rfl) rfl
          · rw [decide_eq_false hx] at t1
            simp only [hx, decide_false, Bool.false_eq_true, if_false]
            exact Eq.trans (lcTurn_f (e1 := [.val (.int s), .val q, .val (.int c), .val (.int x)]) rfl t1 rfl) rfl) rfl
    rw [z, fm_if (p := fun x => decide (x ≤ c)) (g := D.int) fun x => rfl]
  refine runF_ok (e1 := [.val (.int s), .val q, .val (.int c), .no]) (fRet_ok (x := .int (aft s l c)) ?_) rfl (by decide) rfl
  refine Eq.trans (f2_ok (x := .int (s + c)) (y := .int (cnt l c)) (e1 := [.val (.int s), .val q, .val (.int c), .no]) (e2 := [.val (.int s), .val q, .val (.int c), .no]) rfl ?_) rfl
  · refine d1_ok' (fCons_ok (fL_ok e) rfl) ?_
    show some (D.int ((((l.filter fun x => decide (x ≤ c)).map D.int).length : Nat) : Int)) = _
    rw [List.length_map]
    rfl
theorem lr_loop (A q C : D) (l : List Int) : ∀ (r : Int) (sl : Sl), sl.isRef = false → ∃ sl', sl'.isRef = false ∧ forL (setV 4) (fIf (fB (f2 dLe (fVar 4) (fVar 3))) (fSetT (f2 dAdd (fVar 3) (fC (.int 1))) (setV 3)) (pu .nx)) (l.map D.int) [.val A, .val q, .val C, .val (.int r), sl] = .ok .nx [.val A, .val q, .val C, .val (.int (fld l r)), sl'] := by
  induction l with
  | nil => intro r sl h; exact ⟨sl, h, rfl⟩
  | cons x l ih =>
    intro r sl h
    have t1 : (fB (f2 dLe (fVar 4) (fVar 3))) [.val A, .val q, .val C, .val (.int r), .val (.int x)] = .ok (decide (x ≤ r)) [.val A, .val q, .val C, .val (.int r), .val (.int x)] := rfl
    obtain ⟨sl', h', ih⟩ := ih (if x ≤ r then r + 1 else r) (.val (.int x)) rfl
    refine ⟨sl', h', ?_⟩
    rw [List.map_cons]
    refine forL_nx (u := ()) (e1 := [.val A, .val q, .val C, .val (.int r), .val (.int x)]) (setV_ok (s := sl) rfl h) ?_ ih
    by_cases hx : x ≤ r
    · rw [decide_eq_true hx] at t1
      rw [if_pos hx]
      exact fIf_t t1 rfl
    · rw [decide_eq_false hx] at t1
      rw [if_neg hx]
      exact fIf_f t1 rfl
theorem least_eq (s c : Int) {l : List Int} {q : D} (h : Sq l q) : R_least_reaching [.val (.int s), .val q, .val (.int c)] = .ok (.int (lr s l c)) [.no, .no, .no] := by
  have t1 : (fB (f2 dGt (fVar 2) (fVar 0))) [.val (.int s), .val q, .val (.int c), .no, .no] = .ok (decide (s < c)) [.val (.int s), .val q, .val (.int c), .no, .no] := rfl
  obtain ⟨sl', h', e⟩ := lr_loop (.int s) q (.int c) l (if s < c then c - s else 0) .no rfl
  refine runF_ok (e1 := [.val (.int s), .val q, .val (.int c), .val (.int (lr s l c)), sl']) ?_ rfl (by decide) rfl
  refine fSeq_nx (e1 := [.val (.int s), .val q, .val (.int c), .val (.int (if s < c then c - s else 0)), .no]) (fSetT_ok (x := .int (if s < c then c - s else 0)) (u := ()) (e1 := [.val (.int s), .val q, .val (.int c), .no, .no]) ?_ rfl) ?_
  · by_cases hx : s < c
    · rw [decide_eq_true hx] at t1
      rw [if_pos hx]
      exact fIf_t t1 rfl
    · rw [decide_eq_false hx] at t1
      rw [if_neg hx]
      exact fIf_f t1 rfl
  · exact fSeq_nx (fFor_ok (h.walk rfl) e) rfl
/-! ### are_lost_ranks -/
theorem cut1 (l : List Int) : cutD (l.map D.int) (some 1) none = (l.drop 1).map D.int := by
  unfold cutD
  rw [show (some (1 : Int)) = some ((1 : Nat) : Int) from rfl, HT.sIx_nat, HT.sIx_none]
  cases l with
  | nil => rfl
  | cons x l =>
    rw [Nat.min_eq_left (by simp), List.take_of_length_le (by simp), List.map_drop]
def adj : List Int → List Bool
  | x :: y :: t => decide (x < y) :: adj (y :: t)
  | _ => []
def fz (d : D) : Option D := match d with
  | .tup [.int a, .int b] => some (.bl (decide (a < b)))
  | _ => none
theorem zip_adj : ∀ l : List Int, (zipD (l.map D.int) ((l.drop 1).map D.int)).filterMap fz = (adj l).map D.bl
  | [] => rfl
  | [x] => rfl
  | x :: y :: t => by
    have ih := zip_adj (y :: t)
    show (D.tup [.int x, .int y] :: zipD ((y :: t).map D.int) (t.map D.int)).filterMap fz = _
    rw [List.filterMap_cons]
    show (D.bl (decide (x < y)) :: (zipD ((y :: t).map D.int) (t.map D.int)).filterMap fz) = _
    rw [show (zipD ((y :: t).map D.int) (t.map D.int)).filterMap fz = (adj (y :: t)).map D.bl from ih]
    rfl
theorem adj_all : ∀ {l : List Int}, l.Pairwise (· < ·) → (adj l).all id = true
  | [], _ => rfl
  | [x], _ => rfl
  | x :: y :: t, h => by
    have h1 := List.pairwise_cons.mp h
    show (decide (x < y) && (adj (y :: t)).all id) = true
    rw [adj_all h1.2, decide_eq_true (h1.1 y List.mem_cons_self)]
    rfl
theorem zip_mem : ∀ {l m : List Int} {d : D}, d ∈ zipD (l.map D.int) (m.map D.int) → ∃ a b, d = .tup [.int a, .int b]
  | x :: l, y :: m, d, h => by
    rcases List.mem_cons.mp (show d ∈ D.tup [.int x, .int y] :: zipD (l.map D.int) (m.map D.int) from h) with e | h
    · exact ⟨x, y, e⟩
    · exact zip_mem h
  | [], _, d, h => by simp [zipD] at h
  | _ :: _, [], d, h => by simp [zipD] at h
theorem zip_len : ∀ {l m : List D}, (zipD l m).length ≤ l.length
  | x :: l, y :: m => Nat.succ_le_succ (zip_len (l := l) (m := m))
  | [], _ => Nat.le_refl _
  | _ :: _, [] => Nat.zero_le _
theorem lost_ranks_eq {l : List Int} {q : D} (h : Sq l q) (hl : l.length ≤ 1000) (hu : l.Pairwise (· < ·)) (hp : ∀ x ∈ l, 0 < x) : R_are_lost_ranks [.val q] = .ok (.bl true) [.no] := by
  have e1 : (fLc (bd (fVar 0) dWalk) [3] (setV 3) (pu true) (bd (rD (fVar 3) rNil) (callR R_is_rank))) [.val q, .no, .no, .no] = .ok ((l.map fun x => decide (0 < x)).map D.bl) [.val q, .no, .no, .no] := by
    have z := fLc_pure (src := bd (fVar 0) dWalk) (vs := [3]) (t := setV 3) (c := pu true) (el := bd (rD (fVar 3) rNil) (callR R_is_rank)) (e := [.val q, .no, .no, .no]) (e1 := [.val q, .no, .no, .no]) (ds := l.map D.int)
      (f := fun d => match d with
        | .int x => some (.bl (decide (0 < x)))
        | _ => none) (h.walk rfl) (by rw [List.length_map]; omega) rfl (fun d hd => by
          obtain ⟨x, _, rfl⟩ := List.mem_map.mp hd
          exact Eq.trans (lcTurn_t (e1 := [.val q, .no, .no, .val (.int x)]) (e2 := [.val q, .no, .no, .val (.int x)]) (e3 := [.val q, .no, .no, .val (.int x)]) rfl rfl rfl rfl) rfl) rfl
    rw [z, fm_int (g := fun x => .bl (decide (0 < x))) fun x => rfl, List.map_map]
    rfl
  have a1 : (l.map fun x => decide (0 < x)).all id = true := by
    rw [List.all_map, List.all_eq_true]
    exact fun x hx => decide_eq_true (hp x hx)
  have src : (bd (fCons (fVar 0) (fCons (fSl (fVar 0) (fPart (some (fC (.int 1)))) (fPart none)) fNil)) dZip) [.val q, .no, .no, .no] = .ok (zipD (l.map D.int) ((l.drop 1).map D.int)) [.val q, .no, .no, .no] := by
    rw [← cut1]
    cases h <;> rfl
  have e2 : (fLc (bd (fCons (fVar 0) (fCons (fSl (fVar 0) (fPart (some (fC (.int 1)))) (fPart none)) fNil)) dZip) [1, 2] (gTupD 2 (gConsD (setV 1) (gConsD (setV 2) gNilD))) (pu true) (f2 dLt (fVar 1) (fVar 2))) [.val q, .no, .no, .no] = .ok ((adj l).map D.bl) [.val q, .no, .no, .no] := by
    have z := fLc_pure (vs := [1, 2]) (t := gTupD 2 (gConsD (setV 1) (gConsD (setV 2) gNilD))) (c := pu true) (el := f2 dLt (fVar 1) (fVar 2)) (f := fz) src (by
        have := zip_len (l := l.map D.int) (m := (l.drop 1).map D.int)
        rw [List.length_map] at this
        omega) rfl (fun d hd => by
          obtain ⟨a, b, rfl⟩ := zip_mem hd
          exact Eq.trans (lcTurn_t (e1 := [.val q, .val (.int a), .val (.int b), .no]) (e2 := [.val q, .val (.int a), .val (.int b), .no]) (e3 := [.val q, .val (.int a), .val (.int b), .no]) rfl rfl rfl rfl) rfl) rfl
    rw [z, zip_adj]
  have c1 : (fNot (fB (bd (fVar 0) fun d => li (oIs2 "list" "tuple" d)))) [.val q, .no, .no, .no] = .ok false [.val q, .no, .no, .no] := by cases h <;> rfl
  refine runF_ok (e1 := [.val q, .no, .no, .no]) ?_ rfl (by decide) rfl
  refine fSeq_nx (fIf_f (e1 := [.val q, .no, .no, .no]) ?_ rfl) ?_
  · refine fOr_f c1 (fNot_ok (b := true) (fB_ok (d1_ok' (fCons_ok (fL_ok e1) rfl) ?_)))
    rw [all_bls, a1]
  · refine fRet_ok (d1_ok' (fCons_ok (fL_ok e2) rfl) ?_)
    rw [all_bls, adj_all hu]
/-! ### tables -/
theorem init_eq {s : Int} {l : List Int} {q : D} (h : Sq l q) (hl : l.length ≤ 1000) (v : Vl s l) : R_Table___init__ [.oin true "Table" [] [], .val (.int s), .val q] = .ok .non [.oin true "Table" ["base", "gone"] [.int s, .tup (l.map D.int)], .no, .no] := by
  refine runF_nx (e1 := [.oin true "Table" ["base", "gone"] [.int s, .tup (l.map D.int)], .val (.int s), .val q]) ?_ rfl (Nat.le_refl _) rfl
  have c1 := is_count_eq s
  rw [decide_eq_true v.s0] at c1
  have a1 : (bd (rD (fVar 1) rNil) (callR R_is_count)) [.oin true "Table" [] [], .val (.int s), .val q] = .ok (.bl true) [.oin true "Table" [] [], .val (.int s), .val q] := (bd_ok (rD_ok rfl rNil_eq)).trans (callR1 c1)
  have a2 : (bd (rD (fVar 2) rNil) (callR R_are_lost_ranks)) [.oin true "Table" [] [], .val (.int s), .val q] = .ok (.bl true) [.oin true "Table" [] [], .val (.int s), .val q] := (bd_ok (rD_ok rfl rNil_eq)).trans (callR1 (lost_ranks_eq h hl v.up v.pos))
  refine fSeq_nx (fIf_f (fOr_f (fNot_ok (b := true) (fB_ok a1)) (fNot_ok (b := true) (fB_ok a2))) rfl) ?_
  refine fSeq_nx (e1 := [.oin true "Table" ["base"] [.int s], .val (.int s), .val q]) rfl ?_
  cases h <;> rfl
theorem make_eq {s : Int} {l : List Int} {q : D} {fa : M (List D)} {e e1 : En} (h : Sq l q) (hl : l.length ≤ 1000) (v : Vl s l) (hf : fa e = .ok [.int s, q] e1) : fMake "Table" R_Table___init__ fa e = .ok (tb s l) e1 := fMake_ok hf (init_eq h hl v)
theorem start_eq (s : Int) (l : List Int) : R_Table_start [.val (tb s l)] = .ok (.int s) [.no] := rfl
theorem lost_eq (s : Int) (l : List Int) : R_Table_lost [.val (tb s l)] = .ok (.tup (l.map D.int)) [.no] := rfl
theorem growth_eq (s : Int) (l : List Int) : R_Table_growth [.val (tb s l)] = .ok (.int (s - l.length)) [.no] := by
  show Res.ok (D.int (s - (((l.map D.int).length : Nat) : Int))) [.no] = _
  rw [List.length_map]
theorem call_eq {s c : Int} {l : List Int} (hl : l.length ≤ 1000) (hc : 0 ≤ c) : R_Table___call__ [.val (tb s l), .val (.int c)] = .ok (.int (aft s l c)) [.no, .no] := by
  refine runF_ok (e1 := [.val (tb s l), .val (.int c)]) ?_ rfl (Nat.le_refl _) rfl
  refine fSeq_nx (fDrop_ok ((bd_ok (rD_ok rfl rNil_eq)).trans (callR1 (check_count_eq hc)))) ?_
  exact fRet_ok ((bd_ok (rD_ok rfl (rD_ok rfl (rD_ok rfl rNil_eq)))).trans (callR3 (after_eq s c .t hl)))
theorem lst_eq {s c : Int} {l : List Int} (hc : 0 ≤ c) : R_Table_least [.val (tb s l), .val (.int c)] = .ok (.int (lr s l c)) [.no, .no] := by
  refine runF_ok (e1 := [.val (tb s l), .val (.int c)]) ?_ rfl (Nat.le_refl _) rfl
  refine fSeq_nx (fDrop_ok ((bd_ok (rD_ok rfl rNil_eq)).trans (callR1 (check_count_eq hc)))) ?_
  exact fRet_ok ((bd_ok (rD_ok rfl (rD_ok rfl (rD_ok rfl rNil_eq)))).trans (callR3 (least_eq s c .t)))
theorem eq_eq (s t : Int) (l m : List Int) : R_Table___eq__ [.val (tb s l), .val (tb t m)] = .ok (.bl (decide (s = t) && decide (l = m))) [.no, .no] := by
  refine runF_ok (e1 := [.val (tb s l), .val (tb t m)]) (fRet_ok (fAndV_ok (a := true) rfl (fAndV_ok (a := decide (s = t)) (b := decide (l = m)) ?_ ?_))) rfl (Nat.le_refl _) rfl
  · exact Eq.trans (f2_ok (x := .int s) (y := .int t) rfl rfl) dEq_int
  · exact Eq.trans (f2_ok (x := .tup (l.map D.int)) (y := .tup (m.map D.int)) rfl rfl) dEq_tup
theorem bool_eq (s : Int) (l : List Int) : R_Table___bool__ [.val (tb s l)] = .ok (.bl (decide (0 < s) || decide (0 < (l.length : Int)))) [.no] := by
  refine runF_ok (e1 := [.val (tb s l)]) (fRet_ok (d1_ok' (fCons_ok (fOrV_ok (a := decide (0 < s)) (b := decide (0 < (l.length : Int))) rfl ?_) rfl) rfl)) rfl (Nat.le_refl _) rfl
  show Res.ok (D.bl (decide (0 < (((l.map D.int).length : Nat) : Int)))) _ = _
  rw [List.length_map]
theorem sort_eq {e : En} (l : List Int) : nSort [.lst (l.map D.int)] e = .ok ((isort l).map D.int) e := by
  unfold nSort
  show li (match toInts (l.map D.int) with
    | some ns => some ((isort ns).map D.int) | none => none) e = _
  rw [toInts_map]
  rfl
theorem add_eq {s1 s2 : Int} {l1 l2 : List Int} (v1 : Vl s1 l1) (v2 : Vl s2 l2) (h1 : l1.length ≤ 400) (h2 : l2.length ≤ 400) : R_Table___add__ [.val (tb s1 l1), .val (tb s2 l2)] = .ok (tb (aft s2 l2 s1) (sumL s1 l1 l2)) [.no, .no] := by
  have e1 : (fLc (bd (bd (fVar 1) (dFld "Table" "gone")) dWalk) [3] (setV 3) (fB (f2 dGt (fVar 3) (bd (fVar 0) (dFld "Table" "base")))) (bd (rD (bd (fVar 0) (dFld "Table" "base")) (rD (bd (fVar 0) (dFld "Table" "gone")) (rD (fVar 3) (rNil)))) (callR R_least_reaching))) [.val (tb s1 l1), .val (tb s2 l2), .no, .no]
      = .ok (((l2.filter fun r => decide (s1 < r)).map (lr s1 l1)).map D.int) [.val (tb s1 l1), .val (tb s2 l2), .no, .no] := by
    have z := fLc_pure (src := bd (bd (fVar 1) (dFld "Table" "gone")) dWalk) (vs := [3]) (t := setV 3) (c := fB (f2 dGt (fVar 3) (bd (fVar 0) (dFld "Table" "base")))) (el := bd (rD (bd (fVar 0) (dFld "Table" "base")) (rD (bd (fVar 0) (dFld "Table" "gone")) (rD (fVar 3) (rNil)))) (callR R_least_reaching))
      (e := [.val (tb s1 l1), .val (tb s2 l2), .no, .no]) (e1 := [.val (tb s1 l1), .val (tb s2 l2), .no, .no]) (ds := l2.map D.int)
      (f := fun d => match d with
        | .int x => if decide (s1 < x) then some (.int (lr s1 l1 x)) else none
        | _ => none) rfl (by rw [List.length_map]; omega) rfl (fun d hd => by
          obtain ⟨x, _, rfl⟩ := List.mem_map.mp hd
          have t1 : (fB (f2 dGt (fVar 3) (bd (fVar 0) (dFld "Table" "base")))) [.val (tb s1 l1), .val (tb s2 l2), .no, .val (.int x)] = .ok (decide (s1 < x)) [.val (tb s1 l1), .val (tb s2 l2), .no, .val (.int x)] := rfl
          by_cases hx : s1 < x
          · rw [decide_eq_true hx] at t1
            simp only [hx, decide_true, if_true]
            exact Eq.trans (lcTurn_t (e1 := [.val (tb s1 l1), .val (tb s2 l2), .no, .val (.int x)]) (e3 := [.val (tb s1 l1), .val (tb s2 l2), .no, .val (.int x)]) rfl t1 ((bd_ok (rD_ok rfl (rD_ok rfl (rD_ok rfl rNil_eq)))).trans (callR3 (least_eq s1 x .t))) rfl) rfl
          · rw [decide_eq_false hx] at t1
            simp only [hx, decide_false, Bool.false_eq_true, if_false]
            exact Eq.trans (lcTurn_f (e1 := [.val (tb s1 l1), .val (tb s2 l2), .no, .val (.int x)]) rfl t1 rfl) rfl) rfl
    rw [z, fm_if (p := fun x => decide (s1 < x)) (g := fun x => .int (lr s1 l1 x)) fun x => rfl, List.map_map]
    rfl
  refine runF_ok (e1 := [.val (tb s1 l1), .val (tb s2 l2), .val (.lst (((l2.filter fun r => decide (s1 < r)).map (lr s1 l1)).map D.int)), .no]) ?_ rfl (by decide) rfl
  have hfl : (l2.filter fun r => decide (s1 < r)).length ≤ l2.length := List.length_filter_le _ _
  have a1 : (bd (rD (bd (fVar 1) (dFld "Table" "base")) (rD (bd (fVar 1) (dFld "Table" "gone")) (rD (bd (fVar 0) (dFld "Table" "base")) (rNil)))) (callR R_after)) [.val (tb s1 l1), .val (tb s2 l2), .val (.lst (((l2.filter fun r => decide (s1 < r)).map (lr s1 l1)).map D.int)), .no] = .ok (.int (aft s2 l2 s1)) [.val (tb s1 l1), .val (tb s2 l2), .val (.lst (((l2.filter fun r => decide (s1 < r)).map (lr s1 l1)).map D.int)), .no] :=
    Eq.trans (bd_ok (rD_ok rfl (rD_ok rfl (rD_ok rfl rNil_eq)))) (callR3 (after_eq s2 s1 .t (by omega)))
  have a2 : (fLst (fStar (bd (bd (fVar 0) (dFld "Table" "gone")) dItems) (fStar (bd (fVar 2) dItems) (fNil)))) [.val (tb s1 l1), .val (tb s2 l2), .val (.lst (((l2.filter fun r => decide (s1 < r)).map (lr s1 l1)).map D.int)), .no] = .ok ((l1 ++ (l2.filter fun r => decide (s1 < r)).map (lr s1 l1)).map D.int) [.val (tb s1 l1), .val (tb s2 l2), .val (.lst (((l2.filter fun r => decide (s1 < r)).map (lr s1 l1)).map D.int)), .no] := by
    rw [List.map_append]
    have := fLst_ok (fStar_ok (fa := bd (bd (fVar 0) (dFld "Table" "gone")) dItems) (e := [.val (tb s1 l1), .val (tb s2 l2), .val (.lst (((l2.filter fun r => decide (s1 < r)).map (lr s1 l1)).map D.int)), .no]) (x := l1.map D.int) rfl (fStar_ok (fa := bd (fVar 2) dItems) (x := ((l2.filter fun r => decide (s1 < r)).map (lr s1 l1)).map D.int) rfl fNil_eq)) (by
      simp only [List.length_append, List.length_map, List.length_nil]
      omega)
    rw [List.append_nil] at this
    exact this
  have a3 : (bd (fCons (fL (fLst (fStar (bd (bd (fVar 0) (dFld "Table" "gone")) dItems) (fStar (bd (fVar 2) dItems) (fNil))))) (fNil)) nSort) [.val (tb s1 l1), .val (tb s2 l2), .val (.lst (((l2.filter fun r => decide (s1 < r)).map (lr s1 l1)).map D.int)), .no] = .ok ((sumL s1 l1 l2).map D.int) [.val (tb s1 l1), .val (tb s2 l2), .val (.lst (((l2.filter fun r => decide (s1 < r)).map (lr s1 l1)).map D.int)), .no] :=
    Eq.trans (bd_ok (fCons_ok (fL_ok a2) fNil_eq)) (sort_eq _)
  refine fSeq_nx (fSetT_ok (u := ()) (fL_ok e1) rfl) (fRet_ok (make_eq (q := .lst ((sumL s1 l1 l2).map D.int)) .l ?_ (sum_vl v1 v2) (fCons_ok a1 (fCons_ok (fL_ok a3) fNil_eq))))
  have := len_sum s1 l1 l2
  have := cnt_nn l2 s1
  omega
end Dl.k07

set_option maxHeartbeats 400000
/-! k07: the law's own defs. -/
namespace Dl.k07
open PySem Tab

theorem own_ref {s : Sl} (h : s.isOwn = false) : s.isRef = false := by cases s <;> first | rfl | exact nomatch h
def rngI (lo : Int) (n : Nat) : List Int := (List.range n).map fun (i : Nat) => lo + (i : Int)
theorem rngI_eq (lo : Int) (n : Nat) : rangeD lo n = (rngI lo n).map D.int := by
  unfold rangeD rngI
  rw [List.map_map]
  rfl
theorem rngI_ge {lo x : Int} {n : Nat} (h : x ∈ rngI lo n) : lo ≤ x := by
  obtain ⟨i, _, rfl⟩ := List.mem_map.mp h
  omega
theorem inD_ints (x : Int) : ∀ l : List Int, inD (.int x) (l.map D.int) = decide (x ∈ l)
  | [] => by simp [inD]
  | y :: l => by
    have ih := inD_ints x l
    unfold inD at ih ⊢
    rw [List.map_cons, List.any_cons, ih]
    show ((y == x) || decide (x ∈ l)) = decide (x ∈ y :: l)
    have e : (y == x) = decide (x = y) := by
      by_cases h : x = y
      · subst h; simp
      · rw [decide_eq_false h]
        simpa using fun q : y = x => h q.symm
    rw [e]
    simp [List.mem_cons]
theorem flat_ints : ∀ l : List Int, (l.map D.int).all flatD = true
  | [] => rfl
  | y :: l => by rw [List.map_cons, List.all_cons, flat_ints l]; rfl
theorem dIn_tup {x : Int} {l : List Int} {neg : Bool} {e : En} : dIn neg (.int x) (.tup (l.map D.int)) e = .ok (.bl (if neg then !decide (x ∈ l) else decide (x ∈ l))) e := by
  unfold dIn
  show li (if flatD (.int x) = true ∧ (l.map D.int).all flatD = true then some (D.bl (if neg then !inD (.int x) (l.map D.int) else inD (.int x) (l.map D.int))) else none) e = _
  rw [if_pos ⟨rfl, flat_ints l⟩, inD_ints]
  rfl
theorem dCat_ok {xs ys : List D} {e : En} (h : xs.length + ys.length ≤ 16777216) : dCatL (.lst xs) (.lst ys) e = .ok (.lst (xs ++ ys)) e := by
  unfold dCatL
  show li (if xs.length + ys.length ≤ 16777216 then some (D.lst (xs ++ ys)) else none) e = _
  rw [if_pos h]
  rfl
section
variable {s1 s2 : Int} {l1 l2 : List Int}
abbrev tw (s1 s2 : Int) (l1 l2 : List Int) : D := tb (aft s2 l2 s1) (sumL s1 l1 l2)
theorem two_right (v1 : Vl s1 l1) (v2 : Vl s2 l2) (h1 : l1.length ≤ 300) (h2 : l2.length ≤ 300) : R__law_two_right [.val (tb s1 l1), .val (tb s2 l2)] = .ok (.bl true) [.no, .no] := by
  have h12 : (sumL s1 l1 l2).length ≤ 600 := by
    have := len_sum s1 l1 l2
    have := cnt_nn l2 s1
    omega
  -- the bases
  let bs : List Int := [0] ++ l1 ++ l2.map (lr s1 l1) ++ l2
  let E0 : En := [.val (tb s1 l1), .val (tb s2 l2), .val (tw s1 s2 l1 l2), .no, .no, .no, .no]
  let E1 : Sl → Sl → En := fun s4 s5 => [.val (tb s1 l1), .val (tb s2 l2), .val (tw s1 s2 l1 l2), .val (.lst (bs.map D.int)), s4, s5, .no]
  have b1 : (fL (bd (fCons (fProp "Table" R_Table_lost (fVar 0)) (fNil)) nList)) E0 = .ok (.lst (l1.map D.int)) E0 := fL_ok (Eq.trans (bd_ok (fCons_ok (fProp_ok rfl (lost_eq s1 l1)) fNil_eq)) rfl)
  have b2 : (fL (bd (fCons (fProp "Table" R_Table_lost (fVar 1)) (fNil)) nList)) E0 = .ok (.lst (l2.map D.int)) E0 := fL_ok (Eq.trans (bd_ok (fCons_ok (fProp_ok rfl (lost_eq s2 l2)) fNil_eq)) rfl)
  have b3 : (fLc (bd (fProp "Table" R_Table_lost (fVar 1)) dWalk) [6] (setV 6) (pu true) (fMeth "Table" "least" R_Table_least (fVar 0) (rD (fVar 6) (rNil)))) E0 = .ok ((l2.map (lr s1 l1)).map D.int) E0 := by
    have z := fLc_pure (src := bd (fProp "Table" R_Table_lost (fVar 1)) dWalk) (vs := [6]) (t := setV 6) (c := pu true) (el := fMeth "Table" "least" R_Table_least (fVar 0) (rD (fVar 6) (rNil))) (e := E0) (e1 := E0) (ds := l2.map D.int)
      (f := fun d => match d with
        | .int x => some (.int (lr s1 l1 x))
        | _ => none) (walk_tup (fProp_ok rfl (lost_eq s2 l2))) (by rw [List.length_map]; omega) rfl (fun d hd => by
          obtain ⟨x, hx, rfl⟩ := List.mem_map.mp hd
          have hp := v2.pos x hx
          exact Eq.trans (lcTurn_t (e1 := [.val (tb s1 l1), .val (tb s2 l2), .val (tw s1 s2 l1 l2), .no, .no, .no, .val (.int x)]) (e2 := [.val (tb s1 l1), .val (tb s2 l2), .val (tw s1 s2 l1 l2), .no, .no, .no, .val (.int x)]) rfl rfl (fMeth1 rfl rfl rfl (lst_eq (c := x) (by omega))) rfl) rfl) rfl
    rw [z, fm_int (g := fun x => .int (lr s1 l1 x)) fun x => rfl, List.map_map]
    rfl
  have bases : (f2 dCatL (f2 dCatL (f2 dCatL (fL (fLst (fCons (fC (.int 0)) (fNil)))) (fL (bd (fCons (fProp "Table" R_Table_lost (fVar 0)) (fNil)) nList))) (fL (fLc (bd (fProp "Table" R_Table_lost (fVar 1)) dWalk) [6] (setV 6) (pu true) (fMeth "Table" "least" R_Table_least (fVar 0) (rD (fVar 6) (rNil)))))) (fL (bd (fCons (fProp "Table" R_Table_lost (fVar 1)) (fNil)) nList))) E0 = .ok (.lst (bs.map D.int)) E0 := by
    have c1 := Eq.trans (f2_ok (o := dCatL) (show (fL (fLst (fCons (fC (.int 0)) (fNil)))) E0 = .ok (.lst [.int 0]) E0 from rfl) b1) (dCat_ok (by simp; omega))
    have c2 := Eq.trans (f2_ok (o := dCatL) c1 (fL_ok b3)) (dCat_ok (by simp; omega))
    have c3 := Eq.trans (f2_ok (o := dCatL) c2 b2) (dCat_ok (by simp; omega))
    refine Eq.trans c3 ?_
    show Res.ok (D.lst (_ ++ _ ++ _ ++ _)) E0 = Res.ok (D.lst (([0] ++ l1 ++ l2.map (lr s1 l1) ++ l2).map D.int)) E0
    rw [List.map_append, List.map_append, List.map_append]
    rfl
  -- one count
  have cond : ∀ (s4 : Sl) (c : Int), 0 ≤ c → (fB (f2 dNe (fCallO "Table" R_Table___call__ (fVar 2) (rD (fVar 5) (rNil))) (fCallO "Table" R_Table___call__ (fVar 1) (rD (fCallO "Table" R_Table___call__ (fVar 0) (rD (fVar 5) (rNil))) (rNil))))) (E1 s4 (.val (.int c))) = .ok false (E1 s4 (.val (.int c))) := fun s4 c hc => by
    refine fB_ok (Eq.trans (f2_ok (fCallO1 rfl rfl (call_eq (by omega) hc)) (fCallO1 rfl (fCallO1 rfl rfl (call_eq (by omega) hc)) (call_eq (by omega) (aft_nn v1 hc)))) ?_)
    rw [dNe_int, comp v1 hc, decide_eq_true rfl]
    rfl
  have inner : ∀ (b : Int) (s5 : Sl), s5.isOwn = false → ∃ s5', s5'.isOwn = false ∧ (fFor (bd (fCons (bd (fCons (fC (.int 0)) (fCons (f2 dSub (fVar 4) (fC (.int 2))) (fNil))) (d2 oMax)) (fCons (f2 dAdd (fVar 4) (fC (.int 3))) (fNil))) dRngW2) (setV 5) (fIf (fB (f2 dNe (fCallO "Table" R_Table___call__ (fVar 2) (rD (fVar 5) (rNil))) (fCallO "Table" R_Table___call__ (fVar 1) (rD (fCallO "Table" R_Table___call__ (fVar 0) (rD (fVar 5) (rNil))) (rNil))))) (fRet (fC (.bl false))) (pu .nx))) (E1 (.val (.int b)) s5) = .ok .nx (E1 (.val (.int b)) s5') := fun b s5 h5 => by
    obtain ⟨e', ⟨s5', k1, k2⟩, k3⟩ := forL_inv (t := setV 5) (body := fIf (fB (f2 dNe (fCallO "Table" R_Table___call__ (fVar 2) (rD (fVar 5) (rNil))) (fCallO "Table" R_Table___call__ (fVar 1) (rD (fCallO "Table" R_Table___call__ (fVar 0) (rD (fVar 5) (rNil))) (rNil))))) (fRet (fC (.bl false))) (pu .nx))
      (I := fun e => ∃ s, s.isOwn = false ∧ e = E1 (.val (.int b)) s) (ds := (rngI (if b - 2 > 0 then b - 2 else 0) (b + 3 - (if b - 2 > 0 then b - 2 else 0)).toNat).map D.int) (e := E1 (.val (.int b)) s5) ⟨s5, h5, rfl⟩ (fun d hd e ⟨s, hs, he⟩ => by
        subst he
        obtain ⟨c, hc, rfl⟩ := List.mem_map.mp hd
        have hc := rngI_ge hc
        refine ⟨_, ⟨.val (.int c), rfl, rfl⟩, ?_⟩
        exact Eq.trans (bd_ok (noExc_ok (setV_ok (s := s) rfl (own_ref hs)))) (fIf_f (cond _ c (by split at hc <;> omega)) rfl))
    subst k2
    exact ⟨s5', k1, fFor_ok (e1 := E1 (.val (.int b)) s5) (ds := rangeD (if b - 2 > 0 then b - 2 else 0) (b + 3 - (if b - 2 > 0 then b - 2 else 0)).toNat) rfl (by rw [rngI_eq]; exact k3)⟩
  obtain ⟨e', ⟨s4, s5, h4, h5, rfl⟩, loop⟩ := forL_inv (t := setV 4) (body := (fFor (bd (fCons (bd (fCons (fC (.int 0)) (fCons (f2 dSub (fVar 4) (fC (.int 2))) (fNil))) (d2 oMax)) (fCons (f2 dAdd (fVar 4) (fC (.int 3))) (fNil))) dRngW2) (setV 5) (fIf (fB (f2 dNe (fCallO "Table" R_Table___call__ (fVar 2) (rD (fVar 5) (rNil))) (fCallO "Table" R_Table___call__ (fVar 1) (rD (fCallO "Table" R_Table___call__ (fVar 0) (rD (fVar 5) (rNil))) (rNil))))) (fRet (fC (.bl false))) (pu .nx))))
    (I := fun e => ∃ s4 s5, s4.isOwn = false ∧ s5.isOwn = false ∧ e = E1 s4 s5) (ds := bs.map D.int) (e := E1 .no .no) ⟨.no, .no, rfl, rfl, rfl⟩ (fun d hd e ⟨s4, s5, h4, h5, he⟩ => by
      subst he
      obtain ⟨b, _, rfl⟩ := List.mem_map.mp hd
      obtain ⟨s5', k1, k2⟩ := inner b s5 h5
      exact ⟨_, ⟨.val (.int b), s5', rfl, k1, rfl⟩, Eq.trans (bd_ok (noExc_ok (setV_ok (s := s4) rfl (own_ref h4)))) k2⟩)
  -- behind the loops
  have w5 : noOwn [5] (E1 s4 s5) = true := by
    show (!s5.isOwn && true) = true
    rw [h5]
    rfl
  have c1 : (fB (f2 dNe (fL (fLc (bd (fProp "Table" R_Table_lost (fVar 0)) dWalk) [6] (setV 6) (fB (f2 (dIn true) (fVar 6) (fProp "Table" R_Table_lost (fVar 2)))) (fVar 6))) (fL (fLst (fNil))))) (E1 s4 s5) = .ok false (E1 s4 s5) := by
    have z := fLc_pure (src := bd (fProp "Table" R_Table_lost (fVar 0)) dWalk) (vs := [6]) (t := setV 6) (c := fB (f2 (dIn true) (fVar 6) (fProp "Table" R_Table_lost (fVar 2)))) (el := fVar 6) (e := E1 s4 s5) (e1 := E1 s4 s5) (ds := l1.map D.int)
      (f := fun _ => none) (walk_tup (fProp_ok rfl (lost_eq s1 l1))) (by rw [List.length_map]; omega) rfl (fun d hd => by
          obtain ⟨x, hx, rfl⟩ := List.mem_map.mp hd
          have r4 : refS s4 = s4 := by cases s4 <;> first | rfl | exact nomatch h4
          have r5 : refS s5 = s5 := by cases s5 <;> first | rfl | exact nomatch h5
          have f4 : fixS s4 s4 = s4 := by cases s4 <;> first | rfl | exact nomatch h4
          have f5 : fixS s5 s5 = s5 := by cases s5 <;> first | rfl | exact nomatch h5
          have e0 : refE (wipeE [6] (E1 s4 s5)) = E1 s4 s5 := by
            show [_, _, _, _, refS s4, refS s5, _] = _
            rw [r4, r5]
            rfl
          refine Eq.trans (lcTurn_f (e1 := [.val (tb s1 l1), .val (tb s2 l2), .val (tw s1 s2 l1 l2), .val (.lst (bs.map D.int)), s4, s5, .val (.int x)]) (e2 := [.val (tb s1 l1), .val (tb s2 l2), .val (tw s1 s2 l1 l2), .val (.lst (bs.map D.int)), s4, s5, .val (.int x)]) (by rw [e0]; rfl) (fB_ok (Eq.trans (f2_ok (x := .int x) rfl (fProp_ok rfl (lost_eq _ _))) (Eq.trans dIn_tup ?_))) rfl) ?_
          · rw [decide_eq_true (mem_sum hx)]
            rfl
          · show Res.ok none [_, _, _, _, fixS s4 s4, fixS s5 s5, _] = _
            rw [f4, f5]
            rfl) rfl
    have nl : (l1.map D.int).filterMap (fun _ => (none : Option D)) = [] := by simp
    rw [nl] at z
    refine fB_ok (Eq.trans (f2_ok (y := .lst (([] : List Int).map D.int)) (fL_ok z) rfl) ?_)
    exact dNe_list (l := []) (m := [])
  have c2 : (fB (f2 dNe (fProp "Table" R_Table_start (fVar 2)) (fCallO "Table" R_Table___call__ (fVar 1) (rD (fProp "Table" R_Table_start (fVar 0)) (rNil))))) (E1 s4 s5) = .ok false (E1 s4 s5) := by
    refine fB_ok (Eq.trans (f2_ok (fProp_ok rfl (start_eq _ _)) (fCallO1 rfl (fProp_ok rfl (start_eq _ _)) (call_eq (by omega) v1.s0))) ?_)
    rw [dNe_int, decide_eq_true rfl]
    rfl
  have c3 : (fB (f2 dNe (fProp "Table" R_Table_growth (fVar 2)) (f2 dAdd (fProp "Table" R_Table_growth (fVar 0)) (fProp "Table" R_Table_growth (fVar 1))))) (E1 s4 s5) = .ok false (E1 s4 s5) := by
    refine fB_ok (Eq.trans (f2_ok (fProp_ok rfl (growth_eq _ _)) (Eq.trans (f2_ok (fProp_ok rfl (growth_eq _ _)) (fProp_ok rfl (growth_eq _ _))) dAdd_eq)) ?_)
    rw [dNe_int, decide_eq_true]
    · rfl
    · have := len_sum s1 l1 l2
      unfold aft
      omega
  have turn5 : ∀ {el : M D} {x : Int} {y : D}, el [.val (tb s1 l1), .val (tb s2 l2), .val (tw s1 s2 l1 l2), .val (.lst (bs.map D.int)), s4, .val (.int x), .no] = .ok y [.val (tb s1 l1), .val (tb s2 l2), .val (tw s1 s2 l1 l2), .val (.lst (bs.map D.int)), s4, .val (.int x), .no] → lcTurn [5] (setV 5) (pu true) el (.int x) (wipeE [5] (E1 s4 s5)) = .ok (some y) (wipeE [5] (E1 s4 s5)) := fun {el x y} h => by
    have r4 : refS s4 = s4 := by cases s4 <;> first | rfl | exact nomatch h4
    have f4 : fixS s4 s4 = s4 := by cases s4 <;> first | rfl | exact nomatch h4
    have e0 : refE (wipeE [5] (E1 s4 s5)) = E1 s4 .no := by
      show [_, _, _, _, refS s4, _, _] = _
      rw [r4]
      rfl
    refine Eq.trans (lcTurn_t (e1 := [.val (tb s1 l1), .val (tb s2 l2), .val (tw s1 s2 l1 l2), .val (.lst (bs.map D.int)), s4, .val (.int x), .no]) (by rw [e0]; rfl) rfl h rfl) ?_
    show Res.ok (some y) [_, _, _, _, fixS s4 s4, _, _] = _
    rw [f4]
    rfl
  have g1 : (fLc (bd (fCons (fC (.int 8)) (fNil)) dRngW1) [5] (setV 5) (pu true) (fMeth "Table" "least" R_Table_least (fVar 2) (rD (fVar 5) (rNil)))) (E1 s4 s5) = .ok (((rngI 0 8).map fun c => lr (aft s2 l2 s1) (sumL s1 l1 l2) c).map D.int) (E1 s4 s5) := by
    have z := fLc_pure (src := bd (fCons (fC (.int 8)) (fNil)) dRngW1) (vs := [5]) (t := setV 5) (c := pu true) (el := fMeth "Table" "least" R_Table_least (fVar 2) (rD (fVar 5) (rNil))) (e := E1 s4 s5) (e1 := E1 s4 s5) (ds := (rngI 0 8).map D.int)
      (f := fun d => match d with
        | .int x => some (.int (lr (aft s2 l2 s1) (sumL s1 l1 l2) x))
        | _ => none) rfl (by decide) w5 (fun d hd => by
          obtain ⟨x, hx, rfl⟩ := List.mem_map.mp hd
          exact turn5 (fMeth1 rfl rfl rfl (lst_eq (rngI_ge hx)))) rfl
    rw [z, fm_int (g := fun x => .int (lr (aft s2 l2 s1) (sumL s1 l1 l2) x)) fun x => rfl, List.map_map]
    rfl
  have g2 : (fLc (bd (fCons (fC (.int 8)) (fNil)) dRngW1) [5] (setV 5) (pu true) (fMeth "Table" "least" R_Table_least (fVar 0) (rD (fMeth "Table" "least" R_Table_least (fVar 1) (rD (fVar 5) (rNil))) (rNil)))) (E1 s4 s5) = .ok (((rngI 0 8).map fun c => lr s1 l1 (lr s2 l2 c)).map D.int) (E1 s4 s5) := by
    have z := fLc_pure (src := bd (fCons (fC (.int 8)) (fNil)) dRngW1) (vs := [5]) (t := setV 5) (c := pu true) (el := fMeth "Table" "least" R_Table_least (fVar 0) (rD (fMeth "Table" "least" R_Table_least (fVar 1) (rD (fVar 5) (rNil))) (rNil))) (e := E1 s4 s5) (e1 := E1 s4 s5) (ds := (rngI 0 8).map D.int)
      (f := fun d => match d with
        | .int x => some (.int (lr s1 l1 (lr s2 l2 x)))
        | _ => none) rfl (by decide) w5 (fun d hd => by
          obtain ⟨x, hx, rfl⟩ := List.mem_map.mp hd
          exact turn5 (fMeth1 rfl rfl (fMeth1 rfl rfl rfl (lst_eq (rngI_ge hx))) (lst_eq (lr_nn v2 x)))) rfl
    rw [z, fm_int (g := fun x => .int (lr s1 l1 (lr s2 l2 x))) fun x => rfl, List.map_map]
    rfl
  have last : (f2 dEq (fL (fLc (bd (fCons (fC (.int 8)) (fNil)) dRngW1) [5] (setV 5) (pu true) (fMeth "Table" "least" R_Table_least (fVar 2) (rD (fVar 5) (rNil))))) (fL (fLc (bd (fCons (fC (.int 8)) (fNil)) dRngW1) [5] (setV 5) (pu true) (fMeth "Table" "least" R_Table_least (fVar 0) (rD (fMeth "Table" "least" R_Table_least (fVar 1) (rD (fVar 5) (rNil))) (rNil)))))) (E1 s4 s5) = .ok (.bl true) (E1 s4 s5) := by
    refine Eq.trans (f2_ok (fL_ok g1) (fL_ok g2)) ?_
    rw [dEq_list, decide_eq_true]
    exact List.map_congr_left fun c hc => least_sum v1 v2 c
  refine runF_ok (e1 := E1 s4 s5) ?_ rfl (by decide) rfl
  refine fSeq_nx (fSetT_ok (u := ()) (e2 := E0) (Eq.trans (f2_ok (x := tb s1 l1) (y := tb s2 l2) rfl rfl) (d2m_ok (add_eq v1 v2 (by omega) (by omega)))) rfl) ?_
  refine fSeq_nx (fSetT_ok (u := ()) (e2 := E1 .no .no) bases rfl) ?_
  refine fSeq_nx (fFor_ok (walk_lst rfl) loop) ?_
  refine fSeq_nx (fIf_f (fOr_f c1 c2) rfl) ?_
  exact fSeq_nx (fIf_f c3 rfl) (fRet_ok last)
end
end Dl.k07

set_option maxHeartbeats 400000
/-! k07: the facts. -/
namespace Dl.k07
open PySem PySem.Spec PyProof.Rows L2 RZ
section
variable {P : Program} {w : World} {K : PySem.W.Frag} {h : Heap} {mg : Str → Option Value} {fa C_Table f_is_integerA f_is_countA f_is_rankA f_are_lost_ranksA f_Table___init__A f__law_poolA f__law_takeA f__law_tableA f_least_reachingA f_afterA f_Table___add__A f_Table_lostA p_Table_lostA f_check_countA f_Table_leastA f_Table___call__A f_Table_startA p_Table_startA f_Table_growthA p_Table_growthA f__law_two_rightA f_Table___eq__A f_Table___bool__A f_lawA : Addr}
  {oc_is_integer kV_is_integer dc_is_integer pm_is_integer cd_is_integer ct_is_integer oc_is_count kV_is_count dc_is_count pm_is_count cd_is_count ct_is_count oc_is_rank kV_is_rank dc_is_rank pm_is_rank cd_is_rank ct_is_rank oc_are_lost_ranks kV_are_lost_ranks dc_are_lost_ranks pm_are_lost_ranks cd_are_lost_ranks ct_are_lost_ranks oc_Table___init__ kV_Table___init__ dc_Table___init__ pm_Table___init__ cd_Table___init__ ct_Table___init__ oc__law_pool kV__law_pool dc__law_pool pm__law_pool cd__law_pool ct__law_pool oc__law_take kV__law_take dc__law_take pm__law_take cd__law_take ct__law_take oc__law_table kV__law_table dc__law_table pm__law_table cd__law_table ct__law_table oc_least_reaching kV_least_reaching dc_least_reaching pm_least_reaching cd_least_reaching ct_least_reaching oc_after kV_after dc_after pm_after cd_after ct_after oc_Table___add__ kV_Table___add__ dc_Table___add__ pm_Table___add__ cd_Table___add__ ct_Table___add__ oc_Table_lost kV_Table_lost dc_Table_lost pm_Table_lost cd_Table_lost ct_Table_lost oc_check_count kV_check_count dc_check_count pm_check_count cd_check_count ct_check_count oc_Table_least kV_Table_least dc_Table_least pm_Table_least cd_Table_least ct_Table_least oc_Table___call__ kV_Table___call__ dc_Table___call__ pm_Table___call__ cd_Table___call__ ct_Table___call__ oc_Table_start kV_Table_start dc_Table_start pm_Table_start cd_Table_start ct_Table_start oc_Table_growth kV_Table_growth dc_Table_growth pm_Table_growth cd_Table_growth ct_Table_growth oc__law_two_right kV__law_two_right dc__law_two_right pm__law_two_right cd__law_two_right ct__law_two_right oc_Table___eq__ kV_Table___eq__ dc_Table___eq__ pm_Table___eq__ cd_Table___eq__ ct_Table___eq__ oc_Table___bool__ kV_Table___bool__ dc_Table___bool__ pm_Table___bool__ cd_Table___bool__ ct_Table___bool__ oc_law kV_law dc_law pm_law cd_law ct_law : Value} {od_is_integer an_is_integer od_is_count an_is_count od_is_rank an_is_rank od_are_lost_ranks an_are_lost_ranks od_Table___init__ an_Table___init__ od__law_pool an__law_pool od__law_take an__law_take od__law_table an__law_table od_least_reaching an_least_reaching od_after an_after od_Table___add__ an_Table___add__ od_Table_lost an_Table_lost od_check_count an_check_count od_Table_least an_Table_least od_Table___call__ an_Table___call__ od_Table_start an_Table_start od_Table_growth an_Table_growth od__law_two_right an__law_two_right od_Table___eq__ an_Table___eq__ od_Table___bool__ an_Table___bool__ od_law an_law : Option Addr} {sl_is_integer sl_is_count sl_is_rank sl_are_lost_ranks sl_Table___init__ sl__law_pool sl__law_take sl__law_table sl_least_reaching sl_after sl_Table___add__ sl_Table_lost sl_check_count sl_Table_least sl_Table___call__ sl_Table_start sl_Table_growth sl__law_two_right sl_Table___eq__ sl_Table___bool__ sl_law : Array (Option Value)} {rest_Table_lost rest_Table_start rest_Table_growth : List Value}
theorem all_mk (X : K.In h) (G : h.Ns mainGlobals mg) (hfa : mg "law" = some (.ref fa))
    (a_Table : PySem.W.nsIn K mainGlobals "Table" = some (some (.ref C_Table)))
    (pg_Table : PySem.W.plainGet K C_Table Str.empty = true)
    (hd_Table : PySem.W.hasDictIn K C_Table = true)
    (po_Table : PySem.W.plainOver K C_Table = true)
    (sa_Table : PySem.W.findIn K (.ref C_Table) "__setattr__" = some (some (.builtin "object.__setattr__")))
    (sf_Table : PySem.W.selfFirst K C_Table = true)
    (n_b_isinstance : PySem.W.nsIn K mainGlobals "isinstance" = some none)
    (n_b_int : PySem.W.nsIn K mainGlobals "int" = some none)
    (n_b_bool : PySem.W.nsIn K mainGlobals "bool" = some none)
    (n_b_list : PySem.W.nsIn K mainGlobals "list" = some none)
    (n_b_tuple : PySem.W.nsIn K mainGlobals "tuple" = some none)
    (n_b_all : PySem.W.nsIn K mainGlobals "all" = some none)
    (n_b_zip : PySem.W.nsIn K mainGlobals "zip" = some none)
    (n_f_Table_base : PySem.W.findIn K (.ref C_Table) "base" = some none)
    (n_f_Table_gone : PySem.W.findIn K (.ref C_Table) "gone" = some none)
    (n_b_len : PySem.W.nsIn K mainGlobals "len" = some none)
    (n_b_abs : PySem.W.nsIn K mainGlobals "abs" = some none)
    (n_b_range : PySem.W.nsIn K mainGlobals "range" = some none)
    (n_b_sorted : PySem.W.nsIn K mainGlobals "sorted" = some none)
    (n_b_max : PySem.W.nsIn K mainGlobals "max" = some none)
    (t1_ko_Table : PySem.W.isClsIn K C_Table = true)
    (t2_ko_Table : PySem.W.typeIn K (.ref C_Table) = some (.type "type"))
    (ic1_Table : PySem.W.findIn K (.ref C_Table) "__class__" = some (some (.builtin "object.__class__")))
    (ic2_Table : PySem.W.specialIn K (.builtin "object.__class__") "__get__" = some (some (.builtin "getset_descriptor.__get__")))
    (ic3_Table : PySem.W.takesIn K (.builtin "object.__class__") = some true)
    (ic4_Table : PySem.W.mroIn K C_Table (.type "object") = some true)
    (n_b_min : PySem.W.nsIn K mainGlobals "min" = some none)
    (n1_ne_Table : PySem.W.findIn K (.ref C_Table) "__ne__" = some (some (.builtin "object.__ne__")))
    (n2_ne_Table : PySem.W.mroIn K C_Table (.type "object") = some true)
    (a_is_integer : PySem.W.nsIn K mainGlobals "is_integer" = some (some (.ref f_is_integerA)))
    (l_is_integer : K.lookup f_is_integerA = some ⟨oc_is_integer, od_is_integer, .func (PySem.W.fnOf "is_integer" "is_integer" (defArgs s_is_integer) (defBody s_is_integer) (defScope s_is_integer) .none kV_is_integer dc_is_integer pm_is_integer an_is_integer cd_is_integer ct_is_integer), sl_is_integer⟩)
    (c_is_integer : PySem.W.codeIn K cd_is_integer "is_integer" = true)
    (k_is_integer : PySem.W.keepIn K (.ref f_is_integerA) = true)
    (a_is_count : PySem.W.nsIn K mainGlobals "is_count" = some (some (.ref f_is_countA)))
    (l_is_count : K.lookup f_is_countA = some ⟨oc_is_count, od_is_count, .func (PySem.W.fnOf "is_count" "is_count" (defArgs s_is_count) (defBody s_is_count) (defScope s_is_count) .none kV_is_count dc_is_count pm_is_count an_is_count cd_is_count ct_is_count), sl_is_count⟩)
    (c_is_count : PySem.W.codeIn K cd_is_count "is_count" = true)
    (k_is_count : PySem.W.keepIn K (.ref f_is_countA) = true)
    (a_is_rank : PySem.W.nsIn K mainGlobals "is_rank" = some (some (.ref f_is_rankA)))
    (l_is_rank : K.lookup f_is_rankA = some ⟨oc_is_rank, od_is_rank, .func (PySem.W.fnOf "is_rank" "is_rank" (defArgs s_is_rank) (defBody s_is_rank) (defScope s_is_rank) .none kV_is_rank dc_is_rank pm_is_rank an_is_rank cd_is_rank ct_is_rank), sl_is_rank⟩)
    (c_is_rank : PySem.W.codeIn K cd_is_rank "is_rank" = true)
    (k_is_rank : PySem.W.keepIn K (.ref f_is_rankA) = true)
    (a_are_lost_ranks : PySem.W.nsIn K mainGlobals "are_lost_ranks" = some (some (.ref f_are_lost_ranksA)))
    (l_are_lost_ranks : K.lookup f_are_lost_ranksA = some ⟨oc_are_lost_ranks, od_are_lost_ranks, .func (PySem.W.fnOf "are_lost_ranks" "are_lost_ranks" (defArgs s_are_lost_ranks) (defBody s_are_lost_ranks) (defScope s_are_lost_ranks) .none kV_are_lost_ranks dc_are_lost_ranks pm_are_lost_ranks an_are_lost_ranks cd_are_lost_ranks ct_are_lost_ranks), sl_are_lost_ranks⟩)
    (c_are_lost_ranks : PySem.W.codeIn K cd_are_lost_ranks "are_lost_ranks" = true)
    (k_are_lost_ranks : PySem.W.keepIn K (.ref f_are_lost_ranksA) = true)
    (a_Table___init__ : PySem.W.findIn K (.ref C_Table) "__init__" = some (some (.ref f_Table___init__A)))
    (i_Table___init__ : PySem.W.isFn K (.ref f_Table___init__A) = true)
    (l_Table___init__ : K.lookup f_Table___init__A = some ⟨oc_Table___init__, od_Table___init__, .func (PySem.W.fnOf "__init__" "Table.__init__" (defArgs s_Table___init__) (defBody s_Table___init__) (defScope s_Table___init__) .none kV_Table___init__ dc_Table___init__ pm_Table___init__ an_Table___init__ cd_Table___init__ ct_Table___init__), sl_Table___init__⟩)
    (c_Table___init__ : PySem.W.codeIn K cd_Table___init__ "Table.__init__" = true)
    (k_Table___init__ : PySem.W.keepIn K (.ref f_Table___init__A) = true)
    (mk_Table : PySem.W.makesIn K C_Table = true)
    (kc_Table : PySem.W.keepIn K (.ref C_Table) = true)
    (a__law_pool : PySem.W.nsIn K mainGlobals "_law_pool" = some (some (.ref f__law_poolA)))
    (l__law_pool : K.lookup f__law_poolA = some ⟨oc__law_pool, od__law_pool, .func (PySem.W.fnOf "_law_pool" "_law_pool" (defArgs s__law_pool) (defBody s__law_pool) (defScope s__law_pool) .none kV__law_pool dc__law_pool pm__law_pool an__law_pool cd__law_pool ct__law_pool), sl__law_pool⟩)
    (c__law_pool : PySem.W.codeIn K cd__law_pool "_law_pool" = true)
    (k__law_pool : PySem.W.keepIn K (.ref f__law_poolA) = true)
    (a__law_take : PySem.W.nsIn K mainGlobals "_law_take" = some (some (.ref f__law_takeA)))
    (l__law_take : K.lookup f__law_takeA = some ⟨oc__law_take, od__law_take, .func (PySem.W.fnOf "_law_take" "_law_take" (defArgs s__law_take) (defBody s__law_take) (defScope s__law_take) .none kV__law_take dc__law_take pm__law_take an__law_take cd__law_take ct__law_take), sl__law_take⟩)
    (c__law_take : PySem.W.codeIn K cd__law_take "_law_take" = true)
    (k__law_take : PySem.W.keepIn K (.ref f__law_takeA) = true)
    (a__law_table : PySem.W.nsIn K mainGlobals "_law_table" = some (some (.ref f__law_tableA)))
    (l__law_table : K.lookup f__law_tableA = some ⟨oc__law_table, od__law_table, .func (PySem.W.fnOf "_law_table" "_law_table" (defArgs s__law_table) (defBody s__law_table) (defScope s__law_table) .none kV__law_table dc__law_table pm__law_table an__law_table cd__law_table ct__law_table), sl__law_table⟩)
    (c__law_table : PySem.W.codeIn K cd__law_table "_law_table" = true)
    (k__law_table : PySem.W.keepIn K (.ref f__law_tableA) = true)
    (a_least_reaching : PySem.W.nsIn K mainGlobals "least_reaching" = some (some (.ref f_least_reachingA)))
    (l_least_reaching : K.lookup f_least_reachingA = some ⟨oc_least_reaching, od_least_reaching, .func (PySem.W.fnOf "least_reaching" "least_reaching" (defArgs s_least_reaching) (defBody s_least_reaching) (defScope s_least_reaching) .none kV_least_reaching dc_least_reaching pm_least_reaching an_least_reaching cd_least_reaching ct_least_reaching), sl_least_reaching⟩)
    (c_least_reaching : PySem.W.codeIn K cd_least_reaching "least_reaching" = true)
    (k_least_reaching : PySem.W.keepIn K (.ref f_least_reachingA) = true)
    (a_after : PySem.W.nsIn K mainGlobals "after" = some (some (.ref f_afterA)))
    (l_after : K.lookup f_afterA = some ⟨oc_after, od_after, .func (PySem.W.fnOf "after" "after" (defArgs s_after) (defBody s_after) (defScope s_after) .none kV_after dc_after pm_after an_after cd_after ct_after), sl_after⟩)
    (c_after : PySem.W.codeIn K cd_after "after" = true)
    (k_after : PySem.W.keepIn K (.ref f_afterA) = true)
    (a_Table___add__ : PySem.W.findIn K (.ref C_Table) "__add__" = some (some (.ref f_Table___add__A)))
    (i_Table___add__ : PySem.W.isFn K (.ref f_Table___add__A) = true)
    (l_Table___add__ : K.lookup f_Table___add__A = some ⟨oc_Table___add__, od_Table___add__, .func (PySem.W.fnOf "__add__" "Table.__add__" (defArgs s_Table___add__) (defBody s_Table___add__) (defScope s_Table___add__) .none kV_Table___add__ dc_Table___add__ pm_Table___add__ an_Table___add__ cd_Table___add__ ct_Table___add__), sl_Table___add__⟩)
    (c_Table___add__ : PySem.W.codeIn K cd_Table___add__ "Table.__add__" = true)
    (k_Table___add__ : PySem.W.keepIn K (.ref f_Table___add__A) = true)
    (a_Table_lost : PySem.W.findIn K (.ref C_Table) "lost" = some (some (.ref p_Table_lostA)))
    (pa_Table_lost : PySem.W.specialIn K (.ref p_Table_lostA) "__get__" = some (some (.builtin "property.__get__")))
    (pb_Table_lost : PySem.W.takesIn K (.ref p_Table_lostA) = some true)
    (pc_Table_lost : PySem.W.recIn K p_Table_lostA "property" = some (.ref f_Table_lostA :: rest_Table_lost))
    (l_Table_lost : K.lookup f_Table_lostA = some ⟨oc_Table_lost, od_Table_lost, .func (PySem.W.fnOf "lost" "Table.lost" (defArgs s_Table_lost) (defBody s_Table_lost) (defScope s_Table_lost) .none kV_Table_lost dc_Table_lost pm_Table_lost an_Table_lost cd_Table_lost ct_Table_lost), sl_Table_lost⟩)
    (c_Table_lost : PySem.W.codeIn K cd_Table_lost "Table.lost" = true)
    (k_Table_lost : PySem.W.keepIn K (.ref f_Table_lostA) = true)
    (a_check_count : PySem.W.nsIn K mainGlobals "check_count" = some (some (.ref f_check_countA)))
    (l_check_count : K.lookup f_check_countA = some ⟨oc_check_count, od_check_count, .func (PySem.W.fnOf "check_count" "check_count" (defArgs s_check_count) (defBody s_check_count) (defScope s_check_count) .none kV_check_count dc_check_count pm_check_count an_check_count cd_check_count ct_check_count), sl_check_count⟩)
    (c_check_count : PySem.W.codeIn K cd_check_count "check_count" = true)
    (k_check_count : PySem.W.keepIn K (.ref f_check_countA) = true)
    (a_Table_least : PySem.W.findIn K (.ref C_Table) "least" = some (some (.ref f_Table_leastA)))
    (i_Table_least : PySem.W.isFn K (.ref f_Table_leastA) = true)
    (l_Table_least : K.lookup f_Table_leastA = some ⟨oc_Table_least, od_Table_least, .func (PySem.W.fnOf "least" "Table.least" (defArgs s_Table_least) (defBody s_Table_least) (defScope s_Table_least) .none kV_Table_least dc_Table_least pm_Table_least an_Table_least cd_Table_least ct_Table_least), sl_Table_least⟩)
    (c_Table_least : PySem.W.codeIn K cd_Table_least "Table.least" = true)
    (k_Table_least : PySem.W.keepIn K (.ref f_Table_leastA) = true)
    (a_Table___call__ : PySem.W.findIn K (.ref C_Table) "__call__" = some (some (.ref f_Table___call__A)))
    (i_Table___call__ : PySem.W.isFn K (.ref f_Table___call__A) = true)
    (l_Table___call__ : K.lookup f_Table___call__A = some ⟨oc_Table___call__, od_Table___call__, .func (PySem.W.fnOf "__call__" "Table.__call__" (defArgs s_Table___call__) (defBody s_Table___call__) (defScope s_Table___call__) .none kV_Table___call__ dc_Table___call__ pm_Table___call__ an_Table___call__ cd_Table___call__ ct_Table___call__), sl_Table___call__⟩)
    (c_Table___call__ : PySem.W.codeIn K cd_Table___call__ "Table.__call__" = true)
    (k_Table___call__ : PySem.W.keepIn K (.ref f_Table___call__A) = true)
    (fi_Table___call__ : PySem.W.fnIn K f_Table___call__A = true)
    (a_Table_start : PySem.W.findIn K (.ref C_Table) "start" = some (some (.ref p_Table_startA)))
    (pa_Table_start : PySem.W.specialIn K (.ref p_Table_startA) "__get__" = some (some (.builtin "property.__get__")))
    (pb_Table_start : PySem.W.takesIn K (.ref p_Table_startA) = some true)
    (pc_Table_start : PySem.W.recIn K p_Table_startA "property" = some (.ref f_Table_startA :: rest_Table_start))
    (l_Table_start : K.lookup f_Table_startA = some ⟨oc_Table_start, od_Table_start, .func (PySem.W.fnOf "start" "Table.start" (defArgs s_Table_start) (defBody s_Table_start) (defScope s_Table_start) .none kV_Table_start dc_Table_start pm_Table_start an_Table_start cd_Table_start ct_Table_start), sl_Table_start⟩)
    (c_Table_start : PySem.W.codeIn K cd_Table_start "Table.start" = true)
    (k_Table_start : PySem.W.keepIn K (.ref f_Table_startA) = true)
    (a_Table_growth : PySem.W.findIn K (.ref C_Table) "growth" = some (some (.ref p_Table_growthA)))
    (pa_Table_growth : PySem.W.specialIn K (.ref p_Table_growthA) "__get__" = some (some (.builtin "property.__get__")))
    (pb_Table_growth : PySem.W.takesIn K (.ref p_Table_growthA) = some true)
    (pc_Table_growth : PySem.W.recIn K p_Table_growthA "property" = some (.ref f_Table_growthA :: rest_Table_growth))
    (l_Table_growth : K.lookup f_Table_growthA = some ⟨oc_Table_growth, od_Table_growth, .func (PySem.W.fnOf "growth" "Table.growth" (defArgs s_Table_growth) (defBody s_Table_growth) (defScope s_Table_growth) .none kV_Table_growth dc_Table_growth pm_Table_growth an_Table_growth cd_Table_growth ct_Table_growth), sl_Table_growth⟩)
    (c_Table_growth : PySem.W.codeIn K cd_Table_growth "Table.growth" = true)
    (k_Table_growth : PySem.W.keepIn K (.ref f_Table_growthA) = true)
    (a__law_two_right : PySem.W.nsIn K mainGlobals "_law_two_right" = some (some (.ref f__law_two_rightA)))
    (l__law_two_right : K.lookup f__law_two_rightA = some ⟨oc__law_two_right, od__law_two_right, .func (PySem.W.fnOf "_law_two_right" "_law_two_right" (defArgs s__law_two_right) (defBody s__law_two_right) (defScope s__law_two_right) .none kV__law_two_right dc__law_two_right pm__law_two_right an__law_two_right cd__law_two_right ct__law_two_right), sl__law_two_right⟩)
    (c__law_two_right : PySem.W.codeIn K cd__law_two_right "_law_two_right" = true)
    (k__law_two_right : PySem.W.keepIn K (.ref f__law_two_rightA) = true)
    (a_Table___eq__ : PySem.W.findIn K (.ref C_Table) "__eq__" = some (some (.ref f_Table___eq__A)))
    (i_Table___eq__ : PySem.W.isFn K (.ref f_Table___eq__A) = true)
    (l_Table___eq__ : K.lookup f_Table___eq__A = some ⟨oc_Table___eq__, od_Table___eq__, .func (PySem.W.fnOf "__eq__" "Table.__eq__" (defArgs s_Table___eq__) (defBody s_Table___eq__) (defScope s_Table___eq__) .none kV_Table___eq__ dc_Table___eq__ pm_Table___eq__ an_Table___eq__ cd_Table___eq__ ct_Table___eq__), sl_Table___eq__⟩)
    (c_Table___eq__ : PySem.W.codeIn K cd_Table___eq__ "Table.__eq__" = true)
    (k_Table___eq__ : PySem.W.keepIn K (.ref f_Table___eq__A) = true)
    (a_Table___bool__ : PySem.W.findIn K (.ref C_Table) "__bool__" = some (some (.ref f_Table___bool__A)))
    (i_Table___bool__ : PySem.W.isFn K (.ref f_Table___bool__A) = true)
    (l_Table___bool__ : K.lookup f_Table___bool__A = some ⟨oc_Table___bool__, od_Table___bool__, .func (PySem.W.fnOf "__bool__" "Table.__bool__" (defArgs s_Table___bool__) (defBody s_Table___bool__) (defScope s_Table___bool__) .none kV_Table___bool__ dc_Table___bool__ pm_Table___bool__ an_Table___bool__ cd_Table___bool__ ct_Table___bool__), sl_Table___bool__⟩)
    (c_Table___bool__ : PySem.W.codeIn K cd_Table___bool__ "Table.__bool__" = true)
    (k_Table___bool__ : PySem.W.keepIn K (.ref f_Table___bool__A) = true)
    (a_law : PySem.W.nsIn K mainGlobals "law" = some (some (.ref f_lawA)))
    (l_law : K.lookup f_lawA = some ⟨oc_law, od_law, .func (PySem.W.fnOf "law" "law" (defArgs s_law) (defBody s_law) (defScope s_law) .none kV_law dc_law pm_law an_law cd_law ct_law), sl_law⟩)
    (c_law : PySem.W.codeIn K cd_law "law" = true)
    (k_law : PySem.W.keepIn K (.ref f_lawA) = true)
    (hlaw : ∀ ns : List Int, ns.length ≤ 63 → ∃ e, R_law [.val (.scr ns)] = .ok (.bl true) e) :
    ∃ fd : FuncData, (∀ (s : Shared) (v : Value), BindsTo s fd ⟨[v], []⟩ [("_law_script", v)]) ∧ ∀ base : Heap, K.In base → base.Ns mainGlobals mg → FnOk P w K mg base (L2.CX P w) 8 fa fd ["_law_script"] (spLaw K) := by
  have e := hfa.symm.trans (PySem.W.mg_of X G a_law)
  cases e
  refine ⟨PySem.W.fnOf "law" "law" (defArgs s_law) (defBody s_law) (defScope s_law) .none kV_law dc_law pm_law an_law cd_law ct_law, fun s v => .of_eq rfl, fun base _ _ => ?_⟩
  have m_Table := PySem.W.mg_of X G a_Table
  have cl_Table : Cls K C_Table := ⟨pg_Table, hd_Table, po_Table, sa_Table⟩
  have b_isinstance := PySem.W.mg_none_of X G n_b_isinstance
  have b_int := PySem.W.mg_none_of X G n_b_int
  have b_bool := PySem.W.mg_none_of X G n_b_bool
  have b_list := PySem.W.mg_none_of X G n_b_list
  have b_tuple := PySem.W.mg_none_of X G n_b_tuple
  have b_all := PySem.W.mg_none_of X G n_b_all
  have b_zip := PySem.W.mg_none_of X G n_b_zip
  have f_Table_base : FlI K mg "Table" "base" := ⟨_, m_Table, cl_Table, n_f_Table_base⟩
  have f_Table_gone : FlI K mg "Table" "gone" := ⟨_, m_Table, cl_Table, n_f_Table_gone⟩
  have b_len := PySem.W.mg_none_of X G n_b_len
  have b_abs := PySem.W.mg_none_of X G n_b_abs
  have b_range := PySem.W.mg_none_of X G n_b_range
  have b_sorted := PySem.W.mg_none_of X G n_b_sorted
  have b_max := PySem.W.mg_none_of X G n_b_max
  have ic_Table : C8.InsC K C_Table := ⟨cl_Table, ic1_Table, ic2_Table, ic3_Table, ic4_Table, kit_self⟩
  have ko_Table : KoI K mg "Table" ["Table"] [] := ⟨_, m_Table, kit_base t1_ko_Table t2_ko_Table, (by intro n h; rcases List.mem_cons.mp h with rfl | h; (exact ⟨_, m_Table, ic_Table, kit_self⟩); cases h), (fun n h => nomatch h)⟩
  have b_min := PySem.W.mg_none_of X G n_b_min
  have ne_Table : NeI K mg "Table" := ⟨_, m_Table, n1_ne_Table, n2_ne_Table⟩
  have m_is_integer := PySem.W.mg_of X G a_is_integer
  have F_is_integer := fun_mk (st := s_is_integer) l_is_integer c_is_integer k_is_integer
  have B_is_integer := F_is_integer.binds (ps := ["value"]) fun _ _ _ _ _ _ us hl => match us, hl with | [_], _ => rfl
  have O_is_integer := ok_is_integer (P := P) (w := w) (mg := mg) (base := base) F_is_integer b_isinstance b_int b_bool
  have Q_is_integer := fn_raw O_is_integer B_is_integer
  have d_Fn_is_integer : FnI P w K mg base 1 "is_integer" R_is_integer := ⟨_, m_is_integer, k_is_integer, Q_is_integer⟩
  have m_is_count := PySem.W.mg_of X G a_is_count
  have F_is_count := fun_mk (st := s_is_count) l_is_count c_is_count k_is_count
  have B_is_count := F_is_count.binds (ps := ["value"]) fun _ _ _ _ _ _ us hl => match us, hl with | [_], _ => rfl
  have O_is_count := ok_is_count (P := P) (w := w) (mg := mg) (base := base) F_is_count d_Fn_is_integer
  have Q_is_count := fn_raw O_is_count B_is_count
  have d_Fn_is_count : FnI P w K mg base 2 "is_count" R_is_count := ⟨_, m_is_count, k_is_count, Q_is_count⟩
  have m_is_rank := PySem.W.mg_of X G a_is_rank
  have F_is_rank := fun_mk (st := s_is_rank) l_is_rank c_is_rank k_is_rank
  have B_is_rank := F_is_rank.binds (ps := ["value"]) fun _ _ _ _ _ _ us hl => match us, hl with | [_], _ => rfl
  have O_is_rank := ok_is_rank (P := P) (w := w) (mg := mg) (base := base) F_is_rank d_Fn_is_integer
  have Q_is_rank := fn_raw O_is_rank B_is_rank
  have d_Fn_is_rank : FnI P w K mg base 2 "is_rank" R_is_rank := ⟨_, m_is_rank, k_is_rank, Q_is_rank⟩
  have m_are_lost_ranks := PySem.W.mg_of X G a_are_lost_ranks
  have F_are_lost_ranks := fun_mk (st := s_are_lost_ranks) l_are_lost_ranks c_are_lost_ranks k_are_lost_ranks
  have B_are_lost_ranks := F_are_lost_ranks.binds (ps := ["value"]) fun _ _ _ _ _ _ us hl => match us, hl with | [_], _ => rfl
  have O_are_lost_ranks := ok_are_lost_ranks (P := P) (w := w) (mg := mg) (base := base) F_are_lost_ranks b_isinstance b_list b_tuple d_Fn_is_rank b_all b_zip
  have Q_are_lost_ranks := fn_raw O_are_lost_ranks B_are_lost_ranks
  have d_Fn_are_lost_ranks : FnI P w K mg base 3 "are_lost_ranks" R_are_lost_ranks := ⟨_, m_are_lost_ranks, k_are_lost_ranks, Q_are_lost_ranks⟩
  have F_Table___init__ := fun_mk (st := s_Table___init__) l_Table___init__ c_Table___init__ k_Table___init__
  have B_Table___init__ := F_Table___init__.binds (ps := ["self", "start", "lost"]) fun _ _ _ _ _ _ us hl => match us, hl with | [_, _, _], _ => rfl
  have O_Table___init__ := ok_Table___init__ (P := P) (w := w) (mg := mg) (base := base) F_Table___init__ d_Fn_is_count d_Fn_are_lost_ranks f_Table_base f_Table_gone b_tuple
  have Q_Table___init__ := fn_raw O_Table___init__ B_Table___init__
  have d_Mk_Table___init__ : MkI P w K mg base 4 "Table" R_Table___init__ := ⟨_, _, m_Table, ⟨mk_Table, a_Table___init__, i_Table___init__, kc_Table⟩, Q_Table___init__⟩
  have m__law_pool := PySem.W.mg_of X G a__law_pool
  have F__law_pool := fun_mk (st := s__law_pool) l__law_pool c__law_pool k__law_pool
  have B__law_pool := F__law_pool.binds (ps := ["_law_script", "_law_k"]) fun _ _ _ _ _ _ us hl => match us, hl with | [_, _], _ => rfl
  have O__law_pool := ok__law_pool (P := P) (w := w) (mg := mg) (base := base) F__law_pool b_len b_abs b_int
  have Q__law_pool := fn_rawN O__law_pool B__law_pool
  have d_FnN__law_pool : FnN P w K mg base 1 "_law_pool" R__law_pool := ⟨_, m__law_pool, k__law_pool, Q__law_pool⟩
  have m__law_take := PySem.W.mg_of X G a__law_take
  have F__law_take := fun_mk (st := s__law_take) l__law_take c__law_take k__law_take
  have B__law_take := F__law_take.binds (ps := ["_law_pool_here", "_law_many"]) fun _ _ _ _ _ _ us hl => match us, hl with | [_, _], _ => rfl
  have O__law_take := ok__law_take (P := P) (w := w) (mg := mg) (base := base) F__law_take 
  have Q__law_take := fn_raw O__law_take B__law_take
  have d_Fn__law_take : FnI P w K mg base 1 "_law_take" R__law_take := ⟨_, m__law_take, k__law_take, Q__law_take⟩
  have m__law_table := PySem.W.mg_of X G a__law_table
  have F__law_table := fun_mk (st := s__law_table) l__law_table c__law_table k__law_table
  have B__law_table := F__law_table.binds (ps := ["_law_pool_here"]) fun _ _ _ _ _ _ us hl => match us, hl with | [_], _ => rfl
  have O__law_table := ok__law_table (P := P) (w := w) (mg := mg) (base := base) F__law_table d_Fn__law_take b_range d_Mk_Table___init__
  have Q__law_table := fn_raw O__law_table B__law_table
  have d_Fn__law_table : FnI P w K mg base 6 "_law_table" R__law_table := ⟨_, m__law_table, k__law_table, Q__law_table⟩
  have m_least_reaching := PySem.W.mg_of X G a_least_reaching
  have F_least_reaching := fun_mk (st := s_least_reaching) l_least_reaching c_least_reaching k_least_reaching
  have B_least_reaching := F_least_reaching.binds (ps := ["start", "lost", "count"]) fun _ _ _ _ _ _ us hl => match us, hl with | [_, _, _], _ => rfl
  have O_least_reaching := ok_least_reaching (P := P) (w := w) (mg := mg) (base := base) F_least_reaching 
  have Q_least_reaching := fn_raw O_least_reaching B_least_reaching
  have d_Fn_least_reaching : FnI P w K mg base 1 "least_reaching" R_least_reaching := ⟨_, m_least_reaching, k_least_reaching, Q_least_reaching⟩
  have m_after := PySem.W.mg_of X G a_after
  have F_after := fun_mk (st := s_after) l_after c_after k_after
  have B_after := F_after.binds (ps := ["start", "lost", "count"]) fun _ _ _ _ _ _ us hl => match us, hl with | [_, _, _], _ => rfl
  have O_after := ok_after (P := P) (w := w) (mg := mg) (base := base) F_after b_len
  have Q_after := fn_raw O_after B_after
  have d_Fn_after : FnI P w K mg base 1 "after" R_after := ⟨_, m_after, k_after, Q_after⟩
  have F_Table___add__ := fun_mk (st := s_Table___add__) l_Table___add__ c_Table___add__ k_Table___add__
  have B_Table___add__ := F_Table___add__.binds (ps := ["self", "other"]) fun _ _ _ _ _ _ us hl => match us, hl with | [_, _], _ => rfl
  have O_Table___add__ := ok_Table___add__ (P := P) (w := w) (mg := mg) (base := base) F_Table___add__ f_Table_gone f_Table_base d_Fn_least_reaching b_sorted d_Fn_after d_Mk_Table___init__
  have Q_Table___add__ := fn_raw O_Table___add__ B_Table___add__
  have d_Op_Table___add___Table : OpI P w K mg base 6 "Table" "__add__" R_Table___add__ := ⟨_, _, m_Table, a_Table___add__, i_Table___add__, sf_Table, Q_Table___add__⟩
  have F_Table_lost := fun_mk (st := s_Table_lost) l_Table_lost c_Table_lost k_Table_lost
  have B_Table_lost := F_Table_lost.binds (ps := ["self"]) fun _ _ _ _ _ _ us hl => match us, hl with | [_], _ => rfl
  have O_Table_lost := ok_Table_lost (P := P) (w := w) (mg := mg) (base := base) F_Table_lost f_Table_gone
  have Q_Table_lost := fn_raw O_Table_lost B_Table_lost
  have d_Pr_Table_lost_Table : PrI P w K mg base 1 "Table" "lost" R_Table_lost := ⟨_, _, _, m_Table, cl_Table, ⟨a_Table_lost, pa_Table_lost, pb_Table_lost, _, pc_Table_lost⟩, Q_Table_lost⟩
  have m_check_count := PySem.W.mg_of X G a_check_count
  have F_check_count := fun_mk (st := s_check_count) l_check_count c_check_count k_check_count
  have B_check_count := F_check_count.binds (ps := ["value"]) fun _ _ _ _ _ _ us hl => match us, hl with | [_], _ => rfl
  have O_check_count := ok_check_count (P := P) (w := w) (mg := mg) (base := base) F_check_count d_Fn_is_count
  have Q_check_count := fn_raw O_check_count B_check_count
  have d_Fn_check_count : FnI P w K mg base 3 "check_count" R_check_count := ⟨_, m_check_count, k_check_count, Q_check_count⟩
  have F_Table_least := fun_mk (st := s_Table_least) l_Table_least c_Table_least k_Table_least
  have B_Table_least := F_Table_least.binds (ps := ["self", "count"]) fun _ _ _ _ _ _ us hl => match us, hl with | [_, _], _ => rfl
  have O_Table_least := ok_Table_least (P := P) (w := w) (mg := mg) (base := base) F_Table_least d_Fn_check_count f_Table_gone f_Table_base d_Fn_least_reaching
  have Q_Table_least := fn_raw O_Table_least B_Table_least
  have d_Mt_Table_least_Table : MtI P w K mg base 4 "Table" "least" R_Table_least := ⟨_, _, m_Table, cl_Table, ⟨a_Table_least, i_Table_least, k_Table_least⟩, Q_Table_least⟩
  have F_Table___call__ := fun_mk (st := s_Table___call__) l_Table___call__ c_Table___call__ k_Table___call__
  have B_Table___call__ := F_Table___call__.binds (ps := ["self", "count"]) fun _ _ _ _ _ _ us hl => match us, hl with | [_, _], _ => rfl
  have O_Table___call__ := ok_Table___call__ (P := P) (w := w) (mg := mg) (base := base) F_Table___call__ d_Fn_check_count f_Table_gone f_Table_base d_Fn_after
  have Q_Table___call__ := fn_raw O_Table___call__ B_Table___call__
  have d_Oc_Table___call__ : OcI P w K mg base 4 "Table" R_Table___call__ := ⟨_, _, m_Table, ⟨a_Table___call__, i_Table___call__, fi_Table___call__⟩, Q_Table___call__⟩
  have F_Table_start := fun_mk (st := s_Table_start) l_Table_start c_Table_start k_Table_start
  have B_Table_start := F_Table_start.binds (ps := ["self"]) fun _ _ _ _ _ _ us hl => match us, hl with | [_], _ => rfl
  have O_Table_start := ok_Table_start (P := P) (w := w) (mg := mg) (base := base) F_Table_start f_Table_base
  have Q_Table_start := fn_raw O_Table_start B_Table_start
  have d_Pr_Table_start_Table : PrI P w K mg base 1 "Table" "start" R_Table_start := ⟨_, _, _, m_Table, cl_Table, ⟨a_Table_start, pa_Table_start, pb_Table_start, _, pc_Table_start⟩, Q_Table_start⟩
  have F_Table_growth := fun_mk (st := s_Table_growth) l_Table_growth c_Table_growth k_Table_growth
  have B_Table_growth := F_Table_growth.binds (ps := ["self"]) fun _ _ _ _ _ _ us hl => match us, hl with | [_], _ => rfl
  have O_Table_growth := ok_Table_growth (P := P) (w := w) (mg := mg) (base := base) F_Table_growth f_Table_base f_Table_gone b_len
  have Q_Table_growth := fn_raw O_Table_growth B_Table_growth
  have d_Pr_Table_growth_Table : PrI P w K mg base 1 "Table" "growth" R_Table_growth := ⟨_, _, _, m_Table, cl_Table, ⟨a_Table_growth, pa_Table_growth, pb_Table_growth, _, pc_Table_growth⟩, Q_Table_growth⟩
  have m__law_two_right := PySem.W.mg_of X G a__law_two_right
  have F__law_two_right := fun_mk (st := s__law_two_right) l__law_two_right c__law_two_right k__law_two_right
  have B__law_two_right := F__law_two_right.binds (ps := ["_law_one", "_law_two"]) fun _ _ _ _ _ _ us hl => match us, hl with | [_, _], _ => rfl
  have O__law_two_right := ok__law_two_right (P := P) (w := w) (mg := mg) (base := base) F__law_two_right d_Op_Table___add___Table d_Pr_Table_lost_Table b_list d_Mt_Table_least_Table b_max b_range d_Oc_Table___call__ d_Pr_Table_start_Table d_Pr_Table_growth_Table
  have Q__law_two_right := fn_raw O__law_two_right B__law_two_right
  have d_Fn__law_two_right : FnI P w K mg base 7 "_law_two_right" R__law_two_right := ⟨_, m__law_two_right, k__law_two_right, Q__law_two_right⟩
  have F_Table___eq__ := fun_mk (st := s_Table___eq__) l_Table___eq__ c_Table___eq__ k_Table___eq__
  have B_Table___eq__ := F_Table___eq__.binds (ps := ["self", "other"]) fun _ _ _ _ _ _ us hl => match us, hl with | [_, _], _ => rfl
  have O_Table___eq__ := ok_Table___eq__ (P := P) (w := w) (mg := mg) (base := base) F_Table___eq__ b_isinstance ko_Table f_Table_base f_Table_gone
  have Q_Table___eq__ := fn_raw O_Table___eq__ B_Table___eq__
  have d_Op_Table___eq___Table : OpI P w K mg base 1 "Table" "__eq__" R_Table___eq__ := ⟨_, _, m_Table, a_Table___eq__, i_Table___eq__, sf_Table, Q_Table___eq__⟩
  have F_Table___bool__ := fun_mk (st := s_Table___bool__) l_Table___bool__ c_Table___bool__ k_Table___bool__
  have B_Table___bool__ := F_Table___bool__.binds (ps := ["self"]) fun _ _ _ _ _ _ us hl => match us, hl with | [_], _ => rfl
  have O_Table___bool__ := ok_Table___bool__ (P := P) (w := w) (mg := mg) (base := base) F_Table___bool__ f_Table_base f_Table_gone b_len b_bool
  have Q_Table___bool__ := fn_raw O_Table___bool__ B_Table___bool__
  have d_Op_Table___bool___Table : OpI P w K mg base 1 "Table" "__bool__" R_Table___bool__ := ⟨_, _, m_Table, a_Table___bool__, i_Table___bool__, sf_Table, Q_Table___bool__⟩
  have m_law := PySem.W.mg_of X G a_law
  have F_law := fun_mk (st := s_law) l_law c_law k_law
  have B_law := F_law.binds (ps := ["_law_script"]) fun _ _ _ _ _ _ us hl => match us, hl with | [_], _ => rfl
  have O_law := ok_law (P := P) (w := w) (mg := mg) (base := base) F_law d_Mk_Table___init__ b_len b_min b_max b_range d_FnN__law_pool d_Fn__law_table d_Fn__law_two_right d_Op_Table___add___Table d_Op_Table___eq___Table ne_Table d_Op_Table___bool___Table b_bool
  exact law_ok O_law hlaw
end
end Dl.k07

set_option maxHeartbeats 400000
/-! k07: the draws, the law. -/
namespace Dl.k07
open PySem Tab

theorem callR_o {F : En → Res D} {as : List Ar} {e os : En} {d : D} (h : F (as.map (toSl e)) = .ok d os) (nd : noDup (owns as) = true) : callR F as e = .ok d (putO as os e) := by
  unfold callR
  rw [if_pos nd, h]
/-- the pool: two ints -/
abbrev pl (a b : Int) : List D := [.int a, .int b]
theorem take_eq (a b m : Int) (hm : 0 < m) (hs : m.natAbs.log2 < 9000) : ∃ r a' b', 0 ≤ r ∧ r < m ∧ R__law_take [.own true (pl a b), .val (.int m)] = .ok (.int r) [.own true (pl a' b'), .no] := by
  have t1 : (fB (f2 dGt (fGetA 0 (fC (.int 0))) (fC (.int 0)))) [.own true (pl a b), .val (.int m), .no] = .ok (decide (0 < a)) [.own true (pl a b), .val (.int m), .no] := rfl
  by_cases ha : 0 < a
  · rw [decide_eq_true ha] at t1
    refine ⟨a % m, a / m, b, Int.emod_nonneg _ (by omega), Int.emod_lt_of_pos _ hm, ?_⟩
    refine runF_ok (e1 := [.own true (pl (a / m) b), .val (.int m), .val (.int (a % m))]) ?_ rfl (by decide) rfl
    have s1 : (fSetT (f2 dMod (fGetA 0 (fC (.int 0))) (fVar 1)) (setV 2)) [.own true (pl a b), .val (.int m), .no] = .ok .nx [.own true (pl a b), .val (.int m), .val (.int (a % m))] := fSetT_ok (u := ()) (Eq.trans (f2_ok (x := .int a) (y := .int m) rfl rfl) (dMod_eq hm)) rfl
    have s2 : (fPut 0 (f2 dDiv (fGetA 0 (fC (.int 0))) (fVar 1)) (fC (.int 0))) [.own true (pl a b), .val (.int m), .val (.int (a % m))] = .ok .nx [.own true (pl (a / m) b), .val (.int m), .val (.int (a % m))] := by
      unfold fPut
      rw [bd_ok (Eq.trans (f2_ok (e := [.own true (pl a b), .val (.int m), .val (.int (a % m))]) (fa := fGetA 0 (fC (.int 0))) (fb := fVar 1) (o := dDiv) (x := .int a) (y := .int m) rfl rfl) (dDiv_eq hm hs))]
      rfl
    exact fSeq_rt (fIf_t t1 (fSeq_nx s1 (fSeq_nx s2 rfl)))
  · rw [decide_eq_false ha] at t1
    have hb : 0 ≤ (b * 48271 + 12345) % 2147483647 ∧ (b * 48271 + 12345) % 2147483647 < 2147483647 := ⟨Int.emod_nonneg _ (by decide), Int.emod_lt_of_pos _ (by decide)⟩
    generalize hc : (b * 48271 + 12345) % 2147483647 = c at hb
    refine ⟨c * c % 2147483629 / 64 % m, a, c, Int.emod_nonneg _ (by omega), Int.emod_lt_of_pos _ hm, ?_⟩
    refine runF_ok (e1 := [.own true (pl a c), .val (.int m), .no]) ?_ rfl (by decide) rfl
    refine fSeq_nx (fIf_f t1 rfl) ?_
    have s1 : (fPut 0 (f2 dMod (f2 dAdd (f2 dMul (fGetA 0 (fC (.int 1))) (fC (.int 48271))) (fC (.int 12345))) (fC (.int 2147483647))) (fC (.int 1))) [.own true (pl a b), .val (.int m), .no] = .ok .nx [.own true (pl a c), .val (.int m), .no] := by
      unfold fPut
      have q1 : (f2 dMul (fGetA 0 (fC (.int 1))) (fC (.int 48271))) [.own true (pl a b), .val (.int m), .no] = .ok (.int (b * 48271)) [.own true (pl a b), .val (.int m), .no] := Eq.trans (f2_ok (x := .int b) (y := .int 48271) rfl rfl) (dMul_r (by decide))
      have q2 := Eq.trans (f2_ok (o := dMod) (fb := fC (.int 2147483647)) (Eq.trans (f2_ok (o := dAdd) (fb := fC (.int 12345)) q1 rfl) dAdd_eq) rfl) (dMod_eq (by decide))
      rw [bd_ok q2, hc]
      rfl
    refine fSeq_nx s1 (fRet_ok ?_)
    have q1 : (f2 dMul (fGetA 0 (fC (.int 1))) (fGetA 0 (fC (.int 1)))) [.own true (pl a c), .val (.int m), .no] = .ok (.int (c * c)) [.own true (pl a c), .val (.int m), .no] := Eq.trans (f2_ok (x := .int c) (y := .int c) rfl rfl) (dMul_r (by omega))
    have q2 := Eq.trans (f2_ok (o := dMod) (fb := fC (.int 2147483629)) q1 rfl) (dMod_eq (by decide))
    have q3 := Eq.trans (f2_ok (o := dDiv) (fb := fC (.int 64)) q2 rfl) (dDiv_eq (by decide) (by decide))
    exact Eq.trans (f2_ok (o := dMod) (fb := fVar 1) q3 rfl) (dMod_eq hm)
/-- .. called in _law_table's state -/
theorem take_call (a b m : Int) (hm : 0 < m) (hs : m.natAbs.log2 < 9000) (s1 s2 s3 : Sl) : ∃ r a' b', 0 ≤ r ∧ r < m ∧ (bd (rO 0 (rD (fC (.int m)) (rNil))) (callR R__law_take)) [.own true (pl a b), s1, s2, s3] = .ok (.int r) [.own true (pl a' b'), s1, s2, s3] := by
  obtain ⟨r, a', b', h1, h2, h3⟩ := take_eq a b m hm hs
  refine ⟨r, a', b', h1, h2, ?_⟩
  refine Eq.trans (bd_ok (x := [.o 0, .d (.int m)]) (e' := [.own true (pl a b), s1, s2, s3]) rfl) (Eq.trans (callR_o (as := [.o 0, .d (.int m)]) (e := [.own true (pl a b), s1, s2, s3]) (os := [.own true (pl a' b'), .no]) h3 rfl) ?_)
  rfl
def Pw (l : List Int) (last : Int) : Prop := l.Pairwise (· < ·) ∧ (∀ x ∈ l, 0 < x ∧ x ≤ last) ∧ 0 ≤ last
theorem Pw.step {l : List Int} {last y : Int} (h : Pw l last) (hy : last < y) : Pw (l ++ [y]) y := by
  obtain ⟨h1, h2, h3⟩ := h
  refine ⟨List.pairwise_append.mpr ⟨h1, by simp, fun x hx z hz => ?_⟩, fun x hx => ?_, by omega⟩
  · obtain rfl : z = y := by simpa using hz
    have := (h2 x hx).2
    omega
  · rcases List.mem_append.mp hx with hx | hx
    · have := h2 x hx
      omega
    · obtain rfl : x = y := by simpa using hx
      omega
abbrev tBody : M Fl := fSeq (fSetT (f2 dAdd (f2 dAdd (fVar 2) (fC (.int 1))) (bd (rO 0 (rD (fC (.int 3)) (rNil))) (callR R__law_take))) (setV 2)) (fApp 1 (fVar 2))
theorem app_ok {s0 s3 : Sl} {l : List Int} {y : Int} (h : l.length < 1000) : (fApp 1 (fVar 2)) [s0, .own false (l.map D.int), .val (.int y), s3] = .ok .nx [s0, .own false ((l ++ [y]).map D.int), .val (.int y), s3] := by
  unfold fApp
  have e1 : appO 1 (.int y) [s0, .own false (l.map D.int), .val (.int y), s3] = .ok () [s0, .own false ((l ++ [y]).map D.int), .val (.int y), s3] := by
    unfold appO
    show (if (l.map D.int).length < 16777216 then Res.ok () [s0, .own false (l.map D.int ++ [.int y]), .val (.int y), s3] else .bad) = _
    rw [if_pos (by rw [List.length_map]; omega), List.map_append]
    rfl
  refine Eq.trans (bd_ok (x := ()) (e' := [s0, .own false (l.map D.int), .val (.int y), s3]) rfl) ?_
  refine Eq.trans (bd_ok (x := .int y) (e' := [s0, .own false (l.map D.int), .val (.int y), s3]) rfl) ?_
  exact Eq.trans (bd_ok (noExc_ok e1)) rfl
theorem table_loop : ∀ (ds : List D) (a b : Int) (l : List Int) (last : Int) (s3 : Sl), s3.isRef = false → Pw l last → l.length + ds.length ≤ 900 → ∃ a' b' l' last' s3', Pw l' last' ∧ l'.length = l.length + ds.length ∧ forL (setV 3) tBody ds [.own true (pl a b), .own false (l.map D.int), .val (.int last), s3] = .ok .nx [.own true (pl a' b'), .own false (l'.map D.int), .val (.int last'), s3']
  | [], a, b, l, last, s3, _, hp, _ => ⟨a, b, l, last, s3, hp, rfl, rfl⟩
  | d :: ds, a, b, l, last, s3, h3, hp, hl => by
    simp only [List.length_cons] at hl
    obtain ⟨r, a1, b1, r1, r2, e1⟩ := take_call a b 3 (by decide) (by decide) (.own false (l.map D.int)) (.val (.int last)) (.val d)
    have hp1 : Pw (l ++ [last + 1 + r]) (last + 1 + r) := hp.step (by omega)
    obtain ⟨a', b', l', last', s3', k1, k2, k3⟩ := table_loop ds a1 b1 (l ++ [last + 1 + r]) (last + 1 + r) (.val d) rfl hp1 (by simp only [List.length_append, List.length_cons, List.length_nil]; omega)
    refine ⟨a', b', l', last', s3', k1, by rw [k2]; simp only [List.length_append, List.length_cons, List.length_nil]; omega, ?_⟩
    refine forL_nx (u := ()) (e1 := [.own true (pl a b), .own false (l.map D.int), .val (.int last), .val d]) (setV_ok (s := s3) rfl h3) ?_ k3
    have q1 : (f2 dAdd (f2 dAdd (fVar 2) (fC (.int 1))) (bd (rO 0 (rD (fC (.int 3)) (rNil))) (callR R__law_take))) [.own true (pl a b), .own false (l.map D.int), .val (.int last), .val d] = .ok (.int (last + 1 + r)) [.own true (pl a1 b1), .own false (l.map D.int), .val (.int last), .val d] := Eq.trans (f2_ok (x := .int (last + 1)) rfl e1) dAdd_eq
    exact fSeq_nx (fSetT_ok (u := ()) q1 rfl) (app_ok (by omega))
theorem pick2 {r : Int} (h0 : 0 ≤ r) (h1 : r < 2) (x y : Int) : ∃ z, (z = x ∨ z = y) ∧ ∀ e, dAt (.lst [.int x, .int y]) (.int r) e = .ok (.int z) e := by
  have : r = 0 ∨ r = 1 := by omega
  rcases this with rfl | rfl
  · exact ⟨x, .inl rfl, fun _ => rfl⟩
  · exact ⟨y, .inr rfl, fun _ => rfl⟩
theorem pick5 {r : Int} (h0 : 0 ≤ r) (h1 : r < 5) (x1 x2 x3 x4 x5 : Int) (h : 0 ≤ x1 ∧ 0 ≤ x2 ∧ 0 ≤ x3 ∧ 0 ≤ x4 ∧ 0 ≤ x5) : ∃ z, 0 ≤ z ∧ ∀ e, dAt (.lst [.int x1, .int x2, .int x3, .int x4, .int x5]) (.int r) e = .ok (.int z) e := by
  have : r = 0 ∨ r = 1 ∨ r = 2 ∨ r = 3 ∨ r = 4 := by omega
  rcases this with rfl | rfl | rfl | rfl | rfl
  · exact ⟨x1, h.1, fun _ => rfl⟩
  · exact ⟨x2, h.2.1, fun _ => rfl⟩
  · exact ⟨x3, h.2.2.1, fun _ => rfl⟩
  · exact ⟨x4, h.2.2.2.1, fun _ => rfl⟩
  · exact ⟨x5, h.2.2.2.2, fun _ => rfl⟩
theorem pow50 {e : En} : (f2 dPow (fC (.int 10)) (fC (.int 50))) e = .ok (.int (10 ^ (50 : Int).toNat)) e := Eq.trans (f2_ok rfl rfl) (dPow_eq (by decide))
theorem pow_nn : (0 : Int) ≤ 10 ^ (50 : Int).toNat := by decide
theorem table_eq (a b : Int) : ∃ s l a' b', Vl s l ∧ l.length ≤ 10 ∧ R__law_table [.own true (pl a b)] = .ok (tb s l) [.own true (pl a' b')] := by
  obtain ⟨r1, a1, b1, h1, h1', e1⟩ := take_call a b 2 (by decide) (by decide) .no .no .no
  obtain ⟨r2, a2, b2, h2, h2', e2⟩ := take_call a1 b1 2 (by decide) (by decide) .no .no .no
  obtain ⟨z, hz, ez⟩ := pick2 h1 h1' 0 (10 ^ (50 : Int).toNat)
  have hz0 : 0 ≤ z := by
    have := pow_nn
    rcases hz with rfl | rfl <;> omega
  obtain ⟨r3, a3, b3, h3, h3', e3⟩ := take_call a2 b2 7 (by decide) (by decide) (.own false []) (.val (.int (z * r2))) .no
  have hp : Pw [] (z * r2) := ⟨.nil, (fun x hx => nomatch hx), Int.mul_nonneg hz0 h2⟩
  obtain ⟨a4, b4, l, last, s3, k1, k2, k3⟩ := table_loop (rangeD 0 r3.toNat) a3 b3 [] (z * r2) .no rfl hp (by rw [rangeD_len]; simp only [List.length_nil]; omega)
  rw [rangeD_len] at k2
  simp only [List.length_nil] at k2
  obtain ⟨r5, a5, b5, h5, h5', e5⟩ := take_call a4 b4 5 (by decide) (by decide) (.own false (l.map D.int)) (.val (.int last)) s3
  obtain ⟨r6, a6, b6, h6, h6', e6⟩ := take_call a5 b5 5 (by decide) (by decide) (.own false (l.map D.int)) (.val (.int last)) s3
  obtain ⟨s, hs, es⟩ := pick5 h6 h6' r5 0 2 30 (10 ^ (50 : Int).toNat) ⟨h5, by decide, by decide, by decide, pow_nn⟩
  refine ⟨s, l, a6, b6, ⟨hs, k1.1, fun x hx => (k1.2.1 x hx).1⟩, by omega, ?_⟩
  refine runF_ok (e1 := [.own true (pl a6 b6), .val (.lst (l.map D.int)), .val (.int last), s3]) ?_ rfl (by decide) rfl
  have m1 : (f2 dMul (f2 dAt (fL (fLst (fCons (fC (.int 0)) (fCons (f2 dPow (fC (.int 10)) (fC (.int 50))) (fNil))))) (bd (rO 0 (rD (fC (.int 2)) (rNil))) (callR R__law_take))) (bd (rO 0 (rD (fC (.int 2)) (rNil))) (callR R__law_take))) [.own true (pl a b), .no, .no, .no] = .ok (.int (z * r2)) [.own true (pl a2 b2), .no, .no, .no] := by
    have q1 : (fL (fLst (fCons (fC (.int 0)) (fCons (f2 dPow (fC (.int 10)) (fC (.int 50))) (fNil))))) [.own true (pl a b), .no, .no, .no] = .ok (.lst [.int 0, .int (10 ^ (50 : Int).toNat)]) [.own true (pl a b), .no, .no, .no] := fL_ok (fLst_ok (fCons_ok rfl (fCons_ok pow50 fNil_eq)) (show 2 ≤ 16777216 by decide))
    exact Eq.trans (f2_ok (o := dMul) (Eq.trans (f2_ok (o := dAt) q1 e1) (ez _)) e2) (dMul_r (by omega))
  have st1 : (fParN 1 2 (fLst (fNil)) (f2 dMul (f2 dAt (fL (fLst (fCons (fC (.int 0)) (fCons (f2 dPow (fC (.int 10)) (fC (.int 50))) (fNil))))) (bd (rO 0 (rD (fC (.int 2)) (rNil))) (callR R__law_take))) (bd (rO 0 (rD (fC (.int 2)) (rNil))) (callR R__law_take)))) [.own true (pl a b), .no, .no, .no] = .ok .nx [.own true (pl a2 b2), .own false [], .val (.int (z * r2)), .no] := by
    unfold fParN
    refine Eq.trans (bd_ok (x := []) (e' := [.own true (pl a b), .no, .no, .no]) rfl) ?_
    rw [show refE [.own true (pl a b), .no, .no, .no] = [.own true (pl a b), .no, .no, .no] from rfl, m1]
    rfl
  refine fSeq_nx st1 (fSeq_nx (fFor_ok (e1 := [.own true (pl a3 b3), .own false [], .val (.int (z * r2)), .no]) (ds := rangeD 0 r3.toNat) (Eq.trans (bd_ok (fCons_ok e3 fNil_eq)) rfl) k3) (fRet_ok ?_))
  have q1 : (fL (fLst (fCons (bd (rO 0 (rD (fC (.int 5)) (rNil))) (callR R__law_take)) (fCons (fC (.int 0)) (fCons (fC (.int 2)) (fCons (fC (.int 30)) (fCons (f2 dPow (fC (.int 10)) (fC (.int 50))) (fNil)))))))) [.own true (pl a4 b4), .own false (l.map D.int), .val (.int last), s3] = .ok (.lst [.int r5, .int 0, .int 2, .int 30, .int (10 ^ (50 : Int).toNat)]) [.own true (pl a5 b5), .own false (l.map D.int), .val (.int last), s3] :=
    fL_ok (fLst_ok (fCons_ok e5 (fCons_ok rfl (fCons_ok rfl (fCons_ok rfl (fCons_ok pow50 fNil_eq))))) (show 5 ≤ 16777216 by decide))
  have q2 := Eq.trans (f2_ok (o := dAt) q1 e6) (es _)
  exact make_eq .l (by omega) ⟨hs, k1.1, fun x hx => (k1.2.1 x hx).1⟩ (fCons_ok q2 (fCons_ok rfl fNil_eq))
theorem runN_ok {n m : Nat} {g : M Fl} {as e1 : En} {ds : List D} (h : g (as ++ List.replicate (m - n) .no) = .ok (.rn ds) e1) (hn : as.length = n) (hm : n ≤ m) (hl : e1.length = m) : runN n m g as = .ok ds ((e1.take n).map keepR) := by
  unfold runN
  rw [if_pos ⟨hn, hm⟩, h]
  show (if e1.length = m then Res.ok ds ((e1.take n).map keepR) else .bad) = _
  rw [if_pos hl]
theorem atI_nat {α : Type} {xs : List α} {k : Int} (h0 : 0 ≤ k) (h1 : k < xs.length) : L2.atI xs k = some (xs[k.toNat]'(by omega)) := by
  unfold L2.atI L2.ixN
  rw [if_pos h0, if_pos h1]
  show xs[k.toNat]? = _
  exact List.getElem?_eq_getElem _
theorem pow18 {e : En} : (f2 dPow (fC (.int 10)) (fC (.int 18))) e = .ok (.int (10 ^ (18 : Int).toNat)) e := Eq.trans (f2_ok rfl rfl) (dPow_eq (by decide))
theorem pool_eq (ns : List Int) (k : Int) (h0 : 0 ≤ k) (h1 : k < 64) : ∃ a b, R__law_pool [.val (.scr ns), .val (.int k)] = .ok (pl a b) [.no, .no] := by
  have t1 : (fB (f2 dLt (fVar 1) (bd (fCons (fVar 0) (fNil)) (d1 oLen)))) [.val (.scr ns), .val (.int k), .val (.int 0), .no] = .ok (decide (k < ns.length)) [.val (.scr ns), .val (.int k), .val (.int 0), .no] := rfl
  have st : ∃ c, (fIf (fB (f2 dLt (fVar 1) (bd (fCons (fVar 0) (fNil)) (d1 oLen)))) (fSetT (bd (fCons (f2 dAt (fVar 0) (fVar 1)) (fNil)) (d1 oAbs)) (setV 2)) (pu .nx)) [.val (.scr ns), .val (.int k), .val (.int 0), .no] = .ok .nx [.val (.scr ns), .val (.int k), .val (.int c), .no] := by
    by_cases hk : k < ns.length
    · rw [decide_eq_true hk] at t1
      have hkn : k.toNat < ns.length := by omega
      have q1 : (f2 dAt (fVar 0) (fVar 1)) [.val (.scr ns), .val (.int k), .val (.int 0), .no] = .ok (.int ns[k.toNat]) [.val (.scr ns), .val (.int k), .val (.int 0), .no] := by
        refine Eq.trans (f2_ok (x := .scr ns) (y := .int k) rfl rfl) ?_
        unfold dAt
        show li ((L2.atI ns k).map D.int) _ = _
        rw [atI_nat h0 hk]
        rfl
      exact ⟨if ns[k.toNat] < 0 then -ns[k.toNat] else ns[k.toNat], fIf_t t1 (fSetT_ok (u := ()) (e1 := [.val (.scr ns), .val (.int k), .val (.int 0), .no]) (d1_ok' (fCons_ok q1 fNil_eq) rfl) rfl)⟩
    · rw [decide_eq_false hk] at t1
      exact ⟨0, fIf_f t1 rfl⟩
  obtain ⟨c, st⟩ := st
  have m1 : ∃ x, (f2 dMod (f2 dMul (f2 dAdd (f2 dAdd (f2 dAdd (f2 dMod (fVar 2) (fC (.int 2147483629))) (f2 dMul (f2 dMul (fC (.int 7919)) (fVar 1)) (fVar 1))) (f2 dMul (fC (.int 31)) (fVar 1))) (fC (.int 17))) (fC (.int 48271))) (fC (.int 2147483647))) [.val (.scr ns), .val (.int k), .val (.int c), .no] = .ok (.int x) [.val (.scr ns), .val (.int k), .val (.int c), .no] ∧ 0 ≤ x ∧ x < 2147483647 := by
    have q1 : (f2 dMod (fVar 2) (fC (.int 2147483629))) [.val (.scr ns), .val (.int k), .val (.int c), .no] = .ok (.int (c % 2147483629)) [.val (.scr ns), .val (.int k), .val (.int c), .no] := Eq.trans (f2_ok (x := .int c) (y := .int 2147483629) rfl rfl) (dMod_eq (by decide))
    have q2 : (f2 dMul (fC (.int 7919)) (fVar 1)) [.val (.scr ns), .val (.int k), .val (.int c), .no] = .ok (.int (7919 * k)) [.val (.scr ns), .val (.int k), .val (.int c), .no] := Eq.trans (f2_ok (x := .int 7919) (y := .int k) rfl rfl) (dMul_l (by decide))
    have q3 := Eq.trans (f2_ok (o := dMul) (fb := fVar 1) (y := .int k) q2 rfl) (dMul_r (by omega))
    have q4 := Eq.trans (f2_ok (o := dAdd) q1 q3) dAdd_eq
    have q5 : (f2 dMul (fC (.int 31)) (fVar 1)) [.val (.scr ns), .val (.int k), .val (.int c), .no] = .ok (.int (31 * k)) [.val (.scr ns), .val (.int k), .val (.int c), .no] := Eq.trans (f2_ok (x := .int 31) (y := .int k) rfl rfl) (dMul_l (by decide))
    have q6 := Eq.trans (f2_ok (o := dAdd) q4 q5) dAdd_eq
    have q7 := Eq.trans (f2_ok (o := dAdd) (fb := fC (.int 17)) q6 rfl) dAdd_eq
    have q8 := Eq.trans (f2_ok (o := dMul) (fb := fC (.int 48271)) q7 rfl) (dMul_r (by decide))
    have q9 := Eq.trans (f2_ok (o := dMod) (fb := fC (.int 2147483647)) q8 rfl) (dMod_eq (by decide))
    exact ⟨_, q9, Int.emod_nonneg _ (by decide), Int.emod_lt_of_pos _ (by decide)⟩
  obtain ⟨x, m1, hx⟩ := m1
  have q1 : (bd (fCons (f2 dGe (fVar 2) (f2 dPow (fC (.int 10)) (fC (.int 18)))) (fNil)) (d1 oInt)) [.val (.scr ns), .val (.int k), .val (.int c), .val (.int x)] = .ok (.int (if decide ((10 : Int) ^ (18 : Int).toNat ≤ c) = true then 1 else 0)) [.val (.scr ns), .val (.int k), .val (.int c), .val (.int x)] :=
    d1_ok' (fCons_ok (Eq.trans (f2_ok (o := dGe) (fa := fVar 2) (e := [.val (.scr ns), .val (.int k), .val (.int c), .val (.int x)]) (x := .int c) rfl pow18) dGe_eq) fNil_eq) rfl
  have q2 := Eq.trans (f2_ok (o := dMul) (fa := fVar 2) (e := [.val (.scr ns), .val (.int k), .val (.int c), .val (.int x)]) (x := .int c) rfl q1) (dMul_r (by split <;> decide))
  have q3 : (f2 dMul (fVar 3) (fVar 3)) [.val (.scr ns), .val (.int k), .val (.int c), .val (.int x)] = .ok (.int (x * x)) [.val (.scr ns), .val (.int k), .val (.int c), .val (.int x)] := Eq.trans (f2_ok (x := .int x) (y := .int x) rfl rfl) (dMul_r (by omega))
  have q4 := Eq.trans (f2_ok (o := dMod) (fb := fC (.int 2147483629)) q3 rfl) (dMod_eq (by decide))
  have r1 := fLst_ok (fCons_ok q2 (fCons_ok q4 fNil_eq)) (show 2 ≤ 16777216 by decide)
  refine ⟨c * (if decide ((10 : Int) ^ (18 : Int).toNat ≤ c) = true then 1 else 0), x * x % 2147483629, runN_ok (e1 := [.val (.scr ns), .val (.int k), .val (.int c), .val (.int x)]) ?_ rfl (by decide) rfl⟩
  exact fSeq_nx (e1 := [.val (.scr ns), .val (.int k), .val (.int 0), .no]) rfl (fSeq_nx st (fSeq_nx (fSetT_ok (u := ()) m1 rfl) (bd_ok r1)))

/-! ### the law -/
/-- what a slot holds ahead of, and behind, a turn -/
def sv : Option D → Sl
  | none => .no | some d => .val d
abbrev EL (ns : List Int) (s2 s3 : Sl) (o4 o5 o6 : Option D) : En := [.val (.scr ns), .val (tb 0 []), s2, s3, sv o4, sv o5, sv o6, .no]
theorem sv_ref (o : Option D) : (sv o).isRef = false := by cases o <;> rfl
theorem table_turn (ns : List Int) (k : D) (o4 o5 o6 : Option D) (a b : Int) (d : D) : ∃ s l a' b', Vl s l ∧ l.length ≤ 10 ∧ lcTurn [7] (setV 7) (pu true) (bd (rO 3 (rNil)) (callR R__law_table)) d (EL ns (.val k) (.own false (pl a b)) o4 o5 o6) = .ok (some (tb s l)) (EL ns (.val k) (.own false (pl a' b')) o4 o5 o6) := by
  obtain ⟨s, l, a', b', v, hl, e⟩ := table_eq a b
  refine ⟨s, l, a', b', v, hl, ?_⟩
  have q : ∀ (t4 t5 t6 : Sl), (bd (rO 3 (rNil)) (callR R__law_table)) [.val (.scr ns), .val (tb 0 []), .val k, .own true (pl a b), t4, t5, t6, .val d] = .ok (tb s l) [.val (.scr ns), .val (tb 0 []), .val k, .own true (pl a' b'), t4, t5, t6, .val d] := fun t4 t5 t6 => by
    refine Eq.trans (bd_ok (x := [.o 3]) (e' := [.val (.scr ns), .val (tb 0 []), .val k, .own true (pl a b), t4, t5, t6, .val d]) rfl) (Eq.trans (callR_o (as := [.o 3]) (e := [.val (.scr ns), .val (tb 0 []), .val k, .own true (pl a b), t4, t5, t6, .val d]) (os := [.own true (pl a' b')]) e rfl) ?_)
    rfl
  cases o4 <;> cases o5 <;> cases o6 <;> exact Eq.trans (lcTurn_t (e1 := [.val (.scr ns), .val (tb 0 []), .val k, .own true (pl a b), _, _, _, .val d]) (e2 := [.val (.scr ns), .val (tb 0 []), .val k, .own true (pl a b), _, _, _, .val d]) rfl rfl (q _ _ _) rfl) rfl
abbrev lBody : M Fl := (fSeq (fSetN 3 (bd (rD (fVar 0) (rD (fVar 2) (rNil))) (callN R__law_pool))) (fSeq (fSetT (fL (fLc (bd (fCons (fC (.int 3)) (fNil)) dRngW1) [7] (setV 7) (pu true) (bd (rO 3 (rNil)) (callR R__law_table)))) (gUnlD 3 (gConsD (setV 4) (gConsD (setV 5) (gConsD (setV 6) (gNilD)))))) (fSeq (fIf (fOr (fNot (fB (bd (rD (fVar 4) (rD (fVar 5) (rNil))) (callR R__law_two_right)))) (fOr (fNot (fB (bd (rD (fVar 5) (rD (fVar 6) (rNil))) (callR R__law_two_right)))) (fNot (fB (bd (rD (fVar 4) (rD (fVar 4) (rNil))) (callR R__law_two_right)))))) (fRet (fC (.bl false))) (pu .nx)) (fSeq (fIf (fOr (fB (f2 (d2n R_Table___eq__ "Table") (f2 (d2m R_Table___add__ "Table") (f2 (d2m R_Table___add__ "Table") (fVar 4) (fVar 5)) (fVar 6)) (f2 (d2m R_Table___add__ "Table") (fVar 4) (f2 (d2m R_Table___add__ "Table") (fVar 5) (fVar 6))))) (fOr (fB (f2 (d2n R_Table___eq__ "Table") (f2 (d2m R_Table___add__ "Table") (fVar 4) (fVar 1)) (fVar 4))) (fB (f2 (d2n R_Table___eq__ "Table") (f2 (d2m R_Table___add__ "Table") (fVar 1) (fVar 4)) (fVar 4))))) (fRet (fC (.bl false))) (pu .nx)) (fIf (fB (f2 dNe (bd (fCons (f2 (d2m R_Table___add__ "Table") (fVar 4) (fVar 5)) (fNil)) (dBoolO R_Table___bool__ "Table")) (f2 (d2n R_Table___eq__ "Table") (f2 (d2m R_Table___add__ "Table") (fVar 4) (fVar 5)) (fVar 1)))) (fRet (fC (.bl false))) (pu .nx))))))
theorem law_true : ∀ ns : List Int, ns.length ≤ 63 → ∃ e, R_law [.val (.scr ns)] = .ok (.bl true) e := by
  intro ns hn
  have nothing : (fMake "Table" R_Table___init__ (fCons (fC (.int 0)) (fCons (fTup (fNil)) (fNil)))) [.val (.scr ns), .no, .no, .no, .no, .no, .no, .no] = .ok (tb 0 []) [.val (.scr ns), .no, .no, .no, .no, .no, .no, .no] := make_eq (q := .tup (([] : List Int).map D.int)) .t (by decide) vl0 rfl
  let m : Int := if ns.length < 63 then ns.length else 63
  have rng : (bd (fCons (bd (fCons (fC (.int 3)) (fCons (bd (fCons (fC (.int 63)) (fCons (bd (fCons (fVar 0) (fNil)) (d1 oLen)) (fNil))) (d2 oMin)) (fNil))) (d2 oMax)) (fNil)) dRngW1) (EL ns .no .no none none none) = .ok (rangeD 0 (if (if (ns.length : Int) < 63 then (ns.length : Int) else 63) > 3 then (if (ns.length : Int) < 63 then (ns.length : Int) else 63) else 3).toNat) (EL ns .no .no none none none) := rfl
  obtain ⟨e', ⟨s2, s3, o4, o5, o6, h2, h3, rfl⟩, loop⟩ := forL_inv (t := setV 2)
    (body := lBody)
    (I := fun e => ∃ s2 s3 o4 o5 o6, s2.isRef = false ∧ s3.isRef = false ∧ e = EL ns s2 s3 o4 o5 o6) (ds := (rngI 0 (if (if (ns.length : Int) < 63 then (ns.length : Int) else 63) > 3 then (if (ns.length : Int) < 63 then (ns.length : Int) else 63) else 3).toNat).map D.int) (e := EL ns .no .no none none none) ⟨.no, .no, none, none, none, rfl, rfl, rfl⟩ (fun d hd e ⟨s2, s3, o4, o5, o6, h2, h3, he⟩ => by
      subst he
      obtain ⟨k, hk, rfl⟩ := List.mem_map.mp hd
      have hk0 := rngI_ge hk
      have hk1 : k < 64 := by
        obtain ⟨i, hi, rfl⟩ := List.mem_map.mp hk
        have hi := List.mem_range.mp hi
        split at hi <;> split at hi <;> omega
      obtain ⟨a, b, ep⟩ := pool_eq ns k hk0 hk1
      obtain ⟨sa, la, a1, b1, va, ha, t1⟩ := table_turn ns (.int k) o4 o5 o6 a b (.int (0 + (0 : Nat)))
      obtain ⟨sb, lb, a2, b2, vb, hb, t2⟩ := table_turn ns (.int k) o4 o5 o6 a1 b1 (.int (0 + (1 : Nat)))
      obtain ⟨sc, lc, a3, b3, vc, hc, t3⟩ := table_turn ns (.int k) o4 o5 o6 a2 b2 (.int (0 + (2 : Nat)))
      let EF : En := EL ns (.val (.int k)) (.own false (pl a3 b3)) (some (tb sa la)) (some (tb sb lb)) (some (tb sc lc))
      refine ⟨EF, ⟨.val (.int k), .own false (pl a3 b3), some (tb sa la), some (tb sb lb), some (tb sc lc), rfl, rfl, rfl⟩, ?_⟩
      refine Eq.trans (bd_ok (noExc_ok (setV_ok (s := s2) rfl h2))) ?_
      -- the pool
      have p1 : (bd (rD (fVar 0) (rD (fVar 2) (rNil))) (callN R__law_pool)) (EL ns (.val (.int k)) s3 o4 o5 o6) = .ok (pl a b) (EL ns (.val (.int k)) s3 o4 o5 o6) := by
        refine Eq.trans (bd_ok (x := [.d (.scr ns), .d (.int k)]) (e' := EL ns (.val (.int k)) s3 o4 o5 o6) rfl) ?_
        unfold callN
        rw [if_pos (show noDup (owns [Ar.d (.scr ns), Ar.d (.int k)]) = true from rfl), show [Ar.d (.scr ns), Ar.d (.int k)].map (toSl (EL ns (.val (.int k)) s3 o4 o5 o6)) = [.val (.scr ns), .val (.int k)] from rfl, ep]
        show Res.ok _ (putO ([D.scr ns, D.int k].map Ar.d) _ _) = _
        rw [putO_d]
      have p2 : (fSetN 3 (bd (rD (fVar 0) (rD (fVar 2) (rNil))) (callN R__law_pool))) (EL ns (.val (.int k)) s3 o4 o5 o6) = .ok .nx (EL ns (.val (.int k)) (.own false (pl a b)) o4 o5 o6) := by
        unfold fSetN
        rw [bd_ok p1]
        have : setO 3 (pl a b) (EL ns (.val (.int k)) s3 o4 o5 o6) = .ok () (EL ns (.val (.int k)) (.own false (pl a b)) o4 o5 o6) := by
          unfold setO
          show (if s3.isRef = true then Res.bad else Res.ok () _) = _
          rw [if_neg (by simp [h3])]
          rfl
        rw [bd_ok this]
        rfl
      -- three tables
      have c1 : (fLc (bd (fCons (fC (.int 3)) (fNil)) dRngW1) [7] (setV 7) (pu true) (bd (rO 3 (rNil)) (callR R__law_table))) (EL ns (.val (.int k)) (.own false (pl a b)) o4 o5 o6) = .ok [tb sa la, tb sb lb, tb sc lc] (EL ns (.val (.int k)) (.own false (pl a3 b3)) o4 o5 o6) := by
        unfold fLc
        refine Eq.trans (bd_ok (x := rangeD 0 3) (e' := EL ns (.val (.int k)) (.own false (pl a b)) o4 o5 o6) rfl) ?_
        have lp : lcLoop [7] (setV 7) (pu true) (bd (rO 3 (rNil)) (callR R__law_table)) (rangeD 0 3) (EL ns (.val (.int k)) (.own false (pl a b)) o4 o5 o6) = .ok [tb sa la, tb sb lb, tb sc lc] (EL ns (.val (.int k)) (.own false (pl a3 b3)) o4 o5 o6) := by
          show lcLoop _ _ _ _ [.int (0 + (0 : Nat)), .int (0 + (1 : Nat)), .int (0 + (2 : Nat))] _ = _
          unfold lcLoop
          rw [bd_ok t1]
          unfold lcLoop
          rw [bd_ok (Eq.trans (bd_ok t2) (by unfold lcLoop; rw [bd_ok (Eq.trans (bd_ok t3) (bd_ok (x := []) rfl))]; rfl))]
          rfl
        show (if (rangeD 0 3).length ≤ 16777216 ∧ noOwn [7] (EL ns (.val (.int k)) (.own false (pl a b)) o4 o5 o6) = true then (match lcLoop [7] (setV 7) (pu true) (bd (rO 3 (rNil)) (callR R__law_table)) (rangeD 0 3) (wipeE [7] (EL ns (.val (.int k)) (.own false (pl a b)) o4 o5 o6)) with
          | .ok r e' => Res.ok r (restE [7] (EL ns (.val (.int k)) (.own false (pl a b)) o4 o5 o6) e') | _ => .bad) else .bad) = _
        rw [if_pos ⟨by decide, rfl⟩, show wipeE [7] (EL ns (.val (.int k)) (.own false (pl a b)) o4 o5 o6) = EL ns (.val (.int k)) (.own false (pl a b)) o4 o5 o6 from rfl, lp]
        rfl
      have p3 : (fSetT (fL (fLc (bd (fCons (fC (.int 3)) (fNil)) dRngW1) [7] (setV 7) (pu true) (bd (rO 3 (rNil)) (callR R__law_table)))) (gUnlD 3 (gConsD (setV 4) (gConsD (setV 5) (gConsD (setV 6) (gNilD)))))) (EL ns (.val (.int k)) (.own false (pl a b)) o4 o5 o6) = .ok .nx EF := by
        refine fSetT_ok (u := ()) (fL_ok c1) ?_
        cases o4 <;> cases o5 <;> cases o6 <;> rfl
      -- what is asked of them
      have w : ∀ {i j : Nat} {s t : Int} {l r : List Int}, Vl s l → Vl t r → l.length ≤ 10 → r.length ≤ 10 → fVar i EF = .ok (tb s l) EF → fVar j EF = .ok (tb t r) EF → (fNot (fB (bd (rD (fVar i) (rD (fVar j) (rNil))) (callR R__law_two_right)))) EF = .ok false EF := fun {i j s t l r} v u hl hr hi hj =>
        fNot_ok (b := true) (fB_ok (Eq.trans (bd_ok (rD_ok hi (rD_ok hj rNil_eq))) (callR2 (two_right v u (by omega) (by omega)))))
      have q1 : (fOr (fNot (fB (bd (rD (fVar 4) (rD (fVar 5) (rNil))) (callR R__law_two_right)))) (fOr (fNot (fB (bd (rD (fVar 5) (rD (fVar 6) (rNil))) (callR R__law_two_right)))) (fNot (fB (bd (rD (fVar 4) (rD (fVar 4) (rNil))) (callR R__law_two_right)))))) EF = .ok false EF :=
        fOr_f (w va vb ha hb rfl rfl) (fOr_f (w vb vc hb hc rfl rfl) (w va va ha ha rfl rfl))
      have hab : (sumL sa la lb).length ≤ 20 := by
        have := len_sum sa la lb
        have := cnt_nn lb sa
        omega
      have hbc : (sumL sb lb lc).length ≤ 20 := by
        have := len_sum sb lb lc
        have := cnt_nn lc sb
        omega
      have f4 : fVar 4 EF = .ok (tb sa la) EF := rfl
      have f5 : fVar 5 EF = .ok (tb sb lb) EF := rfl
      have f6 : fVar 6 EF = .ok (tb sc lc) EF := rfl
      have f1 : fVar 1 EF = .ok (tb 0 []) EF := rfl
      have ab := Eq.trans (f2_ok (o := d2m R_Table___add__ "Table") f4 f5) (d2m_ok (add_eq va vb (by omega) (by omega)))
      have bc := Eq.trans (f2_ok (o := d2m R_Table___add__ "Table") f5 f6) (d2m_ok (add_eq vb vc (by omega) (by omega)))
      have ab_c := Eq.trans (f2_ok (o := d2m R_Table___add__ "Table") ab f6) (d2m_ok (add_eq (sum_vl va vb) vc (by omega) (by omega)))
      have a_bc := Eq.trans (f2_ok (o := d2m R_Table___add__ "Table") f4 bc) (d2m_ok (add_eq va (sum_vl vb vc) (by omega) (by omega)))
      have a0 := Eq.trans (f2_ok (o := d2m R_Table___add__ "Table") f4 f1) (d2m_ok (add_eq va vl0 (by omega) (by decide)))
      have oa := Eq.trans (f2_ok (o := d2m R_Table___add__ "Table") f1 f4) (d2m_ok (add_eq vl0 va (by decide) (by omega)))
      have n1 := fB_ok (Eq.trans (f2_ok (o := d2n R_Table___eq__ "Table") ab_c a_bc) (d2n_ok (eq_eq _ _ _ _)))
      rw [decide_eq_true (assoc va vb vc).1, decide_eq_true (assoc va vb vc).2] at n1
      have n2 := fB_ok (Eq.trans (f2_ok (o := d2n R_Table___eq__ "Table") a0 f4) (d2n_ok (eq_eq _ _ _ _)))
      rw [decide_eq_true (zero_r va).1, decide_eq_true (zero_r va).2] at n2
      have n3 := fB_ok (Eq.trans (f2_ok (o := d2n R_Table___eq__ "Table") oa f4) (d2n_ok (eq_eq _ _ _ _)))
      rw [decide_eq_true (zero_l va).1, decide_eq_true (zero_l va).2] at n3
      have ne := Eq.trans (f2_ok (o := d2n R_Table___eq__ "Table") ab f1) (d2n_ok (eq_eq _ _ _ _))
      have bo : (bd (fCons (f2 (d2m R_Table___add__ "Table") (fVar 4) (fVar 5)) (fNil)) (dBoolO R_Table___bool__ "Table")) EF = .ok (.bl (decide (0 < aft sb lb sa) || decide (0 < ((sumL sa la lb).length : Int)))) EF := by
        refine Eq.trans (bd_ok (fCons_ok ab fNil_eq)) ?_
        have d1 : d1m R_Table___bool__ "Table" (tb (aft sb lb sa) (sumL sa la lb)) EF = .ok (.bl (decide (0 < aft sb lb sa) || decide (0 < ((sumL sa la lb).length : Int)))) EF := by
          show (if ("Table" : Str) = "Table" then noExc (callR R_Table___bool__ [.d (tb (aft sb lb sa) (sumL sa la lb))]) else fun _ => Res.bad) EF = _
          rw [if_pos rfl]
          exact noExc_ok (callR1 (bool_eq _ _))
        exact Eq.trans (bd_ok d1) rfl
      have n4 := fB_ok (Eq.trans (f2_ok (o := dNe) bo ne) dNe_bl)
      have same : (decide (0 < aft sb lb sa) || decide (0 < ((sumL sa la lb).length : Int))) = !(decide (aft sb lb sa = 0) && decide (sumL sa la lb = [])) := by
        have := aft_nn vb va.s0
        by_cases g1 : aft sb lb sa = 0
        · by_cases g2 : sumL sa la lb = []
          · simp [g1, g2]
          · have : 0 < (sumL sa la lb).length := List.length_pos_iff.mpr g2
            simp [g1, g2, this]
        · have : 0 < aft sb lb sa := by omega
          simp [g1, this]
      rw [same, beq_self_eq_true] at n4
      refine fSeq_nx p2 (fSeq_nx p3 (fSeq_nx (fIf_f q1 rfl) (fSeq_nx (fIf_f (fOr_f n1 (fOr_f n2 n3)) rfl) (fIf_f n4 rfl))))
      )
  refine ⟨_, runF_ok (e1 := EL ns s2 s3 o4 o5 o6) ?_ rfl (by decide) rfl⟩
  refine fSeq_nx (e1 := EL ns .no .no none none none) (fSetT_ok (u := ()) nothing rfl) ?_
  exact fSeq_nx (fFor_ok rng (by rw [rngI_eq]; exact loop)) rfl
end Dl.k07

open PySem PySem.W PyProof.Rows
set_option maxRecDepth 100000 in
set_option maxHeartbeats 0 in
theorem PySem.Challenge.cw_rankeffect_k07_whole_composed_tables_holds : PySem.Challenge.rw_rankeffect_k07_whole_composed_tables.Holds := by
  w_on; o_law; k_head; (case hw => w_witness2)
  k_fill
  refine Dl.walk (l := PySem.Challenge.rw_rankeffect_k07_whole_composed_tables) (k := 8) (x := "_law_script") rfl rfl ⟨rfl, by decide, by decide⟩ (fun w h Y => PySem.W.kIn_of Y) ?F
  case F =>
    intro w mg fa h KX G hmg
    refine' Dl.k07.all_mk KX G hmg ?a_Table ?pg_Table ?hd_Table ?po_Table ?sa_Table ?sf_Table ?n_b_isinstance ?n_b_int ?n_b_bool ?n_b_list ?n_b_tuple ?n_b_all ?n_b_zip ?n_f_Table_base ?n_f_Table_gone ?n_b_len ?n_b_abs ?n_b_range ?n_b_sorted ?n_b_max ?t1_ko_Table ?t2_ko_Table ?ic1_Table ?ic2_Table ?ic3_Table ?ic4_Table ?n_b_min ?n1_ne_Table ?n2_ne_Table ?a_is_integer ?l_is_integer ?c_is_integer ?k_is_integer ?a_is_count ?l_is_count ?c_is_count ?k_is_count ?a_is_rank ?l_is_rank ?c_is_rank ?k_is_rank ?a_are_lost_ranks ?l_are_lost_ranks ?c_are_lost_ranks ?k_are_lost_ranks ?a_Table___init__ ?i_Table___init__ ?l_Table___init__ ?c_Table___init__ ?k_Table___init__ ?mk_Table ?kc_Table ?a__law_pool ?l__law_pool ?c__law_pool ?k__law_pool ?a__law_take ?l__law_take ?c__law_take ?k__law_take ?a__law_table ?l__law_table ?c__law_table ?k__law_table ?a_least_reaching ?l_least_reaching ?c_least_reaching ?k_least_reaching ?a_after ?l_after ?c_after ?k_after ?a_Table___add__ ?i_Table___add__ ?l_Table___add__ ?c_Table___add__ ?k_Table___add__ ?a_Table_lost ?pa_Table_lost ?pb_Table_lost ?pc_Table_lost ?l_Table_lost ?c_Table_lost ?k_Table_lost ?a_check_count ?l_check_count ?c_check_count ?k_check_count ?a_Table_least ?i_Table_least ?l_Table_least ?c_Table_least ?k_Table_least ?a_Table___call__ ?i_Table___call__ ?l_Table___call__ ?c_Table___call__ ?k_Table___call__ ?fi_Table___call__ ?a_Table_start ?pa_Table_start ?pb_Table_start ?pc_Table_start ?l_Table_start ?c_Table_start ?k_Table_start ?a_Table_growth ?pa_Table_growth ?pb_Table_growth ?pc_Table_growth ?l_Table_growth ?c_Table_growth ?k_Table_growth ?a__law_two_right ?l__law_two_right ?c__law_two_right ?k__law_two_right ?a_Table___eq__ ?i_Table___eq__ ?l_Table___eq__ ?c_Table___eq__ ?k_Table___eq__ ?a_Table___bool__ ?i_Table___bool__ ?l_Table___bool__ ?c_Table___bool__ ?k_Table___bool__ ?a_law ?l_law ?c_law ?k_law Dl.k07.law_true
    (case a_Table => k_is)
    (case pg_Table => k_is)
    (case hd_Table => k_is)
    (case po_Table => k_is)
    (case sa_Table => k_is)
    (case sf_Table => k_is)
    (case n_b_isinstance => k_is)
    (case n_b_int => k_is)
    (case n_b_bool => k_is)
    (case n_b_list => k_is)
    (case n_b_tuple => k_is)
    (case n_b_all => k_is)
    (case n_b_zip => k_is)
    (case n_f_Table_base => k_is)
    (case n_f_Table_gone => k_is)
    (case n_b_len => k_is)
    (case n_b_abs => k_is)
    (case n_b_range => k_is)
    (case n_b_sorted => k_is)
    (case n_b_max => k_is)
    (case t1_ko_Table => k_is)
    (case t2_ko_Table => k_is)
    (case ic1_Table => k_is)
    (case ic2_Table => k_is)
    (case ic3_Table => k_is)
    (case ic4_Table => k_is)
    (case n_b_min => k_is)
    (case n1_ne_Table => k_is)
    (case n2_ne_Table => k_is)
    (case a_is_integer => k_is)
    (case l_is_integer => k_is)
    (case c_is_integer => k_is)
    (case k_is_integer => k_is)
    (case a_is_count => k_is)
    (case l_is_count => k_is)
    (case c_is_count => k_is)
    (case k_is_count => k_is)
    (case a_is_rank => k_is)
    (case l_is_rank => k_is)
    (case c_is_rank => k_is)
    (case k_is_rank => k_is)
    (case a_are_lost_ranks => k_is)
    (case l_are_lost_ranks => k_is)
    (case c_are_lost_ranks => k_is)
    (case k_are_lost_ranks => k_is)
    (case a_Table___init__ => k_is)
    (case i_Table___init__ => k_is)
    (case l_Table___init__ => k_is)
    (case c_Table___init__ => k_is)
    (case k_Table___init__ => k_is)
    (case mk_Table => k_is)
    (case kc_Table => k_is)
    (case a__law_pool => k_is)
    (case l__law_pool => k_is)
    (case c__law_pool => k_is)
    (case k__law_pool => k_is)
    (case a__law_take => k_is)
    (case l__law_take => k_is)
    (case c__law_take => k_is)
    (case k__law_take => k_is)
    (case a__law_table => k_is)
    (case l__law_table => k_is)
    (case c__law_table => k_is)
    (case k__law_table => k_is)
    (case a_least_reaching => k_is)
    (case l_least_reaching => k_is)
    (case c_least_reaching => k_is)
    (case k_least_reaching => k_is)
    (case a_after => k_is)
    (case l_after => k_is)
    (case c_after => k_is)
    (case k_after => k_is)
    (case a_Table___add__ => k_is)
    (case i_Table___add__ => k_is)
    (case l_Table___add__ => k_is)
    (case c_Table___add__ => k_is)
    (case k_Table___add__ => k_is)
    (case a_Table_lost => k_is)
    (case pa_Table_lost => k_is)
    (case pb_Table_lost => k_is)
    (case pc_Table_lost => k_is)
    (case l_Table_lost => k_is)
    (case c_Table_lost => k_is)
    (case k_Table_lost => k_is)
    (case a_check_count => k_is)
    (case l_check_count => k_is)
    (case c_check_count => k_is)
    (case k_check_count => k_is)
    (case a_Table_least => k_is)
    (case i_Table_least => k_is)
    (case l_Table_least => k_is)
    (case c_Table_least => k_is)
    (case k_Table_least => k_is)
    (case a_Table___call__ => k_is)
    (case i_Table___call__ => k_is)
    (case l_Table___call__ => k_is)
    (case c_Table___call__ => k_is)
    (case k_Table___call__ => k_is)
    (case fi_Table___call__ => k_is)
    (case a_Table_start => k_is)
    (case pa_Table_start => k_is)
    (case pb_Table_start => k_is)
    (case pc_Table_start => k_is)
    (case l_Table_start => k_is)
    (case c_Table_start => k_is)
    (case k_Table_start => k_is)
    (case a_Table_growth => k_is)
    (case pa_Table_growth => k_is)
    (case pb_Table_growth => k_is)
    (case pc_Table_growth => k_is)
    (case l_Table_growth => k_is)
    (case c_Table_growth => k_is)
    (case k_Table_growth => k_is)
    (case a__law_two_right => k_is)
    (case l__law_two_right => k_is)
    (case c__law_two_right => k_is)
    (case k__law_two_right => k_is)
    (case a_Table___eq__ => k_is)
    (case i_Table___eq__ => k_is)
    (case l_Table___eq__ => k_is)
    (case c_Table___eq__ => k_is)
    (case k_Table___eq__ => k_is)
    (case a_Table___bool__ => k_is)
    (case i_Table___bool__ => k_is)
    (case l_Table___bool__ => k_is)
    (case c_Table___bool__ => k_is)
    (case k_Table___bool__ => k_is)
    (case a_law => k_is)
    (case l_law => k_is)
    (case c_law => k_is)
    (case k_law => k_is)

