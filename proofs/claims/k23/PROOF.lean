import PyProof.Rows.All
import Wide.All
import OpenK.AllK
import Wide.FinOn
import HandS.ForMost
import HandS.Wide
import HandS.Style
import HandS.TupLen
import HandS.TupAny
import HandS.IsInst
import HandS.Property
import HandS.Zip
import HandS.Flow
import KE.KDictZip
import KE.GoesMore
import KE.KItemsList
import KE.DataMinMax
import KE.KDictKeyed
import PySem.Str
import PySem.Challenge.RW_butfewrows_k23_whole_least_wrong
set_option Elab.async false
set_option linter.all false
set_option maxRecDepth 100000
set_option maxHeartbeats 4000000
namespace B
open PySem L2

structure MR (α : Type) where
  rel : Hp → V → α → Prop
  mono : ∀ {G G' : Hp} {v : V} {x : α}, Same G G' → rel G v x → rel G' v x
inductive SS : Type 1
  | no
  | own (j : Nat)
  | is {α : Type} (R : MR α) (x : α)
structure OS where
  rel : Addr → Hp → HO → Prop
  mono : ∀ {a : Addr} {G G' : Hp} {o : HO}, Same G G' → rel a G o → rel a G' o
  nt : ∀ {a : Addr} {G : Hp} {o : HO}, rel a G o → ∀ xs, o ≠ .tup xs
def NewOk (H : Hp) (a : Addr) : Prop := ∀ o, H a = some o → ∃ xs, o = .tup xs
theorem NewOk.of {H : Hp} {a : Addr} (h : H a = none) : NewOk H a := fun o e => by
  rw [h] at e
  cases e
abbrev Sl := List SS
abbrev Mo := List (Option OS)
def SS.ok (as : List Addr) (G : Hp) : SS → Option V → Prop
  | .no, _ => True
  | .own j, v => ∃ a, as[j]? = some a ∧ v = some (.ref a)
  | .is R x, v => ∃ u, v = some u ∧ R.rel G u x
theorem SS.ok_mono {as : List Addr} {G G' : Hp} (e : Same G G') : ∀ {s : SS} {v : Option V}, s.ok as G v → s.ok as G' v
  | .no, _, _ => trivial
  | .own _, _, h => h
  | .is R _, _, ⟨u, e1, h⟩ => ⟨u, e1, R.mono e h⟩
theorem SS.ok_ext {as bs : List Addr} {G : Hp} (e : ∀ (j : Nat) a, as[j]? = some a → bs[j]? = some a) : ∀ {s : SS} {v : Option V}, s.ok as G v → s.ok bs G v
  | .no, _, _ => trivial
  | .own j, _, ⟨a, h, q⟩ => ⟨a, e j a h, q⟩
  | .is _ _, _, h => h
structure Sat (as : List Addr) (G : Hp) (S : Sl) (σ : L2.St) : Prop where
  len : S.length = σ.length
  at_ : ∀ (i : Nat) s v, S[i]? = some s → σ[i]? = some v → s.ok as G v
abbrev RS := Option (Addr × Addr)
def RsOk (rs : RS) (H0 H G : Hp) (as : List Addr) : Prop := ∀ h c, rs = some (h, c) → h ≠ c ∧ h ∉ as ∧ c ∉ as ∧ H0 h = none ∧ H0 c = none ∧ G h = none ∧ G c = none ∧
  ∃ (st ix : Int) (cells : List Int), 0 ≤ ix ∧ cells.length ≤ 63 ∧ H h = some (.lst [.int st, .ref c, .int ix]) ∧ H c = some (.lst (cells.map V.int))
structure Zt (rs : RS) (H0 G0 H G : Hp) (as : List Addr) (M : Mo) (S : Sl) (σ : L2.St) : Prop where
  h : Same H0 H
  g : Same G0 G
  sub : Same G H
  new : ∀ a, G0 a = none → G a ≠ none → NewOk H0 a
  len : as.length = M.length
  nd : as.Nodup
  fresh : ∀ a ∈ as, H0 a = none
  alive : ∀ a ∈ as, H a ≠ none
  own : ∀ (j : Nat) a (O : OS), as[j]? = some a → M[j]? = some (some O) → G a = none ∧ ∃ o, H a = some o ∧ O.rel a G o
  rsok : RsOk rs H0 H G as
  sat : Sat as G S σ

theorem same_new {H : Hp} {p : Addr} {o : HO} (h : H p = none) : Same H (upd H p o) := fun b x e => by
  rw [upd_ne (ne_of_none e h)]
  exact e
theorem same_mut {H0 H : Hp} {p : Addr} {o : HO} (e : Same H0 H) (h : H0 p = none) : Same H0 (upd H p o) := fun b x q => by
  rw [upd_ne (ne_of_none q h)]
  exact e b x q
theorem same_both {G H : Hp} {p : Addr} {o : HO} (e : Same G H) : Same (upd G p o) (upd H p o) := fun b x q => by
  by_cases hb : b = p
  · subst hb
    rw [upd_same] at q ⊢
    exact q
  · rw [upd_ne hb] at q ⊢
    exact e b x q
theorem none_sub {G H : Hp} {p : Addr} (e : Same G H) (h : H p = none) : G p = none := Same.free e h

section
variable {rs : RS} {H0 G0 H G H' G' : Hp} {as : List Addr} {M : Mo} {S : Sl} {σ : L2.St}
theorem Zt.step (Z : Zt rs H0 G0 H G as M S σ) (h : Same H H') (g : Same G G') (sub : Same G' H') (new : ∀ a, G a = none → G' a ≠ none → NewOk H a) : Zt rs H0 G0 H' G' as M S σ where
  h := Z.h.trans h
  g := Z.g.trans g
  sub := sub
  new := fun a h1 h2 => by
    by_cases hg : G a = none
    · exact fun o e => new a hg h2 o (Z.h a o e)
    · exact Z.new a h1 hg
  len := Z.len
  nd := Z.nd
  fresh := Z.fresh
  alive := fun a ha e => Z.alive a ha (none_sub h e)
  own := fun j a O ha hO => by
    obtain ⟨h1, o, h2, h3⟩ := Z.own j a O ha hO
    refine ⟨Classical.byContradiction fun hn => ?_, o, h a o h2, O.mono g h3⟩
    obtain ⟨xs, e⟩ := new a h1 hn o h2
    exact O.nt h3 xs e
  rsok := fun p c e => by
    obtain ⟨r1, r2, r3, r4, r5, r6, r7, st, ix, cells, r8, r9, r10, r11⟩ := Z.rsok p c e
    refine ⟨r1, r2, r3, r4, r5, Classical.byContradiction fun hn => ?_, Classical.byContradiction fun hn => ?_, st, ix, cells, r8, r9, h _ _ r10, h _ _ r11⟩
    · obtain ⟨xs, e⟩ := new p r6 hn _ r10
      cases e
    · obtain ⟨xs, e⟩ := new c r7 hn _ r11
      cases e
  sat := ⟨Z.sat.len, fun i s v h1 h2 => SS.ok_mono g (Z.sat.at_ i s v h1 h2)⟩
theorem Zt.new_ (Z : Zt rs H0 G0 H G as M S σ) {p : Addr} {o : HO} (hp : H p = none) : Zt rs H0 G0 (upd H p o) (upd G p o) as M S σ ∧ Same G (upd G p o) := by
  have gp := none_sub Z.sub hp
  refine ⟨Z.step (same_new hp) (same_new gp) (same_both Z.sub) fun a h1 h2 => ?_, same_new gp⟩
  by_cases e : a = p
  · rw [e]
    exact NewOk.of hp
  · rw [upd_ne e] at h2
    exact absurd h1 h2
theorem Zt.adopt (Z : Zt rs H0 G0 H G as M S σ) {p : Addr} {xs : List V} (hp : H p = some (.tup xs)) : Zt rs H0 G0 H (upd G p (.tup xs)) as M S σ ∧ Same G (upd G p (.tup xs)) := by
  have g : Same G (upd G p (.tup xs)) := fun b o e => by
    by_cases hb : b = p
    · subst hb
      have := Z.sub _ _ e
      rw [hp] at this
      rw [upd_same]
      exact this
    · rw [upd_ne hb]
      exact e
  refine ⟨Z.step (Same.refl H) g (fun b o e => ?_) fun a h1 h2 => ?_, g⟩
  · by_cases hb : b = p
    · subst hb
      rw [upd_same] at e
      rw [hp]
      exact e
    · rw [upd_ne hb] at e
      exact Z.sub _ _ e
  · by_cases e : a = p
    · subst e
      intro o ho
      rw [hp] at ho
      cases ho
      exact ⟨xs, rfl⟩
    · rw [upd_ne e] at h2
      exact absurd h1 h2
theorem Zt.junk (Z : Zt rs H0 G0 H G as M S σ) {p : Addr} {o : HO} (hp : H p = none) : Zt rs H0 G0 (upd H p o) G as M S σ :=
  Z.step (same_new hp) (Same.refl G) (fun a x e => same_new hp a x (Z.sub a x e)) fun a h1 h2 => absurd h1 h2
theorem Zt.owned (Z : Zt rs H0 G0 H G as M S σ) {p : Addr} {o : HO} {O : OS} (hp : H p = none) (hO : O.rel p G o) : Zt rs H0 G0 (upd H p o) G (as ++ [p]) (M ++ [some O]) S σ := by
  have np : p ∉ as := fun hm => Z.alive p hm hp
  have W := Z.junk (o := o) hp
  refine ⟨W.h, W.g, W.sub, W.new, by simp [Z.len], ?_, ?_, ?_, ?_, ?_, W.sat.len, ?_⟩
  · rw [List.nodup_append]
    exact ⟨Z.nd, by simp, fun a ha b hb => by
      rw [List.mem_singleton] at hb
      rw [hb]
      exact fun e => np (e ▸ ha)⟩
  · intro a ha
    rcases List.mem_append.mp ha with h | h
    · exact Z.fresh a h
    · rw [List.mem_singleton.mp h]
      exact none_sub Z.h hp
  · intro a ha e
    rcases List.mem_append.mp ha with h | h
    · exact W.alive a h e
    · rw [List.mem_singleton.mp h, upd_same] at e
      cases e
  · intro j a O' ha hO'
    by_cases hj : j < as.length
    · rw [List.getElem?_append_left hj] at ha
      rw [List.getElem?_append_left (by rw [← Z.len]; exact hj)] at hO'
      exact W.own j a O' ha hO'
    · rw [List.getElem?_append_right (by omega)] at ha
      rw [List.getElem?_append_right (by have := Z.len; omega)] at hO'
      have e0 : j - as.length = 0 := by
        have := (List.getElem?_eq_some_iff.mp ha).1
        simp at this
        omega
      rw [e0] at ha
      rw [← Z.len, e0] at hO'
      have ea : p = a := Option.some.inj ha
      have eO : O = O' := Option.some.inj (Option.some.inj hO')
      subst ea eO
      exact ⟨none_sub Z.sub hp, o, upd_same, hO⟩
  · intro q c e
    obtain ⟨r1, r2, r3, r4, r5, r6, r7, st, ix, cells, r8, r9, r10, r11⟩ := W.rsok q c e
    obtain ⟨_, _, _, _, _, _, _, st', ix', cells', _, _, q10, q11⟩ := Z.rsok q c e
    refine ⟨r1, ?_, ?_, r4, r5, r6, r7, st, ix, cells, r8, r9, r10, r11⟩
    · rw [List.mem_append, List.mem_singleton]
      rintro (h | h)
      · exact r2 h
      · exact ne_of_none q10 hp h
    · rw [List.mem_append, List.mem_singleton]
      rintro (h | h)
      · exact r3 h
      · exact ne_of_none q11 hp h
  · intro i s v h1 h2
    refine SS.ok_ext (fun j a ha => ?_) (W.sat.at_ i s v h1 h2)
    rw [List.getElem?_append_left (List.getElem?_eq_some_iff.mp ha).1]
    exact ha
theorem Zt.mut (Z : Zt rs H0 G0 H G as M S σ) {j : Nat} {a : Addr} {O O' : OS} {o : HO} (ha : as[j]? = some a) (hM : M[j]? = some (some O)) (hO : O'.rel a G o) : Zt rs H0 G0 (upd H a o) G as (M.set j (some O')) S σ := by
  have ham : a ∈ as := List.mem_of_getElem? ha
  have ga := (Z.own j a O ha hM).1
  refine ⟨same_mut Z.h (Z.fresh a ham), Z.g, same_mut Z.sub ga, Z.new, by simp [Z.len], Z.nd, Z.fresh, ?_, ?_, ?_, Z.sat⟩
  · intro b hb e
    by_cases hba : b = a
    · rw [hba, upd_same] at e
      cases e
    · rw [upd_ne hba] at e
      exact Z.alive b hb e
  · intro i b O1 hb hM1
    by_cases hij : j = i
    · subst hij
      have eb : a = b := Option.some.inj (ha.symm.trans hb)
      subst eb
      rw [List.getElem?_set_self (List.getElem?_eq_some_iff.mp hM).1] at hM1
      have eO : O' = O1 := Option.some.inj (Option.some.inj hM1)
      subst eO
      exact ⟨ga, o, upd_same, hO⟩
    · rw [List.getElem?_set_ne hij] at hM1
      obtain ⟨h1, o1, h2, h3⟩ := Z.own i b O1 hb hM1
      refine ⟨h1, o1, ?_, h3⟩
      have hne : b ≠ a := fun e => hij ((List.getElem?_inj (List.getElem?_eq_some_iff.mp ha).1 Z.nd).mp (ha.trans ((congrArg some e).symm.trans hb.symm)))
      rw [upd_ne hne]
      exact h2
  · intro p c e
    obtain ⟨r1, r2, r3, r4, r5, r6, r7, st, ix, cells, r8, r9, r10, r11⟩ := Z.rsok p c e
    refine ⟨r1, r2, r3, r4, r5, r6, r7, st, ix, cells, r8, r9, ?_, ?_⟩
    · rw [upd_ne (fun z => r2 (by rw [z]; exact ham))]
      exact r10
    · rw [upd_ne (fun z => r3 (by rw [z]; exact ham))]
      exact r11
theorem Zt.freeze (Z : Zt rs H0 G0 H G as M S σ) {j : Nat} {a : Addr} {O : OS} (ha : as[j]? = some a) (hM : M[j]? = some (some O)) :
    ∃ o, H a = some o ∧ O.rel a G o ∧ Zt rs H0 G0 H (upd G a o) as (M.set j none) S σ ∧ Same G (upd G a o) := by
  obtain ⟨ga, o, ho, hr⟩ := Z.own j a O ha hM
  have ham : a ∈ as := List.mem_of_getElem? ha
  have sg : Same G (upd G a o) := same_new ga
  refine ⟨o, ho, hr, ⟨Z.h, Z.g.trans sg, ?_, ?_, by simp [Z.len], Z.nd, Z.fresh, Z.alive, ?_, ?_, Z.sat.len, fun i s v h1 h2 => SS.ok_mono sg (Z.sat.at_ i s v h1 h2)⟩, sg⟩
  · intro b x e
    by_cases hb : b = a
    · rw [hb, upd_same] at e
      rw [hb, ho]
      exact e
    · rw [upd_ne hb] at e
      exact Z.sub b x e
  · intro b h1 h2
    by_cases hb : b = a
    · rw [hb]
      exact NewOk.of (Z.fresh a ham)
    · rw [upd_ne hb] at h2
      exact Z.new b h1 h2
  · intro i b O1 hb hM1
    by_cases hij : j = i
    · subst hij
      rw [List.getElem?_set_self (List.getElem?_eq_some_iff.mp hM).1] at hM1
      cases hM1
    · rw [List.getElem?_set_ne hij] at hM1
      obtain ⟨h1, o1, h2, h3⟩ := Z.own i b O1 hb hM1
      have hne : b ≠ a := fun e => hij ((List.getElem?_inj (List.getElem?_eq_some_iff.mp ha).1 Z.nd).mp (ha.trans ((congrArg some e).symm.trans hb.symm)))
      exact ⟨by rw [upd_ne hne]; exact h1, o1, h2, O1.mono sg h3⟩
  · intro p c e
    obtain ⟨r1, r2, r3, r4, r5, r6, r7, st, ix, cells, r8, r9, r10, r11⟩ := Z.rsok p c e
    refine ⟨r1, r2, r3, r4, r5, ?_, ?_, st, ix, cells, r8, r9, r10, r11⟩
    · rw [upd_ne (fun z => r2 (by rw [z]; exact ham))]
      exact r6
    · rw [upd_ne (fun z => r3 (by rw [z]; exact ham))]
      exact r7
theorem Zt.slots (Z : Zt rs H0 G0 H G as M S σ) {S' : Sl} {σ' : L2.St} (h : Sat as G S' σ') : Zt rs H0 G0 H G as M S' σ' := ⟨Z.h, Z.g, Z.sub, Z.new, Z.len, Z.nd, Z.fresh, Z.alive, Z.own, Z.rsok, h⟩
theorem Sat.mono {S : Sl} (h : Sat as G S σ) (e : Same G G') : Sat as G' S σ := ⟨h.len, fun i s v h1 h2 => SS.ok_mono e (h.at_ i s v h1 h2)⟩
theorem Sat.ext {bs : List Addr} {S : Sl} (h : Sat as G S σ) (e : ∀ (j : Nat) a, as[j]? = some a → bs[j]? = some a) : Sat bs G S σ := ⟨h.len, fun i s v h1 h2 => SS.ok_ext e (h.at_ i s v h1 h2)⟩
theorem Sat.set (h : Sat as G S σ) {i : Nat} {s : SS} {v : Option V} (hs : s.ok as G v) : Sat as G (S.set i s) (σ.set i v) := by
  refine ⟨by simp [h.len], fun j s' v' h1 h2 => ?_⟩
  by_cases e : i = j
  · subst e
    by_cases hi : i < S.length
    · rw [List.getElem?_set_self hi] at h1
      rw [List.getElem?_set_self (by rw [← h.len]; exact hi)] at h2
      cases h1
      cases h2
      exact hs
    · rw [List.getElem?_eq_none (by simp; omega)] at h1
      cases h1
  · rw [List.getElem?_set_ne e] at h1 h2
    exact h.at_ j s' v' h1 h2
theorem Sat.look (h : Sat as G S σ) {i : Nat} {s : SS} (hs : S[i]? = some s) : ∃ v, σ[i]? = some v ∧ s.ok as G v := by
  obtain ⟨hi, _⟩ := List.getElem?_eq_some_iff.mp hs
  have e : σ[i]? = some (σ[i]'(by rw [← h.len]; exact hi)) := List.getElem?_eq_getElem _
  exact ⟨_, e, h.at_ i s _ hs e⟩
def wipeS (S : Sl) : List Nat → Sl
  | [] => S
  | v :: vs => (wipeS S vs).set v .no
theorem Sat.wipe (h : Sat as G S σ) : ∀ vs : List Nat, Sat as G (wipeS S vs) (wipe σ vs)
  | [] => h
  | v :: vs => (Sat.wipe h vs).set trivial
inductive Wk : Sl → Sl → Prop
  | nil : Wk [] []
  | same {s S S'} : Wk S S' → Wk (s :: S) (s :: S')
  | no {s S S'} : Wk S S' → Wk (s :: S) (.no :: S')
theorem Wk.refl : ∀ S : Sl, Wk S S
  | [] => .nil
  | _ :: S => .same (Wk.refl S)
theorem Wk.len : ∀ {S S' : Sl}, Wk S S' → S.length = S'.length
  | _, _, .nil => rfl
  | _, _, .same h => congrArg (· + 1) h.len
  | _, _, .no h => congrArg (· + 1) h.len
theorem Wk.at : ∀ {S S' : Sl}, Wk S S' → ∀ {i : Nat} {s : SS}, S'[i]? = some s → s = .no ∨ S[i]? = some s
  | _, _, .nil, _, _, h => .inr h
  | _, _, .same _, 0, _, h => .inr h
  | _, _, .same w, i + 1, _, h => Wk.at w (i := i) h
  | _, _, .no _, 0, _, h => .inl (Option.some.inj h).symm
  | _, _, .no w, i + 1, _, h => Wk.at w (i := i) h
theorem Sat.wk {S' : Sl} (h : Sat as G S σ) (w : Wk S S') : Sat as G S' σ := by
  refine ⟨w.len.symm.trans h.len, fun i s v h1 h2 => ?_⟩
  rcases w.at h1 with e | e
  · subst e
    trivial
  · exact h.at_ i s v e h2
theorem Zt.pop {a : Addr} {m : Option OS} (Z : Zt rs H0 G0 H G (as ++ [a]) (M ++ [m]) S σ) (hS : Sat as G S σ) : Zt rs H0 G0 H G as M S σ := by
  have hl : as.length = M.length := by
    have := Z.len
    simp at this
    exact this
  refine ⟨Z.h, Z.g, Z.sub, Z.new, hl, (List.nodup_append.mp Z.nd).1, fun b hb => Z.fresh b (List.mem_append_left _ hb), fun b hb => Z.alive b (List.mem_append_left _ hb), fun j b O h1 h2 => ?_, fun p c e => ?_, hS⟩
  · exact Z.own j b O (by rw [List.getElem?_append_left (List.getElem?_eq_some_iff.mp h1).1]; exact h1) (by rw [List.getElem?_append_left (List.getElem?_eq_some_iff.mp h2).1]; exact h2)
  · obtain ⟨r1, r2, r3, r⟩ := Z.rsok p c e
    exact ⟨r1, fun z => r2 (List.mem_append_left _ z), fun z => r3 (List.mem_append_left _ z), r⟩
end
end B
namespace B
open PySem L2

section
variable {α β : Type} {F : α → β → Prop}
theorem pr_get : ∀ {l : List α} {m : List β}, Paired F l m → ∀ {i : Nat} {y : β}, m[i]? = some y → ∃ x, l[i]? = some x ∧ F x y
  | _, _, .nil, _, _, h => by simp at h
  | _, _, .cons r _, 0, _, h => ⟨_, rfl, by
    have e := Option.some.inj h
    rw [← e]
    exact r⟩
  | _, _, .cons _ t, i + 1, _, h => pr_get t (i := i) h
theorem pr_get' : ∀ {l : List α} {m : List β}, Paired F l m → ∀ {i : Nat} {x : α}, l[i]? = some x → ∃ y, m[i]? = some y ∧ F x y
  | _, _, .nil, _, _, h => by simp at h
  | _, _, .cons r _, 0, _, h => ⟨_, rfl, by
    have e := Option.some.inj h
    rw [← e]
    exact r⟩
  | _, _, .cons _ t, i + 1, _, h => pr_get' t (i := i) h
theorem pr_imp {F' : α → β → Prop} (h : ∀ a b, F a b → F' a b) : ∀ {l : List α} {m : List β}, Paired F l m → Paired F' l m
  | _, _, .nil => .nil
  | _, _, .cons r t => .cons (h _ _ r) (pr_imp h t)
theorem pr_app : ∀ {l l' : List α} {m m' : List β}, Paired F l m → Paired F l' m' → Paired F (l ++ l') (m ++ m')
  | _, _, _, _, .nil, h => h
  | _, _, _, _, .cons r t, h => .cons r (pr_app t h)
theorem pr_set {x : α} {y : β} (r : F x y) : ∀ {l : List α} {m : List β} (i : Nat), Paired F l m → Paired F (l.set i x) (m.set i y)
  | _, _, _, .nil => .nil
  | _, _, 0, .cons _ t => .cons r t
  | _, _, i + 1, .cons q t => .cons q (pr_set r i t)
theorem pr_drop : ∀ {l : List α} {m : List β} (n : Nat), Paired F l m → Paired F (l.drop n) (m.drop n)
  | _, _, 0, h => h
  | _, _, _ + 1, .nil => .nil
  | _, _, n + 1, .cons _ t => pr_drop n t
theorem pr_take : ∀ {l : List α} {m : List β} (n : Nat), Paired F l m → Paired F (l.take n) (m.take n)
  | _, _, 0, _ => .nil
  | _, _, _ + 1, .nil => .nil
  | _, _, n + 1, .cons r t => .cons r (pr_take n t)
theorem pr_dropLast {l : List α} {m : List β} (h : Paired F l m) : Paired F l.dropLast m.dropLast := by
  rw [List.dropLast_eq_take, List.dropLast_eq_take, h.length]
  exact pr_take _ h
theorem pr_of {l : List α} {m : List β} (hl : l.length = m.length) (h : ∀ (i : Nat) x y, l[i]? = some x → m[i]? = some y → F x y) : Paired F l m := by
  induction l generalizing m with
  | nil =>
    cases m with
    | nil => exact .nil
    | cons y m => simp at hl
  | cons x l ih =>
    cases m with
    | nil => simp at hl
    | cons y m => exact .cons (h 0 x y rfl rfl) (ih (by simpa using hl) fun i x y h1 h2 => h (i + 1) x y h1 h2)
theorem pr_map_eq {γ : Type} {f : α → γ} {g : β → γ} (h : ∀ a b, F a b → f a = g b) : ∀ {l : List α} {m : List β}, Paired F l m → l.map f = m.map g
  | _, _, .nil => rfl
  | _, _, .cons r t => by
    rw [List.map_cons, List.map_cons, h _ _ r, pr_map_eq h t]
end
abbrev AllR {α : Type} (R : MR α) (G : Hp) (vs : List V) (xs : List α) : Prop := Paired (R.rel G) vs xs
theorem allR_mono {α : Type} {R : MR α} {G G' : Hp} {vs : List V} {xs : List α} (e : Same G G') (h : AllR R G vs xs) : AllR R G' vs xs := pr_imp (fun _ _ r => R.mono e r) h

def rInt : MR Int := ⟨fun _ v i => v = .int i, fun _ h => h⟩
def rNat : MR Nat := ⟨fun _ v n => v = .int (n : Int), fun _ h => h⟩
def rBool : MR Bool := ⟨fun _ v b => v = .bl b, fun _ h => h⟩
def rStr : MR Str := ⟨fun _ v b => v = .str b, fun _ h => h⟩
def rNon : MR Unit := ⟨fun _ v _ => v = .non, fun _ h => h⟩
def rV : MR V := ⟨fun _ v w => v = w, fun _ h => h⟩
def rOpt {α : Type} (R : MR α) : MR (Option α) := ⟨fun G v o => match o with | none => v = .non | some x => v ≠ .non ∧ R.rel G v x, fun {_ _ _ o} e h => by
  cases o with
  | none => exact h
  | some x => exact ⟨h.1, R.mono e h.2⟩⟩
def rTup {α : Type} (R : MR α) : MR (List α) := ⟨fun G v xs => ∃ a vs, v = .ref a ∧ G a = some (.tup vs) ∧ AllR R G vs xs, fun e ⟨a, vs, h1, h2, h3⟩ => ⟨a, vs, h1, e _ _ h2, allR_mono e h3⟩⟩
def rList {α : Type} (R : MR α) : MR (List α) := ⟨fun G v xs => ∃ a vs, v = .ref a ∧ G a = some (.lst vs) ∧ AllR R G vs xs, fun e ⟨a, vs, h1, h2, h3⟩ => ⟨a, vs, h1, e _ _ h2, allR_mono e h3⟩⟩
def rPr {α β : Type} (R : MR α) (T : MR β) : MR (α × β) := ⟨fun G v x => ∃ a u w, v = .ref a ∧ G a = some (.tup [u, w]) ∧ R.rel G u x.1 ∧ T.rel G w x.2, fun e ⟨a, u, w, h1, h2, h3, h4⟩ => ⟨a, u, w, h1, e _ _ h2, R.mono e h3, T.mono e h4⟩⟩
def rSome {α : Type} (R : MR α) (P : α → Prop) : MR Unit := ⟨fun G v _ => ∃ x, P x ∧ R.rel G v x, fun e ⟨x, h1, h2⟩ => ⟨x, h1, R.mono e h2⟩⟩
def oList {α : Type} (R : MR α) (xs : List α) : OS := ⟨fun _ G o => ∃ vs, o = .lst vs ∧ AllR R G vs xs, fun e ⟨vs, h1, h2⟩ => ⟨vs, h1, allR_mono e h2⟩, fun ⟨vs, h1, _⟩ xs e => by rw [h1] at e; cases e⟩
abbrev EntR {κ ι β : Type} (enc : κ → ι) (R : MR β) (G : Hp) (es : List (ι × V)) (kvs : List (κ × β)) : Prop := Paired (fun e kx => e.1 = enc kx.1 ∧ R.rel G e.2 kx.2) es kvs
theorem entR_mono {κ ι β : Type} {enc : κ → ι} {R : MR β} {G G' : Hp} {es : List (ι × V)} {kvs : List (κ × β)} (e : Same G G') (h : EntR enc R G es kvs) : EntR enc R G' es kvs := pr_imp (fun _ _ r => ⟨r.1, R.mono e r.2⟩) h
def oDT {κ β : Type} (enc : κ → List Key) (R : MR β) (kvs : List (κ × β)) : OS := ⟨fun _ G o => ∃ es, o = .dT es ∧ EntR enc R G es kvs, fun e ⟨es, h1, h2⟩ => ⟨es, h1, entR_mono e h2⟩, fun ⟨es, h1, _⟩ xs e => by rw [h1] at e; cases e⟩
def oLk {κ β : Type} (d : Addr) (od : PySem.Obj) (es : List (List Key × V)) (enc : κ → List Key) (R : MR β) (kvs : List (κ × β)) : OS := ⟨fun a G o => a = d ∧ o = .frz od (.dT es) ∧ EntR enc R G es kvs, fun e ⟨h0, h1, h2⟩ => ⟨h0, h1, entR_mono e h2⟩, fun ⟨_, h1, _⟩ xs e => by rw [h1] at e; cases e⟩
def encN (n : Nat) : Key := .inl (n : Int)
def oDK {β : Type} (R : MR β) (kvs : List (Nat × β)) : OS := ⟨fun _ G o => ∃ es, o = .dK es ∧ EntR encN R G es kvs, fun e ⟨es, h1, h2⟩ => ⟨es, h1, entR_mono e h2⟩, fun ⟨es, h1, _⟩ xs e => by rw [h1] at e; cases e⟩
def rDK {β : Type} (R : MR β) : MR (List (Nat × β)) := ⟨fun G v kvs => ∃ a es, v = .ref a ∧ G a = some (.dK es) ∧ EntR encN R G es kvs, fun e ⟨a, es, h0, h1, h2⟩ => ⟨a, es, h0, e _ _ h1, entR_mono e h2⟩⟩

section
variable {α β γ : Type} {rs : RS} {S : Sl} {M : Mo} {te ta tb tc : TE} {tt tu : TT} {R : MR α} {T : MR β} {U : MR γ} {x : α} {y : β} {z : γ} {b c : Bool}
def Ev (rs : RS) (te : TE) (S : Sl) (M : Mo) (R : MR α) (x : α) : Prop := ∀ H0 G0 H G as σ, Zt rs H0 G0 H G as M S σ → ∀ Q : VK,
  (∀ v H' G', Zt rs H0 G0 H' G' as M S σ → Same G G' → R.rel G' v x → Q v H') → te σ H Q
def EvT (rs : RS) (tt : TT) (S : Sl) (M : Mo) (b : Bool) : Prop := ∀ H0 G0 H G as σ, Zt rs H0 G0 H G as M S σ → ∀ Q : Bool → Hp → Prop,
  (∀ H' G', Zt rs H0 G0 H' G' as M S σ → Same G G' → Q b H') → tt σ H Q
def ArgsOk (G : Hp) : List V → List SS → Prop
  | [], [] => True
  | v :: vs, .is R x :: ss => R.rel G v x ∧ ArgsOk G vs ss
  | _, _ => False
theorem ArgsOk.mono {G G' : Hp} (e : Same G G') : ∀ {vs : List V} {ss : List SS}, ArgsOk G vs ss → ArgsOk G' vs ss
  | [], [], _ => trivial
  | _ :: _, .is R _ :: _, ⟨h1, h2⟩ => ⟨R.mono e h1, ArgsOk.mono e h2⟩
  | _ :: _, .no :: _, h => h.elim
  | _ :: _, .own _ :: _, h => h.elim
  | [], _ :: _, h => h.elim
  | _ :: _, [], h => h.elim
def EvA (rs : RS) (ta : TA) (S : Sl) (M : Mo) (ss : List SS) : Prop := ∀ H0 G0 H G as σ, Zt rs H0 G0 H G as M S σ → ∀ Q : List V → Hp → Prop,
  (∀ vs H' G', Zt rs H0 G0 H' G' as M S σ → Same G G' → ArgsOk G' vs ss → Q vs H') → ta σ H Q

theorem ev_eq {x' : α} (h : Ev rs te S M R x) (e : x = x') : Ev rs te S M R x' := e ▸ h
theorem et_eq {b' : Bool} (h : EvT rs tt S M b) (e : b = b') : EvT rs tt S M b' := e ▸ h
theorem ev_rel {R' : MR β} {y : β} (h : Ev rs te S M R x) (hr : ∀ G v, R.rel G v x → R'.rel G v y) : Ev rs te S M R' y := fun H0 G0 H G as σ Z Q q => h H0 G0 H G as σ Z Q fun v H' G' Z' e r => q v H' G' Z' e (hr G' v r)
theorem ev_var {i : Nat} (h : S[i]? = some (.is R x)) : Ev rs (tVar i) S M R x := fun H0 G0 H G as σ Z Q q => by
  obtain ⟨v, hv, u, rfl, r⟩ := Z.sat.look h
  exact ⟨u, hv, q u H G Z (Same.refl G) r⟩
theorem ev_int {i : Int} : Ev rs (tC (.int i)) S M rInt i := fun H0 G0 H G as σ Z Q q => q _ H G Z (Same.refl G) rfl
theorem ev_nat {n : Nat} : Ev rs (tC (.int (n : Int))) S M rNat n := fun H0 G0 H G as σ Z Q q => q _ H G Z (Same.refl G) rfl
theorem ev_nat0 : Ev rs (tC (.int 0)) S M rNat 0 := ev_nat (n := 0)
theorem ev_nat1 : Ev rs (tC (.int 1)) S M rNat 1 := ev_nat (n := 1)
theorem ev_nat2 : Ev rs (tC (.int 2)) S M rNat 2 := ev_nat (n := 2)
theorem ev_bl {b : Bool} : Ev rs (tC (.bl b)) S M rBool b := fun H0 G0 H G as σ Z Q q => q _ H G Z (Same.refl G) rfl
theorem ev_str {w : Str} : Ev rs (tC (.str w)) S M rStr w := fun H0 G0 H G as σ Z Q q => q _ H G Z (Same.refl G) rfl
theorem ev_non : Ev rs (tC .non) S M rNon () := fun H0 G0 H G as σ Z Q q => q _ H G Z (Same.refl G) rfl
theorem ev_toI {n : Nat} (h : Ev rs te S M rNat n) : Ev rs te S M rInt (n : Int) := h
theorem ev_toN {n : Nat} {i : Int} (h : Ev rs te S M rInt i) (e : i = (n : Int)) : Ev rs te S M rNat n := by
  subst e
  exact h
def Op2 (r : R2) (R : MR α) (T : MR β) (U : MR γ) (x : α) (y : β) (z : γ) : Prop := ∀ G v w, R.rel G v x → T.rel G w y → ∀ H (Q : VK), Same G H → (∀ u, U.rel G u z → Q u H) → r v w H Q
theorem ev_op {r : R2} (ho : Op2 r R T U x y z) (ha : Ev rs ta S M R x) (hb : Ev rs tb S M T y) : Ev rs (tOp r ta tb) S M U z := fun H0 G0 H G as σ Z Q q =>
  ha H0 G0 H G as σ Z _ fun v H1 G1 Z1 e1 r1 => hb H0 G0 H1 G1 as σ Z1 _ fun w H2 G2 Z2 e2 r2 => ho G2 v w (R.mono e2 r1) r2 H2 Q Z2.sub fun u ru => q u H2 G2 Z2 (e1.trans e2) ru
theorem op_I0 {g : Int → Int → V} {i j : Int} {U : MR γ} {z : γ} (h : ∀ G, U.rel G (g i j) z) : Op2 (rI0 g) rInt rInt U i j z := fun G v w h1 h2 H Q _ q => ⟨i, j, h1, h2, q _ (h G)⟩
theorem op_I {C : Int → Int → Prop} {g : Int → Int → V} {i j : Int} {U : MR γ} {z : γ} (hc : C i j) (h : ∀ G, U.rel G (g i j) z) : Op2 (rI C g) rInt rInt U i j z := fun G v w h1 h2 H Q _ q => ⟨i, j, h1, h2, hc, q _ (h G)⟩
theorem ev_add {i j : Int} (ha : Ev rs ta S M rInt i) (hb : Ev rs tb S M rInt j) : Ev rs (tOp (rI0 fun i j => .int (i + j)) ta tb) S M rInt (i + j) := ev_op (op_I0 fun _ => rfl) ha hb
theorem ev_addN {i j : Nat} (ha : Ev rs ta S M rNat i) (hb : Ev rs tb S M rNat j) : Ev rs (tOp (rI0 fun i j => .int (i + j)) ta tb) S M rNat (i + j) := ev_toN (ev_add (ev_toI ha) (ev_toI hb)) (by omega)
theorem ev_sub {i j : Int} (ha : Ev rs ta S M rInt i) (hb : Ev rs tb S M rInt j) : Ev rs (tOp (rI0 fun i j => .int (i - j)) ta tb) S M rInt (i - j) := ev_op (op_I0 fun _ => rfl) ha hb
theorem ev_subN {i j : Nat} (ha : Ev rs ta S M rNat i) (hb : Ev rs tb S M rNat j) (h : j ≤ i) : Ev rs (tOp (rI0 fun i j => .int (i - j)) ta tb) S M rNat (i - j) := ev_toN (ev_sub (ev_toI ha) (ev_toI hb)) (by omega)
theorem ev_mul {i j : Int} (ha : Ev rs ta S M rInt i) (hb : Ev rs tb S M rInt j) (hc : CMul i j) : Ev rs (tOp (rI CMul fun i j => .int (i * j)) ta tb) S M rInt (i * j) := ev_op (op_I hc fun _ => rfl) ha hb
theorem ev_mulN {i j : Nat} (ha : Ev rs ta S M rNat i) (hb : Ev rs tb S M rNat j) (hc : i < 2 ^ 64 ∨ j < 2 ^ 64) : Ev rs (tOp (rI CMul fun i j => .int (i * j)) ta tb) S M rNat (i * j) := ev_toN (ev_mul (ev_toI ha) (ev_toI hb) (by
  rcases hc with h | h
  · exact .inl ⟨by omega, by omega⟩
  · exact .inr ⟨by omega, by omega⟩)) (by rw [Int.natCast_mul])
theorem ev_mod {i j : Int} (ha : Ev rs ta S M rInt i) (hb : Ev rs tb S M rInt j) (hc : 0 < j) : Ev rs (tOp (rI (fun _ j => 0 < j) fun i j => .int (i % j)) ta tb) S M rInt (i % j) := ev_op (op_I (C := fun _ j => 0 < j) hc fun _ => rfl) ha hb
theorem ev_fdiv {i j : Int} (ha : Ev rs ta S M rInt i) (hb : Ev rs tb S M rInt j) (hc : CDiv i j) : Ev rs (tOp (rI CDiv fun i j => .int (i / j)) ta tb) S M rInt (i / j) := ev_op (op_I hc fun _ => rfl) ha hb
theorem ev_neg {i : Int} (ha : Ev rs ta S M rInt i) : Ev rs (tUn (rU fun i => .int (-i)) ta) S M rInt (-i) := fun H0 G0 H G as σ Z Q q =>
  ha H0 G0 H G as σ Z _ fun v H1 G1 Z1 e1 r1 => ⟨i, r1, q _ H1 G1 Z1 e1 rfl⟩
theorem ev_lt {i j : Int} (ha : Ev rs ta S M rInt i) (hb : Ev rs tb S M rInt j) : Ev rs (tOp (rI0 fun i j => .bl (decide (i < j))) ta tb) S M rBool (decide (i < j)) := ev_op (op_I0 fun _ => rfl) ha hb
theorem ev_le {i j : Int} (ha : Ev rs ta S M rInt i) (hb : Ev rs tb S M rInt j) : Ev rs (tOp (rI0 fun i j => .bl (decide (i ≤ j))) ta tb) S M rBool (decide (i ≤ j)) := ev_op (op_I0 fun _ => rfl) ha hb
theorem ev_gt {i j : Int} (ha : Ev rs ta S M rInt i) (hb : Ev rs tb S M rInt j) : Ev rs (tOp (rI0 fun i j => .bl (decide (j < i))) ta tb) S M rBool (decide (j < i)) := ev_op (op_I0 fun _ => rfl) ha hb
theorem ev_ge {i j : Int} (ha : Ev rs ta S M rInt i) (hb : Ev rs tb S M rInt j) : Ev rs (tOp (rI0 fun i j => .bl (decide (j ≤ i))) ta tb) S M rBool (decide (j ≤ i)) := ev_op (op_I0 fun _ => rfl) ha hb
theorem ev_ltN {i j : Nat} (ha : Ev rs ta S M rNat i) (hb : Ev rs tb S M rNat j) : Ev rs (tOp (rI0 fun i j => .bl (decide (i < j))) ta tb) S M rBool (decide (i < j)) := ev_eq (ev_lt (ev_toI ha) (ev_toI hb)) (by simp)
theorem ev_leN {i j : Nat} (ha : Ev rs ta S M rNat i) (hb : Ev rs tb S M rNat j) : Ev rs (tOp (rI0 fun i j => .bl (decide (i ≤ j))) ta tb) S M rBool (decide (i ≤ j)) := ev_eq (ev_le (ev_toI ha) (ev_toI hb)) (by simp)
theorem ev_gtN {i j : Nat} (ha : Ev rs ta S M rNat i) (hb : Ev rs tb S M rNat j) : Ev rs (tOp (rI0 fun i j => .bl (decide (j < i))) ta tb) S M rBool (decide (j < i)) := ev_eq (ev_gt (ev_toI ha) (ev_toI hb)) (by simp)
theorem ev_geN {i j : Nat} (ha : Ev rs ta S M rNat i) (hb : Ev rs tb S M rNat j) : Ev rs (tOp (rI0 fun i j => .bl (decide (j ≤ i))) ta tb) S M rBool (decide (j ≤ i)) := ev_eq (ev_ge (ev_toI ha) (ev_toI hb)) (by simp)
theorem ev_eqI {i j : Int} (ha : Ev rs ta S M rInt i) (hb : Ev rs tb S M rInt j) : Ev rs (tOp rEq ta tb) S M rBool (decide (i = j)) := ev_op (fun G v w h1 h2 H Q _ q => by
  cases h1
  cases h2
  exact ⟨rfl, q _ (by simp [rBool])⟩) ha hb
theorem ev_neI {i j : Int} (ha : Ev rs ta S M rInt i) (hb : Ev rs tb S M rInt j) : Ev rs (tOp rNe ta tb) S M rBool (!decide (i = j)) := ev_op (fun G v w h1 h2 H Q _ q => by
  cases h1
  cases h2
  exact ⟨rfl, q _ (by simp [rBool])⟩) ha hb
theorem ev_eqN {i j : Nat} (ha : Ev rs ta S M rNat i) (hb : Ev rs tb S M rNat j) : Ev rs (tOp rEq ta tb) S M rBool (decide (i = j)) := ev_eq (ev_eqI (ev_toI ha) (ev_toI hb)) (by rw [decide_eq_decide]; omega)
theorem ev_neN {i j : Nat} (ha : Ev rs ta S M rNat i) (hb : Ev rs tb S M rNat j) : Ev rs (tOp rNe ta tb) S M rBool (!decide (i = j)) := ev_eq (ev_neI (ev_toI ha) (ev_toI hb)) (congrArg (! ·) (by rw [decide_eq_decide]; omega))
theorem ev_eqB {i j : Bool} (ha : Ev rs ta S M rBool i) (hb : Ev rs tb S M rBool j) : Ev rs (tOp rEq ta tb) S M rBool (decide (i = j)) := ev_op (fun G v w h1 h2 H Q _ q => by
  cases h1
  cases h2
  exact ⟨rfl, q _ (by simp [rBool])⟩) ha hb
theorem ev_neB {i j : Bool} (ha : Ev rs ta S M rBool i) (hb : Ev rs tb S M rBool j) : Ev rs (tOp rNe ta tb) S M rBool (!decide (i = j)) := ev_op (fun G v w h1 h2 H Q _ q => by
  cases h1
  cases h2
  exact ⟨rfl, q _ (by simp [rBool])⟩) ha hb
theorem ev_eqS {i j : Str} (ha : Ev rs ta S M rStr i) (hb : Ev rs tb S M rStr j) : Ev rs (tOp rEq ta tb) S M rBool (decide (i = j)) := ev_op (fun G v w h1 h2 H Q _ q => by
  cases h1
  cases h2
  exact ⟨rfl, q _ (by simp [rBool])⟩) ha hb
theorem ev_isN {o : Option α} (ha : Ev rs ta S M (rOpt R) o) : Ev rs (tOp (fun x y H Q => y = .non ∧ Q (.bl (decide (x = .non))) H) ta (tC .non)) S M rBool o.isNone := fun H0 G0 H G as σ Z Q q =>
  ha H0 G0 H G as σ Z _ fun v H1 G1 Z1 e1 r1 => ⟨rfl, q _ H1 G1 Z1 e1 (by
    cases o with
    | none =>
      cases r1
      simp [rBool]
    | some x => simp [rBool, r1.1])⟩
theorem ev_notN {o : Option α} (ha : Ev rs ta S M (rOpt R) o) : Ev rs (tOp (fun x y H Q => y = .non ∧ Q (.bl (!decide (x = .non))) H) ta (tC .non)) S M rBool o.isSome := fun H0 G0 H G as σ Z Q q =>
  ha H0 G0 H G as σ Z _ fun v H1 G1 Z1 e1 r1 => ⟨rfl, q _ H1 G1 Z1 e1 (by
    cases o with
    | none =>
      cases r1
      simp [rBool]
    | some x => simp [rBool, r1.1])⟩
theorem ev_some {o : Option α} {x : α} (ha : Ev rs ta S M (rOpt R) o) (h : o = some x) : Ev rs ta S M R x := by
  subst h
  exact ev_rel ha fun G v r => r.2

theorem et_test (h : Ev rs te S M rBool b) : EvT rs (tTest te) S M b := fun H0 G0 H G as σ Z Q q => h H0 G0 H G as σ Z _ fun v H1 G1 Z1 e1 r1 => ⟨b, r1, q H1 G1 Z1 e1⟩
theorem et_B (h : Ev rs te S M rBool b) : EvT rs (tB te) S M b := fun H0 G0 H G as σ Z Q q => h H0 G0 H G as σ Z _ fun v H1 G1 Z1 e1 r1 => ⟨b, r1, q H1 G1 Z1 e1⟩
theorem et_not (h : EvT rs tt S M b) : EvT rs (tNot tt) S M (!b) := fun H0 G0 H G as σ Z Q q => h H0 G0 H G as σ Z _ fun H1 G1 Z1 e1 => q H1 G1 Z1 e1
theorem et_yes : EvT rs tYes S M true := fun H0 G0 H G as σ Z Q q => q H G Z (Same.refl G)
theorem et_and (h : EvT rs tt S M b) (h2 : b = true → EvT rs tu S M c) : EvT rs (tAnd tt tu) S M (b && c) := fun H0 G0 H G as σ Z Q q => h H0 G0 H G as σ Z _ fun H1 G1 Z1 e1 => by
  cases b with
  | true =>
    show tu σ H1 Q
    exact h2 rfl H0 G0 H1 G1 as σ Z1 Q fun H2 G2 Z2 e2 => q H2 G2 Z2 (e1.trans e2)
  | false =>
    show Q false H1
    exact q H1 G1 Z1 e1
theorem et_or (h : EvT rs tt S M b) (h2 : b = false → EvT rs tu S M c) : EvT rs (tOr tt tu) S M (b || c) := fun H0 G0 H G as σ Z Q q => h H0 G0 H G as σ Z _ fun H1 G1 Z1 e1 => by
  cases b with
  | true =>
    show Q true H1
    exact q H1 G1 Z1 e1
  | false =>
    show tu σ H1 Q
    exact h2 rfl H0 G0 H1 G1 as σ Z1 Q fun H2 G2 Z2 e2 => q H2 G2 Z2 (e1.trans e2)
theorem ev_and (h : Ev rs ta S M rBool b) (h2 : b = true → Ev rs tb S M rBool c) : Ev rs (tAndV ta tb) S M rBool (b && c) := fun H0 G0 H G as σ Z Q q => h H0 G0 H G as σ Z _ fun v H1 G1 Z1 e1 r1 => ⟨b, r1, by
  cases b with
  | true =>
    show tb σ H1 Q
    exact h2 rfl H0 G0 H1 G1 as σ Z1 Q fun w H2 G2 Z2 e2 r2 => q w H2 G2 Z2 (e1.trans e2) r2
  | false =>
    show Q (.bl false) H1
    exact q _ H1 G1 Z1 e1 rfl⟩
theorem ev_or (h : Ev rs ta S M rBool b) (h2 : b = false → Ev rs tb S M rBool c) : Ev rs (tOrV ta tb) S M rBool (b || c) := fun H0 G0 H G as σ Z Q q => h H0 G0 H G as σ Z _ fun v H1 G1 Z1 e1 r1 => ⟨b, r1, by
  cases b with
  | true =>
    show Q (.bl true) H1
    exact q _ H1 G1 Z1 e1 rfl
  | false =>
    show tb σ H1 Q
    exact h2 rfl H0 G0 H1 G1 as σ Z1 Q fun w H2 G2 Z2 e2 r2 => q w H2 G2 Z2 (e1.trans e2) r2⟩
theorem ev_not (h : Ev rs ta S M rBool b) : Ev rs (tNotV ta) S M rBool (!b) := fun H0 G0 H G as σ Z Q q => h H0 G0 H G as σ Z _ fun v H1 G1 Z1 e1 r1 => ⟨b, r1, q _ H1 G1 Z1 e1 rfl⟩
theorem ev_if (h : EvT rs tt S M b) (h1 : b = true → Ev rs ta S M R x) (h2 : b = false → Ev rs tb S M R x) : Ev rs (tIf tt ta tb) S M R x := fun H0 G0 H G as σ Z Q q => h H0 G0 H G as σ Z _ fun H1 G1 Z1 e1 => by
  cases b with
  | true =>
    show ta σ H1 Q
    exact h1 rfl H0 G0 H1 G1 as σ Z1 Q fun w H2 G2 Z2 e2 r2 => q w H2 G2 Z2 (e1.trans e2) r2
  | false =>
    show tb σ H1 Q
    exact h2 rfl H0 G0 H1 G1 as σ Z1 Q fun w H2 G2 Z2 e2 r2 => q w H2 G2 Z2 (e1.trans e2) r2
theorem ev_ifx {x' : α} (h : EvT rs tt S M b) (h1 : b = true → Ev rs ta S M R x) (h2 : b = false → Ev rs tb S M R x') : Ev rs (tIf tt ta tb) S M R (if b then x else x') := by
  cases b with
  | true => exact ev_if h h1 fun z => nomatch z
  | false => exact ev_if h (fun z => nomatch z) h2

theorem ea_nil : EvA rs tNil S M [] := fun H0 G0 H G as σ Z Q q => q [] H G Z (Same.refl G) trivial
theorem ea_cons {tr : TA} {ss : List SS} (h : Ev rs ta S M R x) (hr : EvA rs tr S M ss) : EvA rs (tCons ta tr) S M (.is R x :: ss) := fun H0 G0 H G as σ Z Q q =>
  h H0 G0 H G as σ Z _ fun v H1 G1 Z1 e1 r1 => hr H0 G0 H1 G1 as σ Z1 _ fun vs H2 G2 Z2 e2 r2 => q (v :: vs) H2 G2 Z2 (e1.trans e2) ⟨R.mono e2 r1, r2⟩
def isAll {α : Type} (R : MR α) (xs : List α) : List SS := xs.map fun x => .is R x
theorem argsOk_all {G : Hp} : ∀ {vs : List V} {xs : List α}, ArgsOk G vs (isAll R xs) → AllR R G vs xs
  | [], [], _ => .nil
  | v :: vs, x :: xs, ⟨h1, h2⟩ => .cons h1 (argsOk_all h2)
  | [], _ :: _, h => h.elim
  | _ :: _, [], h => h.elim
theorem argsOk_len {G : Hp} : ∀ {vs : List V} {ss : List SS}, ArgsOk G vs ss → vs.length = ss.length
  | [], [], _ => rfl
  | _ :: vs, .is _ _ :: ss, ⟨_, h2⟩ => congrArg (· + 1) (argsOk_len h2)
  | _ :: _, .no :: _, h => h.elim
  | _ :: _, .own _ :: _, h => h.elim
  | [], _ :: _, h => h.elim
  | _ :: _, [], h => h.elim
theorem ev_tup {tr : TA} {xs : List α} (h : EvA rs tr S M (isAll R xs)) (hl : xs.length ≤ 100000) : Ev rs (tTup tr) S M (rTup R) xs := fun H0 G0 H G as σ Z Q q =>
  h H0 G0 H G as σ Z _ fun vs H1 G1 Z1 e1 r1 => ⟨by
    have e := argsOk_len r1
    rw [isAll, List.length_map] at e
    rw [e]
    exact Nat.le_trans hl (by decide), fun p hp => by
    obtain ⟨Z2, e2⟩ := Z1.new_ (o := .tup vs) hp
    exact q _ _ _ Z2 (e1.trans e2) ⟨p, vs, rfl, upd_same, allR_mono e2 (argsOk_all r1)⟩⟩
theorem ev_lst {tr : TA} {xs : List α} (h : EvA rs tr S M (isAll R xs)) (hl : xs.length ≤ 100000) : Ev rs (tLst tr) S M (rList R) xs := fun H0 G0 H G as σ Z Q q =>
  h H0 G0 H G as σ Z _ fun vs H1 G1 Z1 e1 r1 => ⟨by
    have e := argsOk_len r1
    rw [isAll, List.length_map] at e
    rw [e]
    exact Nat.le_trans hl (by decide), fun p hp => by
    obtain ⟨Z2, e2⟩ := Z1.new_ (o := .lst vs) hp
    exact q _ _ _ Z2 (e1.trans e2) ⟨p, vs, rfl, upd_same, allR_mono e2 (argsOk_all r1)⟩⟩
theorem ev_pr (ha : Ev rs ta S M R x) (hb : Ev rs tb S M T y) : Ev rs (tTup (tCons ta (tCons tb tNil))) S M (rPr R T) (x, y) := fun H0 G0 H G as σ Z Q q =>
  ha H0 G0 H G as σ Z _ fun v H1 G1 Z1 e1 r1 => hb H0 G0 H1 G1 as σ Z1 _ fun w H2 G2 Z2 e2 r2 => ⟨by show 2 ≤ sizeLine; decide, fun p hp => by
    obtain ⟨Z3, e3⟩ := Z2.new_ (o := .tup [v, w]) hp
    exact q _ _ _ Z3 ((e1.trans e2).trans e3) ⟨p, v, w, rfl, upd_same, R.mono (e2.trans e3) r1, T.mono e3 r2⟩⟩

theorem ev_ixL {K : PySem.W.Frag} {xs : List α} {k : Nat} (ha : Ev rs ta S M (rList R) xs) (hb : Ev rs tb S M rNat k) (h : xs[k]? = some x) : Ev rs (tOp (rIxL K) ta tb) S M R x := ev_op (fun G v w h1 h2 H Q sb q => by
  obtain ⟨a, vs, rfl, ga, r⟩ := h1
  obtain ⟨u, hu, ru⟩ := pr_get r h
  exact ⟨a, vs, k, u, rfl, h2, .inl (.inl (sb _ _ ga)), atI_nat hu, q u ru⟩) ha hb
theorem ev_ixT {K : PySem.W.Frag} {xs : List α} {k : Nat} (ha : Ev rs ta S M (rTup R) xs) (hb : Ev rs tb S M rNat k) (h : xs[k]? = some x) : Ev rs (tOp (rIxT K) ta tb) S M R x := ev_op (fun G v w h1 h2 H Q sb q => by
  obtain ⟨a, vs, rfl, ga, r⟩ := h1
  obtain ⟨u, hu, ru⟩ := pr_get r h
  exact ⟨a, vs, k, u, rfl, h2, .inl (.inl (sb _ _ ga)), atI_nat hu, q u ru⟩) ha hb
theorem ev_fst {K : PySem.W.Frag} {p : α × β} (ha : Ev rs ta S M (rPr R T) p) : Ev rs (tOp (rIxT K) ta (tC (.int 0))) S M R p.1 := fun H0 G0 H G as σ Z Q q =>
  ha H0 G0 H G as σ Z _ fun v H1 G1 Z1 e1 ⟨a, u, w, ea, ga, r1, r2⟩ => ⟨a, [u, w], 0, u, ea, rfl, .inl (.inl (Z1.sub _ _ ga)), rfl, q _ _ _ Z1 e1 r1⟩
theorem ev_snd {K : PySem.W.Frag} {p : α × β} (ha : Ev rs ta S M (rPr R T) p) : Ev rs (tOp (rIxT K) ta (tC (.int 1))) S M T p.2 := fun H0 G0 H G as σ Z Q q =>
  ha H0 G0 H G as σ Z _ fun v H1 G1 Z1 e1 ⟨a, u, w, ea, ga, r1, r2⟩ => ⟨a, [u, w], 1, w, ea, rfl, .inl (.inl (Z1.sub _ _ ga)), rfl, q _ _ _ Z1 e1 r2⟩
abbrev rLenQ (K : PySem.W.Frag) : List V → Hp → VK → Prop := fun xs H Q => ∃ p ys, xs = [.ref p] ∧ (SqL K H p ys ∨ SqT K H p ys) ∧ Q (.int ys.length) H
theorem ev_lenL {K : PySem.W.Frag} {xs : List α} (ha : Ev rs ta S M (rList R) xs) : Ev rs (tCB (rLenQ K) (tCons ta tNil)) S M rNat xs.length := fun H0 G0 H G as σ Z Q q =>
  ha H0 G0 H G as σ Z _ fun v H1 G1 Z1 e1 ⟨a, vs, ea, ga, r⟩ => ⟨a, vs, by rw [ea], .inl (.inl (.inl (Z1.sub _ _ ga))), q _ _ _ Z1 e1 (by rw [r.length]; rfl)⟩
theorem ev_lenT {K : PySem.W.Frag} {xs : List α} (ha : Ev rs ta S M (rTup R) xs) : Ev rs (tCB (rLenQ K) (tCons ta tNil)) S M rNat xs.length := fun H0 G0 H G as σ Z Q q =>
  ha H0 G0 H G as σ Z _ fun v H1 G1 Z1 e1 ⟨a, vs, ea, ga, r⟩ => ⟨a, vs, by rw [ea], .inr (.inl (.inl (Z1.sub _ _ ga))), q _ _ _ Z1 e1 (by rw [r.length]; rfl)⟩
theorem Zt.read {H0 G0 H G : Hp} {as : List Addr} {σ : L2.St} (Z : Zt rs H0 G0 H G as M S σ) {i j : Nat} {O : OS} (h : S[i]? = some (.own j)) (hM : M[j]? = some (some O)) :
    ∃ a o, σ[i]? = some (some (.ref a)) ∧ as[j]? = some a ∧ H a = some o ∧ G a = none ∧ O.rel a G o := by
  obtain ⟨v, hv, a, ha, rfl⟩ := Z.sat.look h
  obtain ⟨ga, o, ho, r⟩ := Z.own j a O ha hM
  exact ⟨a, o, hv, ha, ho, ga, r⟩
theorem ev_lenO {K : PySem.W.Frag} {xs : List α} {i j : Nat} (h : S[i]? = some (.own j)) (hM : M[j]? = some (some (oList R xs))) : Ev rs (tCB (rLenQ K) (tCons (tVar i) tNil)) S M rNat xs.length := fun H0 G0 H G as σ Z Q q => by
  obtain ⟨a, o, hv, ha, ho, ga, vs, rfl, r⟩ := Z.read h hM
  exact ⟨.ref a, hv, a, vs, rfl, .inl (.inl (.inl ho)), q _ _ _ Z (Same.refl G) (by rw [r.length]; rfl)⟩
theorem ev_ixO {K : PySem.W.Frag} {xs : List α} {i j k : Nat} (h : S[i]? = some (.own j)) (hM : M[j]? = some (some (oList R xs))) (hb : Ev rs tb S M rNat k) (hx : xs[k]? = some x) : Ev rs (tOp (rIxL K) (tVar i) tb) S M R x := fun H0 G0 H G as σ Z Q q => by
  obtain ⟨a, _, hv, ha, _⟩ := Z.read h hM
  refine ⟨.ref a, hv, hb H0 G0 H G as σ Z _ fun w H1 G1 Z1 e1 r1 => ?_⟩
  obtain ⟨a', o, hv', ha', ho, ga, vs, rfl, r⟩ := Z1.read h hM
  have ea : a' = a := by
    rw [hv] at hv'
    cases hv'
    rfl
  subst ea
  obtain ⟨u, hu, ru⟩ := pr_get r hx
  exact ⟨a', vs, k, u, rfl, r1, .inl (.inl ho), atI_nat hu, q _ _ _ Z1 e1 ru⟩
end
end B
namespace B
open PySem L2

structure Bs (H0 G0 G1 : Hp) : Prop where
  g : Same G0 G1
  new : ∀ a, G0 a = none → G1 a ≠ none → NewOk H0 a
def RetK {α : Type} (H0 G0 : Hp) (R : MR α) (x : α) (v : V) (H' : Hp) : Prop := ∃ G', Same H0 H' ∧ Same G' H' ∧ Bs H0 G0 G' ∧ R.rel G' v x
theorem Bs.refl (H0 G0 : Hp) : Bs H0 G0 G0 := ⟨Same.refl G0, fun _ h1 h2 => absurd h1 h2⟩
theorem Bs.trans {H0 G0 G1 G2 : Hp} (a : Bs H0 G0 G1) (b : Bs H0 G1 G2) : Bs H0 G0 G2 := ⟨a.g.trans b.g, fun c h1 h2 => by
  by_cases h : G1 c = none
  · exact b.new c h h2
  · exact a.new c h1 h⟩
theorem RetK.base {α : Type} {H0 G0 G1 : Hp} {R : MR α} {x : α} {v : V} {H' : Hp} (b : Bs H0 G0 G1) (h : RetK H0 G1 R x v H') : RetK H0 G0 R x v H' := by
  obtain ⟨G', h1, h2, h3, h4⟩ := h
  exact ⟨G', h1, h2, b.trans h3, h4⟩
section
variable {rs : RS} {H0 G0 H G : Hp} {as : List Addr} {M : Mo} {S : Sl} {σ : L2.St}
theorem Zt.bs (Z : Zt rs H0 G0 H G as M S σ) : Bs H0 G0 G := ⟨Z.g, Z.new⟩
theorem Zt.rebase {G1 : Hp} (Z : Zt rs H0 G0 H G as M S σ) (b : Bs H0 G0 G1) (g : Same G1 G) : Zt rs H0 G1 H G as M S σ :=
  ⟨Z.h, g, Z.sub, fun a h1 h2 => Z.new a (none_sub b.g h1) h2, Z.len, Z.nd, Z.fresh, Z.alive, Z.own, Z.rsok, Z.sat⟩
theorem Zt.unbase {G1 : Hp} (Z : Zt rs H0 G1 H G as M S σ) (b : Bs H0 G0 G1) : Zt rs H0 G0 H G as M S σ := by
  have c := b.trans Z.bs
  exact ⟨Z.h, c.g, Z.sub, c.new, Z.len, Z.nd, Z.fresh, Z.alive, Z.own, Z.rsok, Z.sat⟩
end
def prm {A β : Type} (sig : A → List SS) (Pre : A → Prop) (R : A → MR β) (f : A → β) : Sp := fun vs H Q _ => ∃ (G : Hp) (a : A), Same G H ∧ Pre a ∧ ArgsOk G vs (sig a) ∧ ∀ v H', RetK H G (R a) (f a) v H' → Q v H'
theorem prm_len {A β : Type} {sig : A → List SS} {Pre : A → Prop} {R : A → MR β} {f : A → β} {ps : List Str} (hn : ∀ a, (sig a).length = ps.length) {vs : List V} {H : Hp} {Q : VK} {E : XK} (h : prm sig Pre R f vs H Q E) : vs.length = ps.length := by
  obtain ⟨G, a, _, _, ha, _⟩ := h
  rw [argsOk_len ha, hn]
section
variable {α β γ : Type} {rs : RS} {S : Sl} {M : Mo} {te ta tb tc : TE} {tt tu : TT} {R : MR α} {T : MR β} {x : α} {y : β} {b c : Bool}
theorem ev_call {A : Type} {sig : A → List SS} {Pre : A → Prop} {R : A → MR α} {f : A → α} {tr : TA} {E : XK} (a : A) (h : EvA rs tr S M (sig a)) (hp : Pre a) : Ev rs (tCall (prm sig Pre R f) [] E tr) S M (R a) (f a) := fun H0 G0 H G as σ Z Q q =>
  h H0 G0 H G as σ Z _ fun vs H1 G1 Z1 e1 r1 => ⟨G1, a, Z1.sub, hp, by rw [List.append_nil]; exact r1, fun v H' ⟨G', h1, h2, h3, h4⟩ => q v H' G' (Z1.step h1 h3.g h2 h3.new) (e1.trans h3.g) h4⟩

def Go (rs : RS) (H0 G0 : Hp) (P : L2.St → Hp → Prop) (S : Sl) (M : Mo) : Prop := ∀ H G as σ, Zt rs H0 G0 H G as M S σ → P σ H
variable {H0 G0 : Hp} {D : Ends} {t u : TS} {P : L2.St → Hp → Prop}
theorem go_seq (h : Go rs H0 G0 (t { D with nx := u D }) S M) : Go rs H0 G0 (tSeq t u D) S M := h
theorem go_wk {S' : Sl} (w : Wk S S') (h : Go rs H0 G0 P S' M) : Go rs H0 G0 P S M := fun H G as σ Z => h H G as σ (Z.slots (Z.sat.wk w))
theorem argsOk_sat {G : Hp} : ∀ {vs : List V} {ss : List SS}, ArgsOk G vs ss → ∀ (i : Nat) s v, ss[i]? = some s → (vs.map some)[i]? = some v → s.ok [] G v
  | [], [], _, _, _, _, h, _ => by simp at h
  | w :: vs, .is R x :: ss, ⟨h1, h2⟩, 0, s, v, hs, hv => by
    cases hs
    cases hv
    exact ⟨w, rfl, h1⟩
  | w :: vs, .is R x :: ss, ⟨h1, h2⟩, i + 1, s, v, hs, hv => argsOk_sat h2 i s v hs hv
  | _ :: _, .no :: _, h, _, _, _, _, _ => h.elim
  | _ :: _, .own _ :: _, h, _, _, _, _, _ => h.elim
  | [], _ :: _, h, _, _, _, _, _ => h.elim
  | _ :: _, [], h, _, _, _, _, _ => h.elim
theorem sat_start {G : Hp} {vs : List V} {ss : List SS} {N : List Str} (h : ArgsOk G vs ss) : Sat [] G (ss ++ List.replicate (N.length - ss.length) .no) (L2.start N vs) := by
  have hl := argsOk_len h
  refine ⟨by simp [L2.start, hl], fun i s v h1 h2 => ?_⟩
  by_cases hi : i < ss.length
  · rw [List.getElem?_append_left hi] at h1
    rw [L2.start, List.getElem?_append_left (by simp; omega)] at h2
    exact argsOk_sat h i s v h1 h2
  · rw [List.getElem?_append_right (by omega), List.getElem?_replicate] at h1
    split at h1
    · cases h1
      trivial
    · cases h1
theorem go_start {A : Type} {sig : A → List SS} {Pre : A → Prop} {R : A → MR α} {f : A → α} {N : List Str} {vs : List V} {H : Hp} {Q : VK} {E : XK} {P : L2.St → Hp → Prop} (h : prm sig Pre R f vs H Q E)
    (k : ∀ (a : A) (H0 G0 : Hp), Pre a → (∀ v H', RetK H0 G0 (R a) (f a) v H' → Q v H') → Go none H0 G0 P (sig a ++ List.replicate (N.length - (sig a).length) .no) []) : P (L2.start N vs) H := by
  obtain ⟨G, a, hs, hp, ha, q⟩ := h
  refine k a H G hp q H G [] _ ⟨Same.refl H, Same.refl G, hs, fun b h1 h2 => absurd h1 h2, rfl, List.nodup_nil, fun b hb => (List.not_mem_nil hb).elim, fun b hb => (List.not_mem_nil hb).elim, fun j b O hb => by simp at hb, fun p c e => (nomatch e), sat_start ha⟩

def EvG (rs : RS) (te : TE) (S : Sl) (M M' : Mo) (s : SS) : Prop := ∀ H0 G0 H G as σ, Zt rs H0 G0 H G as M S σ → ∀ Q : VK,
  (∀ v H' G' bs, Zt rs H0 G0 H' G' bs M' S σ → Same G G' → (∀ (j : Nat) a, as[j]? = some a → bs[j]? = some a) → s.ok bs G' (some v) → Q v H') → te σ H Q
theorem eg_ev (h : Ev rs te S M R x) : EvG rs te S M M (.is R x) := fun H0 G0 H G as σ Z Q q => h H0 G0 H G as σ Z _ fun v H' G' Z' e r => q v H' G' as Z' e (fun _ _ z => z) ⟨v, rfl, r⟩
theorem eg_var {i j : Nat} (h : S[i]? = some (.own j)) : EvG rs (tVar i) S M M (.own j) := fun H0 G0 H G as σ Z Q q => by
  obtain ⟨v, hv, a, ha, rfl⟩ := Z.sat.look h
  exact ⟨.ref a, hv, q _ H G as Z (Same.refl G) (fun _ _ z => z) ⟨a, ha, rfl⟩⟩
def EvO (rs : RS) (te : TE) (S : Sl) (M : Mo) (O : OS) : Prop := ∀ H0 G0 H G as σ, Zt rs H0 G0 H G as M S σ → ∀ Q : VK,
  (∀ p o H' G', Zt rs H0 G0 H' G' as M S σ → Same G G' → H' p = none → O.rel p G' o → Q (.ref p) (upd H' p o)) → te σ H Q
theorem eg_own {O : OS} (h : EvO rs te S M O) : EvG rs te S M (M ++ [some O]) (.own M.length) := fun H0 G0 H G as σ Z Q q => h H0 G0 H G as σ Z _ fun p o H' G' Z' e hp hO =>
  q (.ref p) _ G' (as ++ [p]) (Z'.owned hp hO) e (fun j a ha => by
    rw [List.getElem?_append_left (List.getElem?_eq_some_iff.mp ha).1]
    exact ha) ⟨p, by rw [← Z'.len, List.getElem?_append_right (Nat.le_refl _), Nat.sub_self] <;> rfl, rfl⟩
theorem eo_lst {tr : TA} {xs : List α} (h : EvA rs tr S M (isAll R xs)) (hl : xs.length ≤ 100000) : EvO rs (tLst tr) S M (oList R xs) := fun H0 G0 H G as σ Z Q q =>
  h H0 G0 H G as σ Z _ fun vs H1 G1 Z1 e1 r1 => ⟨by
    have e := argsOk_len r1
    rw [isAll, List.length_map] at e
    rw [e]
    exact Nat.le_trans hl (by decide), fun p hp => q p _ H1 G1 Z1 e1 hp ⟨vs, rfl, argsOk_all r1⟩⟩
theorem eo_nil : EvO rs (tLst tNil) S M (oList R []) := eo_lst (xs := ([] : List α)) ea_nil (Nat.zero_le _)
theorem eo_one (h : Ev rs te S M R x) : EvO rs (tLst (tCons te tNil)) S M (oList R [x]) := eo_lst (xs := [x]) (ea_cons h ea_nil) (by simp)
theorem eo_dT {κ : Type} {enc : κ → List Key} : EvO rs tDNewT S M (oDT enc R ([] : List (κ × α))) := fun H0 G0 H G as σ Z Q q => fun p hp => q p _ H G Z (Same.refl G) hp ⟨[], rfl, .nil⟩
theorem eo_dK : EvO rs tDNewK S M (oDK R ([] : List (Nat × α))) := fun H0 G0 H G as σ Z Q q => fun p hp => q p _ H G Z (Same.refl G) hp ⟨[], rfl, .nil⟩

theorem go_asg {M' : Mo} {s : SS} {i : Nat} (he : EvG rs te S M M' s) (k : Go rs H0 G0 D.nx (S.set i s) M') : Go rs H0 G0 (tAsg te (gName i) D) S M := fun H G as σ Z =>
  he H0 G0 H G as σ Z _ fun v H' G' bs Z' e _ r => k H' G' bs _ (Z'.slots (Z'.sat.set r))
theorem go_asgP {i : Nat} {p : α → Prop} (he : Ev rs te S M (rSome R p) ()) (k : ∀ x, p x → Go rs H0 G0 D.nx (S.set i (.is R x)) M) : Go rs H0 G0 (tAsg te (gName i) D) S M := fun H G as σ Z =>
  he H0 G0 H G as σ Z _ fun v H' G' Z' e ⟨x, hx, r⟩ => k x hx H' G' as _ (Z'.slots (Z'.sat.set ⟨v, rfl, r⟩))
theorem go_par {M1 M2 : Mo} {s1 s2 : SS} {i j : Nat} (ha : EvG rs ta S M M1 s1) (hb : EvG rs tb S M1 M2 s2) (k : Go rs H0 G0 D.nx ((S.set i s1).set j s2) M2) : Go rs H0 G0 (tPar i j (tCons ta (tCons tb tNil)) D) S M := fun H G as σ Z =>
  ha H0 G0 H G as σ Z _ fun v H1 G1 bs Z1 e1 x1 r1 => hb H0 G0 H1 G1 bs σ Z1 _ fun w H2 G2 cs Z2 e2 x2 r2 =>
    ⟨v, w, rfl, k H2 G2 cs _ (Z2.slots ((Z2.sat.set (SS.ok_ext x2 (SS.ok_mono e2 r1))).set r2))⟩
def OkAll (as : List Addr) (G : Hp) : List V → List SS → Prop
  | [], [] => True
  | v :: vs, s :: ss => s.ok as G (some v) ∧ OkAll as G vs ss
  | _, _ => False
theorem okAll_len {as : List Addr} {G : Hp} : ∀ {vs : List V} {ss : List SS}, OkAll as G vs ss → vs.length = ss.length
  | [], [], _ => rfl
  | _ :: vs, _ :: ss, ⟨_, h2⟩ => congrArg (· + 1) (okAll_len h2)
  | [], _ :: _, h => h.elim
  | _ :: _, [], h => h.elim
def EvGs (rs : RS) (ta : TA) (S : Sl) (M M' : Mo) (ss : List SS) : Prop := ∀ H0 G0 H G as σ, Zt rs H0 G0 H G as M S σ → ∀ Q : List V → Hp → Prop,
  (∀ vs H' G' bs, Zt rs H0 G0 H' G' bs M' S σ → Same G G' → (∀ (j : Nat) a, as[j]? = some a → bs[j]? = some a) → OkAll bs G' vs ss → Q vs H') → ta σ H Q
theorem egs_nil : EvGs rs tNil S M M [] := fun H0 G0 H G as σ Z Q q => q [] H G as Z (Same.refl G) (fun _ _ z => z) trivial
theorem egs_cons {tr : TA} {M1 M2 : Mo} {s : SS} {ss : List SS} (h : EvG rs ta S M M1 s) (hr : EvGs rs tr S M1 M2 ss) : EvGs rs (tCons ta tr) S M M2 (s :: ss) := fun H0 G0 H G as σ Z Q q =>
  h H0 G0 H G as σ Z _ fun v H1 G1 bs Z1 e1 x1 r1 => hr H0 G0 H1 G1 bs σ Z1 _ fun vs H2 G2 cs Z2 e2 x2 r2 => q (v :: vs) H2 G2 cs Z2 (e1.trans e2) (fun j a z => x2 j a (x1 j a z)) ⟨SS.ok_ext x2 (SS.ok_mono e2 r1), r2⟩
def gNames : List Nat → TGs
  | [] => gNil
  | i :: is => gCons (gName i) (gNames is)
def setAll (S : Sl) : List Nat → List SS → Sl
  | i :: is, s :: ss => setAll (S.set i s) is ss
  | _, _ => S
theorem gNames_run {as : List Addr} {G H : Hp} {Q : L2.St → Hp → Prop} : ∀ {is : List Nat} {vs : List V} {ss : List SS} {S : Sl} {σ : L2.St}, OkAll as G vs ss → is.length = ss.length → Sat as G S σ →
    (∀ σ', Sat as G (setAll S is ss) σ' → Q σ' H) → gNames is vs σ H Q
  | [], [], [], _, σ, _, _, hS, q => ⟨rfl, q σ hS⟩
  | i :: is, v :: vs, s :: ss, _, σ, ⟨r, t⟩, hl, hS, q => ⟨v, _, rfl, gNames_run t (by simpa using hl) (hS.set r) q⟩
  | _, [], _ :: _, _, _, h, _, _, _ => h.elim
  | _, _ :: _, [], _, _, h, _, _, _ => h.elim
  | [], _ :: _, _ :: _, _, _, _, hl, _, _ => by simp at hl
  | _ :: _, [], [], _, _, _, hl, _, _ => by simp at hl
theorem go_parN {K : PySem.W.Frag} {tr : TA} {M' : Mo} {ss : List SS} {n : Nat} (is : List Nat) (hn : ss.length = n) (hi : is.length = n) (hl : n ≤ 100000) (h : EvGs rs tr S M M' ss) (k : Go rs H0 G0 D.nx (setAll S is ss) M') : Go rs H0 G0 (tAsg (tTup tr) (gTup K n (gNames is)) D) S M := fun H G as σ Z =>
  h H0 G0 H G as σ Z _ fun vs H1 G1 bs Z1 e1 x1 r1 => ⟨by
    rw [okAll_len r1, hn]
    exact Nat.le_trans hl (by decide), fun p hp => ⟨p, vs, rfl, .inl (.inl upd_same), by rw [okAll_len r1, hn], gNames_run r1 (hi.trans hn.symm) Z1.sat fun σ' hS => k _ _ _ _ ((Z1.junk hp).slots hS)⟩⟩
theorem go_if (h : EvT rs tt S M b) (h1 : b = true → Go rs H0 G0 (t D) S M) (h2 : b = false → Go rs H0 G0 (u D) S M) : Go rs H0 G0 (tIfS tt t u D) S M := fun H G as σ Z =>
  h H0 G0 H G as σ Z _ fun H1 G1 Z1 e1 => by
  cases b with
  | true =>
    show t D σ H1
    exact h1 rfl H1 G1 as σ Z1
  | false =>
    show u D σ H1
    exact h2 rfl H1 G1 as σ Z1
theorem go_next (h : Go rs H0 G0 D.nx S M) : Go rs H0 G0 (tNext D) S M := h
theorem go_ret (hq : ∀ v H', RetK H0 G0 R x v H' → D.rt v H') (he : Ev rs te S M R x) : Go rs H0 G0 (tRet te D) S M := fun H G as σ Z =>
  he H0 G0 H G as σ Z _ fun v H' G' Z' e r => hq v H' ⟨G', Z'.h, Z'.sub, Z'.bs, r⟩
theorem go_drop (he : Ev rs te S M R x) (k : Go rs H0 G0 D.nx S M) : Go rs H0 G0 (tDrop te D) S M := fun H G as σ Z => he H0 G0 H G as σ Z _ fun v H' G' Z' e r => k H' G' as σ Z'
theorem go_aug {i : Nat} {a b : Int} {g : Int → Int → Int} (hi : S[i]? = some (.is rInt a)) (he : Ev rs te S M rInt b) (k : Go rs H0 G0 D.nx (S.set i (.is rInt (g a b))) M) : Go rs H0 G0 (tAug i te (ipI g) D) S M := fun H G as σ Z => by
  obtain ⟨v, hv, w, rfl, r⟩ := Z.sat.look hi
  exact ⟨w, hv, he H0 G0 H G as σ Z _ fun y H' G' Z' e r' => ⟨a, b, r, r', k H' G' as _ (Z'.slots (Z'.sat.set ⟨_, rfl, rfl⟩))⟩⟩
theorem go_frzL {i j : Nat} {xs : List α} (hi : S[i]? = some (.own j)) (hM : M[j]? = some (some (oList R xs))) (k : Go rs H0 G0 P (S.set i (.is (rList R) xs)) (M.set j none)) : Go rs H0 G0 P S M := fun H G as σ Z => by
  obtain ⟨v, hv, a, ha, rfl⟩ := Z.sat.look hi
  obtain ⟨o, ho, ⟨vs, rfl, r⟩, Z', e⟩ := Z.freeze ha hM
  have q := Z'.sat.set (i := i) (s := .is (rList R) xs) (v := some (.ref a)) ⟨.ref a, rfl, a, vs, rfl, upd_same, allR_mono e r⟩
  rw [show σ.set i (some (.ref a)) = σ from List.ext_getElem? fun m => by
    by_cases hm : i = m
    · subst hm
      rw [List.getElem?_set_self (List.getElem?_eq_some_iff.mp hv).1, hv]
    · rw [List.getElem?_set_ne hm]] at q
  exact k H _ as σ (Z'.slots q)
theorem go_frzK {i j : Nat} {kvs : List (Nat × α)} (hi : S[i]? = some (.own j)) (hM : M[j]? = some (some (oDK R kvs))) (k : Go rs H0 G0 P (S.set i (.is (rDK R) kvs)) (M.set j none)) : Go rs H0 G0 P S M := fun H G as σ Z => by
  obtain ⟨v, hv, a, ha, rfl⟩ := Z.sat.look hi
  obtain ⟨o, ho, ⟨vs, rfl, r⟩, Z', e⟩ := Z.freeze ha hM
  have q := Z'.sat.set (i := i) (s := .is (rDK R) kvs) (v := some (.ref a)) ⟨.ref a, rfl, a, vs, rfl, upd_same, entR_mono e r⟩
  rw [show σ.set i (some (.ref a)) = σ from List.ext_getElem? fun m => by
    by_cases hm : i = m
    · subst hm
      rw [List.getElem?_set_self (List.getElem?_eq_some_iff.mp hv).1, hv]
    · rw [List.getElem?_set_ne hm]] at q
  exact k H _ as σ (Z'.slots q)
theorem go_app {K : PySem.W.Frag} {i j : Nat} {xs : List α} (hi : S[i]? = some (.own j)) (hM : M[j]? = some (some (oList R xs))) (hl : xs.length < 1000000) (he : Ev rs te S M R x) (k : Go rs H0 G0 D.nx S (M.set j (some (oList R (xs ++ [x]))))) :
    Go rs H0 G0 (tDrop (tBM K "list" rAppend (tVar i) (tCons te tNil)) D) S M := fun H G as σ Z => by
  obtain ⟨a, _, hv, ha, ho, ga, vs, rfl, r⟩ := Z.read hi hM
  refine ⟨.ref a, hv, .inl ⟨rfl, vs, .inl (.inl ho)⟩, he H0 G0 H G as σ Z _ fun y H1 G1 Z1 e1 r1 => ?_⟩
  obtain ⟨ga', o', ho', vs', rfl, r'⟩ := Z1.own j a _ ha hM
  exact ⟨a, vs', y, rfl, rfl, ho', by rw [r'.length]; exact Nat.lt_trans hl (by decide), k _ G1 as σ (Z1.mut ha hM ⟨_, rfl, pr_app r' (.cons r1 .nil)⟩)⟩
theorem go_pop {K : PySem.W.Frag} {i j m : Nat} {xs : List α} (hi : S[i]? = some (.own j)) (hM : M[j]? = some (some (oList R (xs ++ [x])))) (k : Go rs H0 G0 D.nx (S.set m (.is R x)) (M.set j (some (oList R xs)))) :
    Go rs H0 G0 (tAsg (tBM0 K "list" rPop (tVar i)) (gName m) D) S M := fun H G as σ Z => by
  obtain ⟨a, _, hv, ha, ho, ga, vs, rfl, r⟩ := Z.read hi hM
  have hl := r.length
  rw [List.length_append, List.length_singleton] at hl
  obtain ⟨y, hy, ry⟩ := pr_get r (i := xs.length) (y := x) (by rw [List.getElem?_append_right (Nat.le_refl _), Nat.sub_self] <;> rfl)
  have r' := pr_dropLast r
  rw [List.dropLast_concat] at r'
  refine ⟨.ref a, hv, .inl ⟨rfl, vs, .inl (.inl ho)⟩, a, vs, y, rfl, rfl, ho, by rw [show vs.length - 1 = xs.length by omega]; exact hy, ?_⟩
  have Z' := Z.mut ha hM (O' := oList R xs) (o := .lst vs.dropLast) ⟨_, rfl, r'⟩
  exact k _ G as _ (Z'.slots (Z'.sat.set ⟨y, rfl, ry⟩))
theorem go_setL {i j n : Nat} {xs : List α} (hi : S[i]? = some (.own j)) (hM : M[j]? = some (some (oList R xs))) (he : Ev rs te S M R x) (hn : Ev rs tb S M rNat n) (hl : n < xs.length) (k : Go rs H0 G0 D.nx S (M.set j (some (oList R (xs.set n x))))) :
    Go rs H0 G0 (tAsg te (gSub (tVar i) tb rSetL) D) S M := fun H G as σ Z =>
  he H0 G0 H G as σ Z _ fun y H1 G1 Z1 e1 r1 => by
  obtain ⟨a, _, hv, ha, _⟩ := Z1.read hi hM
  refine ⟨.ref a, hv, hn H0 G0 H1 G1 as σ Z1 _ fun w H2 G2 Z2 e2 r2 => ?_⟩
  obtain ⟨ga', o', ho', vs', rfl, r'⟩ := Z2.own j a _ ha hM
  refine ⟨a, vs', (n : Int), n, rfl, r2, ho', ?_, k _ G2 as σ (Z2.mut ha hM ⟨_, rfl, pr_set (R.mono e2 r1) n r'⟩)⟩
  have : vs'.length = xs.length := r'.length
  unfold ixN
  rw [if_pos (by omega), if_pos (by omega)] <;> simp
end
end B
namespace B
open PySem L2

theorem wipe_at (σ : L2.St) : ∀ (vs : List Nat) (i : Nat), (wipe σ vs)[i]? = if i ∈ vs then (if i < σ.length then some none else none) else σ[i]?
  | [], i => by simp [wipe]
  | v :: vs, i => by
    unfold wipe
    by_cases h : v = i
    · subst h
      rw [if_pos List.mem_cons_self]
      by_cases hl : v < σ.length
      · rw [List.getElem?_set_self (by rw [wipe_length]; exact hl), if_pos hl]
      · rw [List.getElem?_eq_none (by rw [List.length_set, wipe_length]; omega), if_neg hl]
    · rw [List.getElem?_set_ne h, wipe_at σ vs i]
      have hm : (i ∈ v :: vs) ↔ i ∈ vs := by
        rw [List.mem_cons]
        exact ⟨fun q => q.elim (fun e => absurd e.symm h) id, .inr⟩
      by_cases hi : i ∈ vs
      · rw [if_pos hi, if_pos (hm.mpr hi)]
      · rw [if_neg hi, if_neg (fun q => hi (hm.mp q))]
theorem wipe_wipe (σ : L2.St) (vs : List Nat) : wipe (wipe σ vs) vs = wipe σ vs := List.ext_getElem? fun i => by
  rw [wipe_at, wipe_length, wipe_at]
  by_cases h : i ∈ vs
  · rw [if_pos h, if_pos h]
  · rw [if_neg h, if_neg h]
theorem wipe_set {σ : L2.St} {vs : List Nat} {j : Nat} {v : Option V} (h : j ∈ vs) : wipe (σ.set j v) vs = wipe σ vs := List.ext_getElem? fun i => by
  rw [wipe_at, List.length_set, wipe_at]
  by_cases hi : i ∈ vs
  · rw [if_pos hi, if_pos hi]
  · rw [if_neg hi, if_neg hi, List.getElem?_set_ne (fun e => hi (by rw [← e]; exact h))]

structure ItR {α : Type} (J : It) (C : Hp → Prop) (G1 : Hp) (R : MR α) (xs : List α) : Prop where
  go : ∀ i H', C H' → Same G1 H' → i < xs.length → J.go i H'
  stop : ∀ H', C H' → Same G1 H' → J.stop xs.length H'
  yld : ∀ i H' G' v H'' x, C H' → Same G1 G' → Same G' H' → xs[i]? = some x → J.yld i H' v H'' → (H'' = H' ∧ R.rel G' v x) ∨ (∃ T o, H' T = none ∧ H'' = upd H' T o ∧ R.rel (upd G' T o) v x) ∨ (H'' = H' ∧ ∃ T ys, H' T = some (.tup ys) ∧ R.rel (upd G' T (.tup ys)) v x)
def ItOk {α : Type} (rs : RS) (wi : TI) (S : Sl) (M : Mo) (Pm : Mo → Prop) (R : MR α) (xs : List α) : Prop := ∀ H0 G0 H G as σ, Zt rs H0 G0 H G as M S σ → ∀ Rr : It → Hp → Prop,
  (∀ J H1 G1 C, Zt rs H0 G0 H1 G1 as M S σ → Same G G1 → (∀ H0 G0 H' G' as' M' S' σ', Pm M' → Zt rs H0 G0 H' G' as' M' S' σ' → C H') → ItR J C G1 R xs → Rr J H1) → wi σ H Rr
abbrev noPin : Mo → Prop := fun _ => True
def TgOk {α : Type} (g : TG) (R : MR α) (ts : List Nat) (f : Sl → α → Sl) : Prop := ∀ rs H0 G0 H G as M S σ v x (Q : L2.St → Hp → Prop), Zt rs H0 G0 H G as M S σ → R.rel G v x →
  (∀ σ', Zt rs H0 G0 H G as M (f S x) σ' → (∀ vs : List Nat, (∀ j ∈ ts, j ∈ vs) → wipe σ' vs = wipe σ vs) → Q σ' H) → g v σ H Q
section
variable {α β γ : Type} {rs : RS} {S : Sl} {M : Mo} {te ta tb tc tl : TE} {tr : TA} {tt tu : TT} {R : MR α} {T : MR β} {x : α} {y : β} {b c : Bool} {K : PySem.W.Frag}
theorem tg_name (j : Nat) : TgOk (gName j) R [j] (fun S x => S.set j (.is R x)) := fun rs H0 G0 H G as M S σ v x Q Z r q => q _ (Z.slots (Z.sat.set ⟨v, rfl, r⟩)) fun vs h => wipe_set (h j List.mem_cons_self)
theorem tg_pr (i j : Nat) : TgOk (gTup K 2 (gCons (gName i) (gCons (gName j) gNil))) (rPr R T) [i, j] (fun S x => (S.set i (.is R x.1)).set j (.is T x.2)) := fun rs H0 G0 H G as M S σ v x Q Z ⟨a, u, w, ea, ga, r1, r2⟩ q =>
  ⟨a, [u, w], ea, .inl (.inl (Z.sub _ _ ga)), rfl, u, [w], rfl, w, [], rfl, rfl, q _ (Z.slots ((Z.sat.set (i := i) (s := .is R x.1) (v := some u) ⟨u, rfl, r1⟩).set (i := j) (s := .is T x.2) (v := some w) ⟨w, rfl, r2⟩)) fun vs h => by
    rw [wipe_set (h j (by simp)), wipe_set (h i (by simp))]⟩

theorem it_list {xs : List α} (h : Ev rs tl S M (rList R) xs) : ItOk rs (iList K tl) S M noPin R xs := fun H0 G0 H G as σ Z Rr q => h H0 G0 H G as σ Z _ fun v H1 G1 Z1 e1 ⟨a, vs, ea, ga, r⟩ =>
  ⟨a, ea, ⟨vs, .inl (.inl (Z1.sub _ _ ga))⟩, q _ H1 G1 (fun _ => True) Z1 e1 (fun _ _ _ _ _ _ _ _ _ _ => trivial) ⟨fun i H' _ s hi => ⟨vs, vs[i]'(by rw [r.length]; exact hi), .inl (.inl (s _ _ ga)), List.getElem?_eq_getElem _⟩, fun H' _ s => ⟨vs, .inl (.inl (s _ _ ga)), by rw [r.length]; exact Nat.le_refl _⟩,
    fun i H' G' v H'' x _ s1 s2 hx ⟨e, hv⟩ => by
      obtain ⟨u, hu, ru⟩ := pr_get r hx
      have := hv vs (.inl (.inl (s2 _ _ (s1 _ _ ga))))
      rw [hu] at this
      cases this
      exact .inl ⟨e, R.mono s1 ru⟩⟩⟩
theorem it_tup {xs : List α} (h : Ev rs tl S M (rTup R) xs) : ItOk rs (iTup K tl) S M noPin R xs := fun H0 G0 H G as σ Z Rr q => h H0 G0 H G as σ Z _ fun v H1 G1 Z1 e1 ⟨a, vs, ea, ga, r⟩ =>
  ⟨a, ea, ⟨vs, .inl (.inl (Z1.sub _ _ ga))⟩, q _ H1 G1 (fun _ => True) Z1 e1 (fun _ _ _ _ _ _ _ _ _ _ => trivial) ⟨fun i H' _ s hi => ⟨vs, vs[i]'(by rw [r.length]; exact hi), .inl (.inl (s _ _ ga)), List.getElem?_eq_getElem _⟩, fun H' _ s => ⟨vs, .inl (.inl (s _ _ ga)), by rw [r.length]; exact Nat.le_refl _⟩,
    fun i H' G' v H'' x _ s1 s2 hx ⟨e, hv⟩ => by
      obtain ⟨u, hu, ru⟩ := pr_get r hx
      have := hv vs (.inl (.inl (s2 _ _ (s1 _ _ ga))))
      rw [hu] at this
      cases this
      exact .inl ⟨e, R.mono s1 ru⟩⟩⟩
theorem itr_ok {lo n : Nat} {C : Hp → Prop} {G1 : Hp} : ItR (Itr (lo : Int) n) C G1 rNat (List.range' lo n) := ⟨fun i H' _ _ hi => by
    show i < n
    simpa using hi, fun H' _ _ => by
    rw [List.length_range']
    exact Nat.le_refl _, fun i H' G' v H'' x _ _ _ hx ⟨e, hv⟩ => by
    obtain ⟨hi, e2⟩ := List.getElem?_eq_some_iff.mp hx
    rw [List.getElem_range'] at e2
    refine .inl ⟨e, ?_⟩
    rw [hv, ← e2]
    show V.int _ = V.int _
    congr 1
    omega⟩
theorem it_range1 {n : Nat} (h : Ev rs ta S M rNat n) (hn : n ≤ 1000000) : ItOk rs (iRng1 (tCons ta tNil)) S M noPin rNat (List.range' 0 n) := fun H0 G0 H G as σ Z Rr q => h H0 G0 H G as σ Z _ fun v H1 G1 Z1 e1 r =>
  ⟨n, by rw [r], by omega, by omega, by
    rw [Int.toNat_natCast]
    exact q _ H1 G1 (fun _ => True) Z1 e1 (fun _ _ _ _ _ _ _ _ _ _ => trivial) (itr_ok (lo := 0))⟩
theorem it_range2 {lo n : Nat} (h1 : Ev rs ta S M rNat lo) (h2 : Ev rs tb S M rNat n) (hl : lo ≤ 1000000) (hn : n ≤ 1000000) : ItOk rs (iRng2 (tCons ta (tCons tb tNil))) S M noPin rNat (List.range' lo (n - lo)) := fun H0 G0 H G as σ Z Rr q =>
  h1 H0 G0 H G as σ Z _ fun v H1 G1 Z1 e1 r => h2 H0 G0 H1 G1 as σ Z1 _ fun v2 H2 G2 Z2 e2 r2 => ⟨lo, n, by rw [r, r2], ⟨by omega, by omega, by omega, by omega⟩, by
    rw [show ((n : Int) - (lo : Int)).toNat = n - lo by omega]
    exact q _ H2 G2 (fun _ => True) Z2 (e1.trans e2) (fun _ _ _ _ _ _ _ _ _ _ => trivial) itr_ok⟩
def zipI (xs : List α) : List (Nat × α) := xs.zipIdx.map fun p => (p.2, p.1)
theorem zipI_at (xs : List α) (i : Nat) : (zipI xs)[i]? = xs[i]?.map fun x => (i, x) := by
  unfold zipI
  rw [List.getElem?_map, List.getElem?_zipIdx]
  cases xs[i]? with
  | none => rfl
  | some x => simp
theorem zipI_len (xs : List α) : (zipI xs).length = xs.length := by simp [zipI]
theorem it_enum {xs : List α} (h : Ev rs ta S M (rList R) xs) : ItOk rs (iEnum K (tCons ta tNil)) S M noPin (rPr rNat R) (zipI xs) := fun H0 G0 H G as σ Z Rr q => h H0 G0 H G as σ Z _ fun v H1 G1 Z1 e1 ⟨a, vs, ea, ga, r⟩ =>
  ⟨a, vs, by rw [ea], .inl (.inl (Z1.sub _ _ ga)), q _ H1 G1 (fun _ => True) Z1 e1 (fun _ _ _ _ _ _ _ _ _ _ => trivial) ⟨fun i H' _ s hi => ⟨vs, vs[i]'(by rw [r.length]; rw [zipI_len] at hi; exact hi), .inl (.inl (s _ _ ga)), List.getElem?_eq_getElem _⟩, fun H' _ s => ⟨vs, .inl (.inl (s _ _ ga)), by rw [r.length, zipI_len]; exact Nat.le_refl _⟩,
    fun i H' G' v H'' p _ s1 s2 hx hy => by
      obtain ⟨T, u, rfl, hT, rfl, hv⟩ := hy
      rw [zipI_at] at hx
      cases hq : xs[i]? with
      | none =>
        rw [hq] at hx
        cases hx
      | some z =>
        rw [hq] at hx
        cases hx
        obtain ⟨u', hu, ru⟩ := pr_get r hq
        have := hv vs (.inl (.inl (s2 _ _ (s1 _ _ ga))))
        rw [hu] at this
        cases this
        have gT := none_sub s2 hT
        exact .inr (.inl ⟨T, _, hT, rfl, T, _, _, rfl, upd_same, rfl, R.mono (s1.trans (same_new gT)) ru⟩)⟩⟩
theorem it_zip {xs : List α} {ys : List β} (h1 : Ev rs ta S M (rList R) xs) (h2 : Ev rs tb S M (rList T) ys) : ItOk rs (iZip K (tCons ta (tCons tb tNil))) S M noPin (rPr R T) (xs.zip ys) := fun H0 G0 H G as σ Z Rr q =>
  h1 H0 G0 H G as σ Z _ fun v H1 G1 Z1 e1 ⟨a, vs, ea, ga1, r1⟩ => h2 H0 G0 H1 G1 as σ Z1 _ fun v2 H2 G2 Z2 e2 ⟨b, ws, eb, gb, r2⟩ => by
  have ga : G2 a = some (.lst vs) := e2 _ _ ga1
  have r1 := allR_mono e2 r1
  refine ⟨a, b, vs, ws, by rw [ea, eb], .inl (.inl (Z2.sub _ _ ga)), .inl (.inl (Z2.sub _ _ gb)), q _ H2 G2 (fun _ => True) Z2 (e1.trans e2) (fun _ _ _ _ _ _ _ _ _ _ => trivial) ⟨fun i H' _ s hi => ?_, fun H' _ s => ⟨vs, ws, .inl (.inl (s _ _ ga)), .inl (.inl (s _ _ gb)), ?_⟩, fun i H' G' v H'' p _ s1 s2 hx hy => ?_⟩⟩
  · rw [List.length_zip] at hi
    exact ⟨vs, ws, vs[i]'(by rw [r1.length]; omega), ws[i]'(by rw [r2.length]; omega), .inl (.inl (s _ _ ga)), .inl (.inl (s _ _ gb)), List.getElem?_eq_getElem _, List.getElem?_eq_getElem _⟩
  · rw [r1.length, r2.length, List.length_zip]
    omega
  · obtain ⟨T', u, w, rfl, hT, rfl, hv, hw⟩ := hy
    obtain ⟨hx1, hx2⟩ : xs[i]? = some p.1 ∧ ys[i]? = some p.2 := by
      rw [List.getElem?_zip_eq_some] at hx
      exact hx
    obtain ⟨u', hu, ru⟩ := pr_get r1 hx1
    obtain ⟨w', hw', rw'⟩ := pr_get r2 hx2
    have e3 := hv vs (.inl (.inl (s2 _ _ (s1 _ _ ga))))
    have e4 := hw ws (.inl (.inl (s2 _ _ (s1 _ _ gb))))
    rw [hu] at e3
    rw [hw'] at e4
    cases e3
    cases e4
    have gT := none_sub s2 hT
    exact .inr (.inl ⟨T', _, hT, rfl, T', _, _, rfl, upd_same, R.mono (s1.trans (same_new gT)) ru, T.mono (s1.trans (same_new gT)) rw'⟩)

theorem go_for {σt : Type} {wi : TI} {g : TG} {t : TS} {H0 G0 : Hp} {D : Ends} {xs : List α} {ts : List Nat} {f : Sl → α → Sl} {Pm : Mo → Prop} (Sf : σt → Sl) (Mf : σt → Mo) (I : Nat → σt → Prop) (s0 : σt) (hi : ItOk rs wi S M Pm R xs) (hg : TgOk g R ts f)
    (h0 : I 0 s0) (hS : Wk S (Sf s0)) (hM : M = Mf s0)
    (hb : ∀ G1, Bs H0 G0 G1 → ∀ i s x, xs[i]? = some x → I i s → Go rs H0 G1 (t { D with nx := fun σ H => ∃ s', I (i + 1) s' ∧ ∃ G as, Zt rs H0 G1 H G as (Mf s') (Sf s') σ, ct := fun σ H => ∃ s', I (i + 1) s' ∧ ∃ G as, Zt rs H0 G1 H G as (Mf s') (Sf s') σ, bk := D.nx }) (f (Sf s) x) (Mf s))
    (hd : ∀ s, I xs.length s → Go rs H0 G0 D.nx (Sf s) (Mf s)) (hP : ∀ s, Pm (Mf s) := by exact fun _ => trivial) : Go rs H0 G0 (tFor wi g t D) S M := fun H G as σ Z => by
  subst hM
  refine hi H0 G0 H G as σ Z _ fun J H1 G1 C Z1 e1 hC it => ?_
  have bs1 := Z1.bs
  refine ⟨fun i m σ H => m = xs.length - i ∧ i ≤ xs.length ∧ ∃ s, I i s ∧ ∃ G as, Zt rs H0 G1 H G as (Mf s) (Sf s) σ, ⟨xs.length, by omega, Nat.zero_le _, s0, h0, G1, as, (Z1.slots (Z1.sat.wk hS)).rebase bs1 (Same.refl G1)⟩, ?_⟩
  rintro i m σ' H' ⟨rfl, hle, s, hI, G', as', Z'⟩
  by_cases hlt : i < xs.length
  · refine .inr ⟨it.go i H' (hC _ _ _ _ _ _ _ _ (hP s) Z') (Z'.g.trans Z'.sub) hlt, fun σ H => ∃ s', I (i + 1) s' ∧ ∃ G as, Zt rs H0 G1 H G as (Mf s') (Sf s') σ, fun σ2 H2 ⟨s', hI', G2, as2, Z2⟩ => ⟨xs.length - (i + 1), by omega, rfl, by omega, s', hI', G2, as2, Z2⟩, fun v H'' hy => ?_⟩
    have hx : xs[i]? = some xs[i] := List.getElem?_eq_getElem hlt
    rcases it.yld i H' G' v H'' xs[i] (hC _ _ _ _ _ _ _ _ (hP s) Z') Z'.g Z'.sub hx hy with ⟨rfl, r⟩ | ⟨T, o, hT, rfl, r⟩ | ⟨rfl, T, zs, hT, r⟩
    · exact hg rs H0 G1 _ G' as' (Mf s) (Sf s) σ' v xs[i] _ Z' r fun σ2 Z2 _ => hb G1 bs1 i s xs[i] hx hI _ G' as' σ2 Z2
    · obtain ⟨Z2, e2⟩ := Z'.new_ (o := o) hT
      exact hg rs H0 G1 _ _ as' (Mf s) (Sf s) σ' v xs[i] _ Z2 r fun σ2 Z3 _ => hb G1 bs1 i s xs[i] hx hI _ _ as' σ2 Z3
    · obtain ⟨Z2, e2⟩ := Z'.adopt hT
      exact hg rs H0 G1 _ _ as' (Mf s) (Sf s) σ' v xs[i] _ Z2 r fun σ2 Z3 _ => hb G1 bs1 i s xs[i] hx hI _ _ as' σ2 Z3
  · have e : i = xs.length := by omega
    subst e
    exact .inl ⟨it.stop H' (hC _ _ _ _ _ _ _ _ (hP s) Z') (Z'.g.trans Z'.sub), hd s hI H' G' as' σ' (Z'.unbase bs1)⟩
theorem go_turn {σt : Type} {H0 G1 : Hp} {Sf : σt → Sl} {Mf : σt → Mo} {I : σt → Prop} (s' : σt) (hI : I s') (hS : Wk S (Sf s')) (hM : M = Mf s') : Go rs H0 G1 (fun σ H => ∃ s', I s' ∧ ∃ G as, Zt rs H0 G1 H G as (Mf s') (Sf s') σ) S M := fun H G as σ Z => by
  subst hM
  exact ⟨s', hI, G, as, Z.slots (Z.sat.wk hS)⟩
theorem go_while {σt : Type} {t : TS} {H0 G0 : Hp} {D : Ends} (Sf : σt → Sl) (Mf : σt → Mo) (I : σt → Prop) (μ : σt → Nat) (bf : σt → Bool) (s0 : σt) (h0 : I s0) (hS : Wk S (Sf s0)) (hM : M = Mf s0)
    (ht : ∀ s, I s → EvT rs tt (Sf s) (Mf s) (bf s))
    (hb : ∀ s, I s → bf s = true → Go rs H0 G0 (t { D with nx := fun σ H => ∃ s', (I s' ∧ μ s' < μ s) ∧ ∃ G as, Zt rs H0 G0 H G as (Mf s') (Sf s') σ, ct := fun σ H => ∃ s', (I s' ∧ μ s' < μ s) ∧ ∃ G as, Zt rs H0 G0 H G as (Mf s') (Sf s') σ, bk := D.nx }) (Sf s) (Mf s))
    (hd : ∀ s, I s → bf s = false → Go rs H0 G0 D.nx (Sf s) (Mf s)) : Go rs H0 G0 (tWhile tt t D) S M := fun H G as σ Z => by
  subst hM
  refine ⟨fun m σ H => ∃ s, m = μ s ∧ I s ∧ ∃ G as, Zt rs H0 G0 H G as (Mf s) (Sf s) σ, ⟨_, s0, rfl, h0, G, as, Z.slots (Z.sat.wk hS)⟩, ?_⟩
  rintro m σ' H' ⟨s, rfl, hI, G', as', Z'⟩
  refine ht s hI H0 G0 H' G' as' σ' Z' _ fun H1 G1 Z1 e1 => ?_
  cases hbs : bf s with
  | true => exact ⟨_, fun σ2 H2 ⟨s', ⟨hI', hm⟩, G2, as2, Z2⟩ => ⟨μ s', hm, s', rfl, hI', G2, as2, Z2⟩, hb s hI hbs H1 G1 as' σ' Z1⟩
  | false => exact hd s hI hbs H1 G1 as' σ' Z1

theorem ev_lc {wi : TI} {g : TG} {xs : List α} {ts vs : List Nat} {f : Sl → α → Sl} {Pm : Mo → Prop} (p : α → Bool) (h : α → β) (hi : ItOk rs wi S M Pm R xs) (hg : TgOk g R ts f) (hv : ∀ j ∈ ts, j ∈ vs) (hl : xs.length ≤ 1000000)
    (ht : ∀ x, x ∈ xs → ∀ m, EvT rs tt (f (wipeS S vs) x) (M ++ [m]) (p x)) (he : ∀ x, x ∈ xs → p x = true → ∀ m, Ev rs te (f (wipeS S vs) x) (M ++ [m]) T (h x)) (hP : ∀ m, Pm (M ++ [m]) := by exact fun _ => trivial) : Ev rs (tLc wi g tt te vs) S M (rList T) ((xs.filter p).map h) := fun H0 G0 H G as σ Z Q q => by
  refine hi H0 G0 H G as σ Z _ fun J H1 G1 C Z1 e1 hC it => ?_
  intro Dl hD
  have bs1 := Z1.bs
  refine ⟨fun i m H' => m = xs.length - i ∧ i ≤ xs.length ∧ ∃ G', Zt rs H0 G1 H' G' (as ++ [Dl]) (M ++ [some (oList T (((xs.take i).filter p).map h))]) S σ, ⟨xs.length, by omega, Nat.zero_le _, G1, ?_⟩, ?_⟩
  · exact (Z1.rebase bs1 (Same.refl G1)).owned hD ⟨[], rfl, .nil⟩
  rintro i m H' ⟨rfl, hle, G', Z'⟩
  have hln : as.length = M.length := Z.len
  have ha : (as ++ [Dl])[as.length]? = some Dl := by rw [List.getElem?_append_right (Nat.le_refl _), Nat.sub_self] <;> rfl
  have hM : ∀ m : Option OS, (M ++ [m])[as.length]? = some m := fun m => by rw [List.getElem?_append_right (by omega), hln, Nat.sub_self] <;> rfl
  by_cases hlt : i < xs.length
  · refine .inr ⟨it.go i H' (hC _ _ _ _ _ _ _ _ (hP _) Z') (Z'.g.trans Z'.sub) hlt, fun H' => ∃ G', Zt rs H0 G1 H' G' (as ++ [Dl]) (M ++ [some (oList T (((xs.take (i + 1)).filter p).map h))]) S σ, fun H2 ⟨G2, Z2⟩ => ⟨xs.length - (i + 1), by omega, rfl, by omega, G2, Z2⟩, fun v H'' hy => ?_⟩
    have hx : xs[i]? = some xs[i] := List.getElem?_eq_getElem hlt
    have hmem : xs[i] ∈ xs := List.getElem_mem hlt
    have etake : xs.take (i + 1) = xs.take i ++ [xs[i]] := by rw [List.take_add_one, hx] <;> rfl
    have main : ∀ H2 G2, Zt rs H0 G1 H2 G2 (as ++ [Dl]) (M ++ [some (oList T (((xs.take i).filter p).map h))]) S σ → R.rel G2 v xs[i] →
        g v (wipe σ vs) H2 fun σ2 H2 => wipe σ2 vs = wipe σ vs ∧ tt σ2 H2 fun b H3 => if b = true then te σ2 H3 fun y H4 => ∃ acc, H4 Dl = some (.lst acc) ∧ acc.length < sizeLine ∧ (fun H' => ∃ G', Zt rs H0 G1 H' G' (as ++ [Dl]) (M ++ [some (oList T (((xs.take (i + 1)).filter p).map h))]) S σ) (upd H4 Dl (.lst (acc ++ [y]))) else (fun H' => ∃ G', Zt rs H0 G1 H' G' (as ++ [Dl]) (M ++ [some (oList T (((xs.take (i + 1)).filter p).map h))]) S σ) H3 := fun H2 G2 Z2 r2 => by
      refine hg rs H0 G1 H2 G2 _ _ (wipeS S vs) (wipe σ vs) v xs[i] _ (Z2.slots (Z2.sat.wipe vs)) r2 fun σ2 Z3 w2 => ⟨(w2 vs hv).trans (wipe_wipe σ vs), ?_⟩
      refine ht xs[i] hmem _ H0 G1 H2 G2 _ σ2 Z3 _ fun H3 G3 Z4 e4 => ?_
      have back : ∀ {H5 G5 : Hp} {m}, Zt rs H0 G1 H5 G5 (as ++ [Dl]) (M ++ [m]) (f (wipeS S vs) xs[i]) σ2 → Same G2 G5 → Zt rs H0 G1 H5 G5 (as ++ [Dl]) (M ++ [m]) S σ := fun Z5 e5 => Z5.slots (Z2.sat.mono e5)
      cases hp : p xs[i] with
      | true =>
        show te σ2 H3 _
        refine he xs[i] hmem hp _ H0 G1 H3 G3 _ σ2 Z4 _ fun y H4 G4 Z5 e5 r5 => ?_
        obtain ⟨ga, o, ho, acc, rfl, racc⟩ := Z5.own as.length Dl _ ha (hM _)
        refine ⟨acc, ho, ?_, G4, ?_⟩
        · rw [racc.length, List.length_map]
          have := List.length_filter_le p (xs.take i)
          have h2 : (xs.take i).length ≤ xs.length := by rw [List.length_take]; omega
          have h3 : (1000000 : Nat) < sizeLine := by decide
          omega
        · have Z6 := (Z5.mut ha (hM _) (O' := oList T (((xs.take (i + 1)).filter p).map h)) (o := .lst (acc ++ [y])) ⟨_, rfl, by
            rw [etake, List.filter_append, List.map_append, show List.filter p [xs[i]] = [xs[i]] by rw [List.filter_cons, if_pos hp] <;> rfl]
            exact pr_app racc (.cons r5 .nil)⟩)
          rw [show (M ++ [some (oList T (((xs.take i).filter p).map h))]).set as.length (some (oList T (((xs.take (i + 1)).filter p).map h))) = M ++ [some (oList T (((xs.take (i + 1)).filter p).map h))] by
            rw [List.set_append_right _ _ (by omega), hln, Nat.sub_self] <;> rfl] at Z6
          exact back Z6 (e4.trans e5)
      | false =>
        show ∃ G', _
        refine ⟨G3, ?_⟩
        have eq : ((xs.take (i + 1)).filter p).map h = ((xs.take i).filter p).map h := by
          rw [etake, List.filter_append, show List.filter p [xs[i]] = [] by rw [List.filter_cons, if_neg (by rw [hp]; decide)] <;> rfl, List.append_nil]
        rw [eq]
        exact back Z4 e4
    rcases it.yld i H' G' v H'' xs[i] (hC _ _ _ _ _ _ _ _ (hP _) Z') Z'.g Z'.sub hx hy with ⟨rfl, r⟩ | ⟨T', o, hT, rfl, r⟩ | ⟨rfl, T', zs, hT, r⟩
    · exact main _ G' Z' r
    · obtain ⟨Z2, e2⟩ := Z'.new_ (o := o) hT
      exact main _ _ Z2 r
    · obtain ⟨Z2, e2⟩ := Z'.adopt hT
      exact main _ _ Z2 r
  · have e : i = xs.length := by omega
    subst e
    refine .inl ⟨it.stop H' (hC _ _ _ _ _ _ _ _ (hP _) Z') (Z'.g.trans Z'.sub), ?_⟩
    obtain ⟨o, ho, ⟨acc, rfl, racc⟩, Z2, e2⟩ := Z'.freeze ha (hM _)
    rw [List.take_length] at racc
    have Z3 : Zt rs H0 G1 H' (upd G' Dl (.lst acc)) as M S σ := by
      have eM : (M ++ [some (oList T (((xs.take xs.length).filter p).map h))]).set as.length none = M ++ [none] := by
        rw [List.set_append_right _ _ (by omega), hln, Nat.sub_self] <;> rfl
      rw [eM] at Z2
      exact Z2.pop (Z1.sat.mono (Z2.g))
    exact q _ _ _ (Z3.unbase bs1) (e1.trans Z3.g) ⟨Dl, acc, rfl, upd_same, allR_mono e2 racc⟩
theorem filter_all {xs : List α} : xs.filter (fun _ => true) = xs := List.filter_eq_self.mpr fun _ _ => rfl
theorem ev_lc0 {wi : TI} {g : TG} {xs : List α} {ts vs : List Nat} {f : Sl → α → Sl} (h : α → β) (hi : ItOk rs wi S M noPin R xs) (hg : TgOk g R ts f) (hv : ∀ j ∈ ts, j ∈ vs) (hl : xs.length ≤ 1000000)
    (he : ∀ x, x ∈ xs → ∀ m, Ev rs te (f (wipeS S vs) x) (M ++ [m]) T (h x)) : Ev rs (tLc wi g tYes te vs) S M (rList T) (xs.map h) := by
  have := ev_lc (fun _ => true) h hi hg hv hl (fun _ _ _ => et_yes) (fun x hx _ m => he x hx m)
  rw [filter_all] at this
  exact this
end
end B
namespace B
open PySem L2

section
variable {κ ι β : Type} [DecidableEq κ] [DecidableEq ι]
def look (kvs : List (κ × β)) (k : κ) : Option β := (kvs.find? fun e => decide (e.1 = k)).map (·.2)
def put (kvs : List (κ × β)) (k : κ) (x : β) : List (κ × β) := if (kvs.any fun e => decide (e.1 = k)) = true then kvs.map (fun e => if e.1 = k then (e.1, x) else e) else kvs ++ [(k, x)]
theorem look_nil (k : κ) : look ([] : List (κ × β)) k = none := rfl
theorem look_cons (e : κ × β) (r : List (κ × β)) (k : κ) : look (e :: r) k = if e.1 = k then some e.2 else look r k := by
  unfold look
  rw [List.find?_cons]
  by_cases h : e.1 = k
  · simp [h]
  · simp [h]
theorem look_any (k : κ) : ∀ kvs : List (κ × β), (kvs.any fun e => decide (e.1 = k)) = (look kvs k).isSome
  | [] => rfl
  | e :: r => by
    rw [List.any_cons, look_any k r, look_cons]
    by_cases h : e.1 = k
    · simp [h]
    · simp [h]
theorem look_map (k j : κ) (y : β) : ∀ kvs : List (κ × β), look (kvs.map fun e => if e.1 = k then (e.1, y) else e) j = (look kvs j).map fun x => if j = k then y else x
  | [] => rfl
  | e :: r => by
    rw [List.map_cons, look_cons, look_cons, look_map k j y r]
    by_cases h : e.1 = k
    · rw [if_pos h]
      by_cases h2 : e.1 = j
      · rw [if_pos h2, if_pos h2]
        simp [← h2, h]
      · rw [if_neg h2, if_neg h2]
    · rw [if_neg h]
      by_cases h2 : e.1 = j
      · rw [if_pos h2, if_pos h2]
        have : ¬ j = k := fun z => h (h2.trans z)
        simp [this]
      · rw [if_neg h2, if_neg h2]
theorem look_app (kvs more : List (κ × β)) (j : κ) : look (kvs ++ more) j = (look kvs j).or (look more j) := by
  induction kvs with
  | nil => simp [look_nil]
  | cons e r ih =>
    rw [List.cons_append, look_cons, look_cons, ih]
    by_cases h : e.1 = j
    · simp [h]
    · simp [h]
theorem look_put (kvs : List (κ × β)) (k j : κ) (y : β) : look (put kvs k y) j = if j = k then some y else look kvs j := by
  unfold put
  rw [look_any]
  by_cases h : (look kvs k).isSome = true
  · rw [if_pos h, look_map]
    by_cases hj : j = k
    · subst hj
      obtain ⟨x, hx⟩ := Option.isSome_iff_exists.mp h
      simp [hx]
    · simp [hj]
  · rw [if_neg h, look_app, look_cons, look_nil]
    have hn : look kvs k = none := by simpa using h
    by_cases hj : j = k
    · subst hj
      simp [hn]
    · have : ¬ k = j := fun z => hj z.symm
      simp [this, hj]
theorem put_new {kvs : List (κ × β)} {k : κ} (y : β) (h : look kvs k = none) : put kvs k y = kvs ++ [(k, y)] := by
  unfold put
  rw [look_any, h]
  rfl
theorem put_len (kvs : List (κ × β)) (k : κ) (y : β) : (put kvs k y).length ≤ kvs.length + 1 := by
  unfold put
  split <;> simp
theorem look_mem {kvs : List (κ × β)} {k : κ} {x : β} (h : look kvs k = some x) : (k, x) ∈ kvs := by
  induction kvs with
  | nil => cases h
  | cons e r ih =>
    rw [look_cons] at h
    by_cases he : e.1 = k
    · rw [if_pos he] at h
      cases h
      rw [← he]
      exact List.mem_cons_self
    · rw [if_neg he] at h
      exact List.mem_cons_of_mem _ (ih h)
theorem look_isSome {kvs : List (κ × β)} {k : κ} : (look kvs k).isSome = true ↔ k ∈ kvs.map (·.1) := by
  induction kvs with
  | nil => simp [look_nil]
  | cons e r ih =>
    rw [look_cons, List.map_cons, List.mem_cons]
    by_cases h : e.1 = k
    · simp [h]
    · rw [if_neg h, ih]
      exact ⟨.inr, fun q => q.elim (fun z => absurd z.symm h) id⟩
variable {enc : κ → ι} {R : MR β} {G : Hp}
theorem ent_look (inj : ∀ a b, enc a = enc b → a = b) : ∀ {es : List (ι × V)} {kvs : List (κ × β)}, EntR enc R G es kvs → ∀ k, (look kvs k = none → valV es (enc k) = none) ∧ ∀ x, look kvs k = some x → ∃ v, valV es (enc k) = some v ∧ R.rel G v x
  | _, _, .nil, k => ⟨fun _ => rfl, fun x h => (nomatch h)⟩
  | _, _, .cons (a := e) (b := kx) er t, k => by
    have e1 := er.1
    have r1 := er.2
    rw [look_cons]
    by_cases h : kx.1 = k
    · rw [if_pos h]
      refine ⟨fun z => (nomatch z), fun x hx => ⟨e.2, ?_, ?_⟩⟩
      · exact valV_pos (by rw [e1, h])
      · cases hx
        exact r1
    · rw [if_neg h, valV_neg (fun z => h (inj _ _ (e1.symm.trans z)))]
      exact ent_look inj t k
theorem ent_some (inj : ∀ a b, enc a = enc b → a = b) {es : List (ι × V)} {kvs : List (κ × β)} (h : EntR enc R G es kvs) (k : κ) : (valV es (enc k)).isSome = (look kvs k).isSome := by
  obtain ⟨h1, h2⟩ := ent_look inj h k
  cases hl : look kvs k with
  | none => rw [h1 hl]; rfl
  | some x =>
    obtain ⟨v, hv, _⟩ := h2 x hl
    rw [hv]
    rfl
theorem ent_put (inj : ∀ a b, enc a = enc b → a = b) {es : List (ι × V)} {kvs : List (κ × β)} (h : EntR enc R G es kvs) (k : κ) {v : V} {x : β} (r : R.rel G v x) : EntR enc R G (putK es (enc k) v) (put kvs k x) := by
  have ha : (es.any fun kv => decide (kv.1 = enc k)) = (kvs.any fun e => decide (e.1 = k)) := by
    rw [valV_any, look_any, ent_some inj h]
  unfold putK put
  rw [ha]
  by_cases hp : (kvs.any fun e => decide (e.1 = k)) = true
  · rw [if_pos hp, if_pos hp]
    clear ha hp
    induction h with
    | nil => exact .nil
    | @cons a b l m q t ih =>
      rw [List.map_cons, List.map_cons]
      refine .cons ?_ ih
      by_cases hk : b.1 = k
      · rw [if_pos hk, if_pos (by rw [q.1, hk])]
        exact ⟨q.1, r⟩
      · rw [if_neg hk, if_neg (fun z => hk (inj _ _ (q.1.symm.trans z)))]
        exact q
  · rw [if_neg hp, if_neg hp]
    exact pr_app h (.cons ⟨rfl, r⟩ .nil)
end
structure KeyT {κ : Type} (R : MR κ) (enc : κ → List Key) : Prop where
  tup : ∀ G v k, R.rel G v k → ∃ b, v = .ref b ∧ G b = some (.tup ((enc k).map kV))
  inj : ∀ a b, enc a = enc b → a = b
  back : ∀ G b k, G b = some (.tup ((enc k).map kV)) → R.rel G (.ref b) k
def encP (p : Nat × Nat) : List Key := [.inl (p.1 : Int), .inl (p.2 : Int)]
theorem keyP : KeyT (rPr rNat rNat) encP := ⟨fun G v k ⟨a, u, w, e, g, r1, r2⟩ => ⟨a, e, by rw [g, r1, r2]; rfl⟩, fun a b h => by
  unfold encP at h
  simp only [List.cons.injEq, Sum.inl.injEq, and_true] at h
  exact Prod.ext (by omega) (by omega), fun G b k h => ⟨b, _, _, rfl, h, rfl, rfl⟩⟩
def encS (p : Str × Nat) : List Key := [.inr p.1, .inl (p.2 : Int)]
theorem keyS : KeyT (rPr rStr rNat) encS := ⟨fun G v k ⟨a, u, w, e, g, r1, r2⟩ => ⟨a, e, by rw [g, r1, r2]; rfl⟩, fun a b h => by
  unfold encS at h
  simp only [List.cons.injEq, Sum.inl.injEq, Sum.inr.injEq, and_true] at h
  exact Prod.ext h.1 (by omega), fun G b k h => ⟨b, _, _, rfl, h, rfl, rfl⟩⟩
theorem encN_inj : ∀ a b, encN a = encN b → a = b := fun a b h => by
  unfold encN at h
  rw [Sum.inl.injEq] at h
  omega
structure IsDT {κ β : Type} (O : OS) (enc : κ → List Key) (R : MR β) (kvs : List (κ × β)) : Prop where
  rd : ∀ a G o, O.rel a G o → ∃ es, (o = .dT es ∨ ∃ od, o = .frz od (.dT es)) ∧ EntR enc R G es kvs
theorem isDT {κ β : Type} {enc : κ → List Key} {R : MR β} {kvs : List (κ × β)} : IsDT (oDT enc R kvs) enc R kvs := ⟨fun _ G o ⟨es, e, h⟩ => ⟨es, .inl e, h⟩⟩
theorem isLk {κ β : Type} {d : Addr} {od : PySem.Obj} {es : List (List Key × V)} {enc : κ → List Key} {R : MR β} {kvs : List (κ × β)} : IsDT (oLk d od es enc R kvs) enc R kvs := ⟨fun _ G o ⟨_, e, h⟩ => ⟨es, .inr ⟨od, e⟩, h⟩⟩
section
variable {α β κ : Type} [DecidableEq κ] {rs : RS} {S : Sl} {M : Mo} {te ta tb ty tx tv : TE} {R : MR α} {Rk : MR κ} {enc : κ → List Key} {kvs : List (κ × α)} {k : κ} {x d : α} {i j : Nat} {O : OS}
theorem dt_get {H G : Hp} {v : V} {a : Addr} {o : HO} (hk : KeyT Rk enc) (ho : H a = some o) (hO : O.rel a G o) (hd : IsDT O enc R kvs) (sb : Same G H) (hv : Rk.rel G v k) :
    ∃ es, EntR enc R G es kvs ∧ DGet H a v (valV es (enc k)) ∧ IsD H a := by
  obtain ⟨es, he, hr⟩ := hd.rd a G o hO
  obtain ⟨b, rfl, gb⟩ := hk.tup G v k hv
  have rd : Rd H a (.dT es) := by
    rcases he with rfl | ⟨od, rfl⟩
    · exact .inl ho
    · exact .inr ⟨od, ho⟩
  exact ⟨es, hr, .inr ⟨es, enc k, b, rd, rfl, sb _ _ gb, rfl⟩, .inr ⟨es, rd⟩⟩
theorem ev_din (hk : KeyT Rk enc) (hi : S[i]? = some (.own j)) (hM : M[j]? = some (some O)) (hd : IsDT O enc R kvs) (hy : Ev rs ty S M Rk k) : Ev rs (tDIn ty (tVar i)) S M rBool (look kvs k).isSome := fun H0 G0 H G as σ Z Q q =>
  hy H0 G0 H G as σ Z _ fun v H1 G1 Z1 e1 r1 => by
  obtain ⟨a, o, hv, ha, ho, ga, hO⟩ := Z1.read hi hM
  obtain ⟨es, hr, hg, _⟩ := dt_get hk ho hO hd Z1.sub r1
  exact ⟨.ref a, hv, a, _, rfl, hg, q _ H1 G1 Z1 e1 (by rw [ent_some hk.inj hr]; rfl)⟩
theorem ev_dnin (hk : KeyT Rk enc) (hi : S[i]? = some (.own j)) (hM : M[j]? = some (some O)) (hd : IsDT O enc R kvs) (hy : Ev rs ty S M Rk k) : Ev rs (tDNotIn ty (tVar i)) S M rBool (look kvs k).isNone := fun H0 G0 H G as σ Z Q q =>
  hy H0 G0 H G as σ Z _ fun v H1 G1 Z1 e1 r1 => by
  obtain ⟨a, o, hv, ha, ho, ga, hO⟩ := Z1.read hi hM
  obtain ⟨es, hr, hg, _⟩ := dt_get hk ho hO hd Z1.sub r1
  exact ⟨.ref a, hv, a, _, rfl, hg, q _ H1 G1 Z1 e1 (by rw [ent_some hk.inj hr, Option.not_isSome]; rfl)⟩
theorem ev_dget (hk : KeyT Rk enc) (hi : S[i]? = some (.own j)) (hM : M[j]? = some (some O)) (hd : IsDT O enc R kvs) (hy : Ev rs ty S M Rk k) (hx : look kvs k = some x) : Ev rs (tDGet (tVar i) ty) S M R x := fun H0 G0 H G as σ Z Q q => by
  obtain ⟨a, _, hv, ha, _⟩ := Z.read hi hM
  refine ⟨.ref a, hv, hy H0 G0 H G as σ Z _ fun v H1 G1 Z1 e1 r1 => ?_⟩
  obtain ⟨ga, o, ho, hO⟩ := Z1.own j a _ ha hM
  obtain ⟨es, hr, hg, _⟩ := dt_get hk ho hO hd Z1.sub r1
  obtain ⟨w, hw, rw'⟩ := (ent_look hk.inj hr k).2 x hx
  rw [hw] at hg
  exact ⟨a, w, rfl, hg, q _ H1 G1 Z1 e1 rw'⟩
theorem ev_dget2 (hk : KeyT Rk enc) (hi : S[i]? = some (.own j)) (hM : M[j]? = some (some O)) (hd : IsDT O enc R kvs) (hy : Ev rs ty S M Rk k) (hz : Ev rs tx S M R d) : Ev rs (tDGet2 (tVar i) ty tx) S M R ((look kvs k).getD d) := fun H0 G0 H G as σ Z Q q => by
  obtain ⟨a, o, hv, ha, ho, ga, hO⟩ := Z.read hi hM
  have isd : IsD H a := by
    obtain ⟨es, he, hr⟩ := hd.rd a G o hO
    rcases he with rfl | ⟨od, rfl⟩
    · exact .inr ⟨es, .inl ho⟩
    · exact .inr ⟨es, .inr ⟨od, ho⟩⟩
  refine ⟨.ref a, hv, a, rfl, isd, hy H0 G0 H G as σ Z _ fun v H1 G1 Z1 e1 r1 => hz H0 G0 H1 G1 as σ Z1 _ fun w H2 G2 Z2 e2 r2 => ?_⟩
  obtain ⟨ga, o, ho, hO⟩ := Z2.own j a _ ha hM
  obtain ⟨es, hr, hg, _⟩ := dt_get hk ho hO hd Z2.sub (Rk.mono e2 r1)
  refine ⟨_, hg, q _ H2 G2 Z2 (e1.trans e2) ?_⟩
  cases hl : look kvs k with
  | none =>
    rw [(ent_look hk.inj hr k).1 hl]
    exact r2
  | some x =>
    obtain ⟨w', hw, rw'⟩ := (ent_look hk.inj hr k).2 x hl
    rw [hw]
    exact rw'
variable {H0 G0 : Hp} {D : Ends}
theorem go_dput (hk : KeyT Rk enc) (hi : S[i]? = some (.own j)) (hM : M[j]? = some (some (oDT enc R kvs))) (hv : Ev rs tv S M R x) (hy : Ev rs ty S M Rk k) (hl : kvs.length < 1000000) (c : Go rs H0 G0 D.nx S (M.set j (some (oDT enc R (put kvs k x))))) :
    Go rs H0 G0 (sDPut (tVar i) ty tv D) S M := fun H G as σ Z => hv H0 G0 H G as σ Z _ fun v H1 G1 Z1 e1 r1 => by
  obtain ⟨a, _, hσ, ha, _⟩ := Z1.read hi hM
  refine ⟨.ref a, hσ, hy H0 G0 H1 G1 as σ Z1 _ fun w H2 G2 Z2 e2 r2 => ?_⟩
  obtain ⟨ga, o, ho, es, rfl, hr⟩ := Z2.own j a _ ha hM
  obtain ⟨b, rfl, gb⟩ := hk.tup _ _ _ r2
  exact ⟨a, _, rfl, DPut.t ho (Z2.sub _ _ gb) (by rw [hr.length]; exact Nat.lt_trans hl (by decide)), c _ G2 as σ (Z2.mut ha hM ⟨_, rfl, ent_put hk.inj hr k (R.mono e2 r1)⟩)⟩
end
section
variable {α : Type} {rs : RS} {S : Sl} {M : Mo} {te ta tb td ty tx tv : TE} {R : MR α} {kvs : List (Nat × α)} {k : Nat} {x d : α} {i j : Nat} {O : OS}
theorem ev_kin (hi : S[i]? = some (.own j)) (hM : M[j]? = some (some (oDK R kvs))) (hy : Ev rs ty S M rNat k) : Ev rs (tDIn ty (tVar i)) S M rBool (look kvs k).isSome := fun H0 G0 H G as σ Z Q q =>
  hy H0 G0 H G as σ Z _ fun v H1 G1 Z1 e1 r1 => by
  obtain ⟨a, o, hv, ha, ho, ga, es, rfl, hr⟩ := Z1.read hi hM
  exact ⟨.ref a, hv, a, valV es (encN k), rfl, .inl ⟨es, encN k, .inl ho, r1, rfl⟩, q _ H1 G1 Z1 e1 (by rw [ent_some encN_inj hr]; rfl)⟩
theorem ev_knin (hi : S[i]? = some (.own j)) (hM : M[j]? = some (some (oDK R kvs))) (hy : Ev rs ty S M rNat k) : Ev rs (tDNotIn ty (tVar i)) S M rBool (look kvs k).isNone := fun H0 G0 H G as σ Z Q q =>
  hy H0 G0 H G as σ Z _ fun v H1 G1 Z1 e1 r1 => by
  obtain ⟨a, o, hv, ha, ho, ga, es, rfl, hr⟩ := Z1.read hi hM
  exact ⟨.ref a, hv, a, valV es (encN k), rfl, .inl ⟨es, encN k, .inl ho, r1, rfl⟩, q _ H1 G1 Z1 e1 (by rw [ent_some encN_inj hr, Option.not_isSome]; rfl)⟩
theorem ev_kget (hi : S[i]? = some (.own j)) (hM : M[j]? = some (some (oDK R kvs))) (hy : Ev rs ty S M rNat k) (hx : look kvs k = some x) : Ev rs (tDGet (tVar i) ty) S M R x := fun H0 G0 H G as σ Z Q q => by
  obtain ⟨a, _, hv, ha, _⟩ := Z.read hi hM
  refine ⟨.ref a, hv, hy H0 G0 H G as σ Z _ fun v H1 G1 Z1 e1 r1 => ?_⟩
  obtain ⟨ga, o, ho, es, rfl, hr⟩ := Z1.own j a _ ha hM
  obtain ⟨w, hw, rw'⟩ := (ent_look encN_inj hr k).2 x hx
  exact ⟨a, w, rfl, .inl ⟨es, encN k, .inl ho, r1, hw.symm⟩, q _ H1 G1 Z1 e1 rw'⟩
theorem ev_fin (hd : Ev rs td S M (rDK R) kvs) (hy : Ev rs ty S M rNat k) : Ev rs (tDIn ty td) S M rBool (look kvs k).isSome := fun H0 G0 H G as σ Z Q q =>
  hy H0 G0 H G as σ Z _ fun v H1 G1 Z1 e1 r1 => hd H0 G0 H1 G1 as σ Z1 _ fun w H2 G2 Z2 e2 ⟨a, es, e, ga, hr⟩ =>
  ⟨a, valV es (encN k), e, .inl ⟨es, encN k, .inl (Z2.sub _ _ ga), r1, rfl⟩, q _ H2 G2 Z2 (e1.trans e2) (by rw [ent_some encN_inj hr]; rfl)⟩
theorem ev_fnin (hd : Ev rs td S M (rDK R) kvs) (hy : Ev rs ty S M rNat k) : Ev rs (tDNotIn ty td) S M rBool (look kvs k).isNone := fun H0 G0 H G as σ Z Q q =>
  hy H0 G0 H G as σ Z _ fun v H1 G1 Z1 e1 r1 => hd H0 G0 H1 G1 as σ Z1 _ fun w H2 G2 Z2 e2 ⟨a, es, e, ga, hr⟩ =>
  ⟨a, valV es (encN k), e, .inl ⟨es, encN k, .inl (Z2.sub _ _ ga), r1, rfl⟩, q _ H2 G2 Z2 (e1.trans e2) (by rw [ent_some encN_inj hr, Option.not_isSome]; rfl)⟩
theorem ev_fget (hd : Ev rs td S M (rDK R) kvs) (hy : Ev rs ty S M rNat k) (hx : look kvs k = some x) : Ev rs (tDGet td ty) S M R x := fun H0 G0 H G as σ Z Q q =>
  hd H0 G0 H G as σ Z _ fun w H1 G1 Z1 e1 ⟨a, es, e, ga, hr⟩ => hy H0 G0 H1 G1 as σ Z1 _ fun v H2 G2 Z2 e2 r2 => by
  obtain ⟨w, hw, rw'⟩ := (ent_look encN_inj hr k).2 x hx
  exact ⟨a, w, e, .inl ⟨es, encN k, .inl (Z2.sub _ _ (e2 _ _ ga)), r2, hw.symm⟩, q _ H2 G2 Z2 (e1.trans e2) (R.mono e2 rw')⟩
variable {H0 G0 : Hp} {D : Ends}
theorem go_kput (hi : S[i]? = some (.own j)) (hM : M[j]? = some (some (oDK R kvs))) (hv : Ev rs tv S M R x) (hy : Ev rs ty S M rNat k) (hl : kvs.length < 1000000) (c : Go rs H0 G0 D.nx S (M.set j (some (oDK R (put kvs k x))))) :
    Go rs H0 G0 (sDPut (tVar i) ty tv D) S M := fun H G as σ Z => hv H0 G0 H G as σ Z _ fun v H1 G1 Z1 e1 r1 => by
  obtain ⟨a, _, hσ, ha, _⟩ := Z1.read hi hM
  refine ⟨.ref a, hσ, hy H0 G0 H1 G1 as σ Z1 _ fun w H2 G2 Z2 e2 r2 => ?_⟩
  obtain ⟨ga, o, ho, es, rfl, hr⟩ := Z2.own j a _ ha hM
  exact ⟨a, _, rfl, .inl ⟨es, encN k, ho, r2, by rw [hr.length]; exact Nat.lt_trans hl (by decide), rfl⟩, c _ G2 as σ (Z2.mut ha hM ⟨_, rfl, ent_put encN_inj hr k (R.mono e2 r1)⟩)⟩
theorem eg_disp1 (hy : ∀ m, Ev rs ty S (M ++ [m]) rNat k) (hv : ∀ m, Ev rs tv S (M ++ [m]) R x) : EvG rs (tDisp [(ty, tv)]) S M (M ++ [some (oDK R [(k, x)])]) (.own M.length) := fun H0 G0 H G as σ Z Q q => fun p hp => by
  have Z0 := Z.owned (o := .dK []) (O := ⟨fun _ _ o => o = .dK [], fun _ h => h, fun h xs e => by rw [h] at e; cases e⟩) hp rfl
  have hl := Z.len
  have ha : (as ++ [p])[M.length]? = some p := by rw [← hl, List.getElem?_append_right (Nat.le_refl _), Nat.sub_self] <;> rfl
  refine hy _ H0 G0 _ G _ σ Z0 _ fun u H1 G1 Z1 e1 r1 => hv _ H0 G0 H1 G1 _ σ Z1 _ fun w H2 G2 Z2 e2 r2 => ?_
  have hM : ∀ m : Option OS, (M ++ [m])[M.length]? = some m := fun m => by rw [List.getElem?_append_right (Nat.le_refl _), Nat.sub_self] <;> rfl
  obtain ⟨ga, o, ho, rfl⟩ := Z2.own _ p _ ha (hM _)
  refine ⟨ho, [(encN k, w)], by rw [r1]; rfl, by simp, ?_⟩
  have Z3 := Z2.mut ha (hM _) (O' := oDK R [(k, x)]) (o := .dK [(encN k, w)]) ⟨_, rfl, .cons ⟨rfl, r2⟩ .nil⟩
  rw [List.set_append_right _ _ (Nat.le_refl _), Nat.sub_self] at Z3
  exact q (.ref p) _ G2 (as ++ [p]) Z3 (e1.trans e2) (fun j a h => by
    rw [List.getElem?_append_left (List.getElem?_eq_some_iff.mp h).1]
    exact h) ⟨p, ha, rfl⟩
end
def tDispT (tk tv : TE) : TE := fun σ H Q => ∀ p, H p = none → tk σ (upd H p (.dT [])) fun x H1 => tv σ H1 fun y H2 => H2 p = some (.dT []) ∧ ∃ (k : List Key) (b : Addr), x = .ref b ∧ H2 b = some (.tup (k.map kV)) ∧ Q (.ref p) (upd H2 p (.dT [(k, y)]))
section
variable {α κ : Type} [DecidableEq κ] {rs : RS} {S : Sl} {M : Mo} {ty tv : TE} {R : MR α} {Rk : MR κ} {enc : κ → List Key} {k : κ} {x : α}
theorem eg_dispT (hk : KeyT Rk enc) (hy : ∀ m, Ev rs ty S (M ++ [m]) Rk k) (hv : ∀ m, Ev rs tv S (M ++ [m]) R x) : EvG rs (tDispT ty tv) S M (M ++ [some (oDT enc R [(k, x)])]) (.own M.length) := fun H0 G0 H G as σ Z Q q => fun p hp => by
  have Z0 := Z.owned (o := .dT []) (O := ⟨fun _ _ o => o = .dT [], fun _ h => h, fun h xs e => by rw [h] at e; cases e⟩) hp rfl
  have hl := Z.len
  have ha : (as ++ [p])[M.length]? = some p := by rw [← hl, List.getElem?_append_right (Nat.le_refl _), Nat.sub_self] <;> rfl
  refine hy _ H0 G0 _ G _ σ Z0 _ fun u H1 G1 Z1 e1 r1 => hv _ H0 G0 H1 G1 _ σ Z1 _ fun w H2 G2 Z2 e2 r2 => ?_
  have hM : ∀ m : Option OS, (M ++ [m])[M.length]? = some m := fun m => by rw [List.getElem?_append_right (Nat.le_refl _), Nat.sub_self] <;> rfl
  obtain ⟨ga, o, ho, rfl⟩ := Z2.own _ p _ ha (hM _)
  obtain ⟨b, rfl, gb⟩ := hk.tup _ _ _ (Rk.mono e2 r1)
  refine ⟨ho, enc k, b, rfl, Z2.sub _ _ gb, ?_⟩
  have Z3 := Z2.mut ha (hM _) (O' := oDT enc R [(k, x)]) (o := .dT [(enc k, w)]) ⟨_, rfl, .cons ⟨rfl, r2⟩ .nil⟩
  rw [List.set_append_right _ _ (Nat.le_refl _), Nat.sub_self] at Z3
  exact q (.ref p) _ G2 (as ++ [p]) Z3 (e1.trans e2) (fun j a h => by
    rw [List.getElem?_append_left (List.getElem?_eq_some_iff.mp h).1]
    exact h) ⟨p, ha, rfl⟩
end
end B
namespace B
open PySem L2

section
variable {α β γ : Type} {rs : RS} {S : Sl} {M : Mo} {te ta tb tc tl : TE} {tr : TA} {tt tu : TT} {R : MR α} {T : MR β} {x : α} {y : β} {K : PySem.W.Frag}
theorem vals_nat {G : Hp} : ∀ {vs : List V} {xs : List Nat}, AllR rNat G vs xs → vs = (xs.map fun n : Nat => (n : Int)).map V.int
  | _, _, .nil => rfl
  | _, _, .cons r t => by
    rw [List.map_cons, List.map_cons, ← vals_nat t]
    rw [show _ = V.int _ from r]
theorem vals_int {G : Hp} : ∀ {vs : List V} {xs : List Int}, AllR rInt G vs xs → vs = xs.map V.int
  | _, _, .nil => rfl
  | _, _, .cons r t => by
    rw [List.map_cons, ← vals_int t]
    rw [show _ = V.int _ from r]
theorem vals_bool {G : Hp} : ∀ {vs : List V} {xs : List Bool}, AllR rBool G vs xs → vs = xs.map V.bl
  | _, _, .nil => rfl
  | _, _, .cons r t => by
    rw [List.map_cons, ← vals_bool t]
    rw [show _ = V.bl _ from r]
theorem sum_cast : ∀ xs : List Nat, (xs.map fun n : Nat => (n : Int)).sum = ((xs.sum : Nat) : Int)
  | [] => rfl
  | x :: xs => by
    rw [List.map_cons, List.sum_cons, List.sum_cons, sum_cast xs]
    omega
theorem ev_sumN {xs : List Nat} (ha : Ev rs ta S M (rList rNat) xs) : Ev rs (tCB (rSum K) (tCons ta tNil)) S M rNat xs.sum := fun H0 G0 H G as σ Z Q q =>
  ha H0 G0 H G as σ Z _ fun v H1 G1 Z1 e1 ⟨a, vs, ea, ga, r⟩ => ⟨a, _, by rw [ea], .inl (.inl (by rw [← vals_nat r]; exact Z1.sub _ _ ga)), q _ H1 G1 Z1 e1 (by rw [sum_cast]; rfl)⟩
theorem ev_sumI {xs : List Int} (ha : Ev rs ta S M (rList rInt) xs) : Ev rs (tCB (rSum K) (tCons ta tNil)) S M rInt xs.sum := fun H0 G0 H G as σ Z Q q =>
  ha H0 G0 H G as σ Z _ fun v H1 G1 Z1 e1 ⟨a, vs, ea, ga, r⟩ => ⟨a, _, by rw [ea], .inl (.inl (by rw [← vals_int r]; exact Z1.sub _ _ ga)), q _ H1 G1 Z1 e1 rfl⟩
theorem ev_maxI {xs : List Int} {m : Int} (ha : Ev rs ta S M (rList rInt) xs) (hm : m ∈ xs) (hle : ∀ z ∈ xs, z ≤ m) : Ev rs (tCB (rMax K) (tCons ta tNil)) S M rInt m := fun H0 G0 H G as σ Z Q q =>
  ha H0 G0 H G as σ Z _ fun v H1 G1 Z1 e1 ⟨a, vs, ea, ga, r⟩ => ⟨a, _, by rw [ea], .inl (.inl (by rw [← vals_int r]; exact Z1.sub _ _ ga)), List.length_pos_of_mem hm, fun m' h1 h2 => by
    have : m' = m := Int.le_antisymm (hle m' h1) (h2 m hm)
    rw [this]
    exact q _ H1 G1 Z1 e1 rfl⟩
theorem ev_minI {xs : List Int} {m : Int} (ha : Ev rs ta S M (rList rInt) xs) (hm : m ∈ xs) (hle : ∀ z ∈ xs, m ≤ z) : Ev rs (tCB (rMin K) (tCons ta tNil)) S M rInt m := fun H0 G0 H G as σ Z Q q =>
  ha H0 G0 H G as σ Z _ fun v H1 G1 Z1 e1 ⟨a, vs, ea, ga, r⟩ => ⟨a, _, by rw [ea], .inl (.inl (by rw [← vals_int r]; exact Z1.sub _ _ ga)), List.length_pos_of_mem hm, fun m' h1 h2 => by
    have : m' = m := Int.le_antisymm (h2 m hm) (hle m' h1)
    rw [this]
    exact q _ H1 G1 Z1 e1 rfl⟩
theorem ev_listN {xs : List Nat} (ha : Ev rs ta S M (rList rNat) xs) : Ev rs ta S M (rList rInt) (xs.map fun n : Nat => (n : Int)) := ev_rel ha fun G v ⟨a, vs, ea, ga, r⟩ => ⟨a, vs, ea, ga, by
  rw [vals_nat r]
  exact pr_of (by simp) fun i x y h1 h2 => by
    rw [List.getElem?_map, h2] at h1
    exact (Option.some.inj h1).symm⟩
theorem ev_maxN {xs : List Nat} {m : Nat} (ha : Ev rs ta S M (rList rNat) xs) (hm : m ∈ xs) (hle : ∀ z ∈ xs, z ≤ m) : Ev rs (tCB (rMax K) (tCons ta tNil)) S M rNat m :=
  ev_toN (ev_maxI (ev_listN ha) (List.mem_map_of_mem hm) fun z hz => by
    obtain ⟨w, hw, rfl⟩ := List.mem_map.mp hz
    have := hle w hw
    omega) rfl
theorem ev_minN {xs : List Nat} {m : Nat} (ha : Ev rs ta S M (rList rNat) xs) (hm : m ∈ xs) (hle : ∀ z ∈ xs, m ≤ z) : Ev rs (tCB (rMin K) (tCons ta tNil)) S M rNat m :=
  ev_toN (ev_minI (ev_listN ha) (List.mem_map_of_mem hm) fun z hz => by
    obtain ⟨w, hw, rfl⟩ := List.mem_map.mp hz
    have := hle w hw
    omega) rfl
theorem ev_any {xs : List Bool} (ha : Ev rs ta S M (rList rBool) xs) : Ev rs (tCB (rAny K) (tCons ta tNil)) S M rBool (xs.any id) := fun H0 G0 H G as σ Z Q q =>
  ha H0 G0 H G as σ Z _ fun v H1 G1 Z1 e1 ⟨a, vs, ea, ga, r⟩ => ⟨a, _, by rw [ea], .inl (.inl (by rw [← vals_bool r]; exact Z1.sub _ _ ga)), q _ H1 G1 Z1 e1 rfl⟩
theorem ev_all {xs : List Bool} (ha : Ev rs ta S M (rList rBool) xs) : Ev rs (tCB (rAll K) (tCons ta tNil)) S M rBool (xs.all id) := fun H0 G0 H G as σ Z Q q =>
  ha H0 G0 H G as σ Z _ fun v H1 G1 Z1 e1 ⟨a, vs, ea, ga, r⟩ => ⟨a, _, by rw [ea], .inl (.inl (by rw [← vals_bool r]; exact Z1.sub _ _ ga)), q _ H1 G1 Z1 e1 rfl⟩
abbrev rMin2 : List V → Hp → VK → Prop := fun xs H Q => ∃ i j, xs = [.int i, .int j] ∧ Q (.int (if j < i then j else i)) H
abbrev rMax2 : List V → Hp → VK → Prop := fun xs H Q => ∃ i j, xs = [.int i, .int j] ∧ Q (.int (if j > i then j else i)) H
theorem ev_min2 {i j : Nat} (ha : Ev rs ta S M rNat i) (hb : Ev rs tb S M rNat j) : Ev rs (tCB rMin2 (tCons ta (tCons tb tNil))) S M rNat (min i j) := fun H0 G0 H G as σ Z Q q =>
  ha H0 G0 H G as σ Z _ fun v H1 G1 Z1 e1 r1 => hb H0 G0 H1 G1 as σ Z1 _ fun w H2 G2 Z2 e2 r2 => ⟨(i : Int), (j : Int), by rw [show v = _ from r1, show w = _ from r2], q _ H2 G2 Z2 (e1.trans e2) (by
    show V.int _ = V.int _
    congr 1
    split <;> omega)⟩
theorem ev_max2 {i j : Nat} (ha : Ev rs ta S M rNat i) (hb : Ev rs tb S M rNat j) : Ev rs (tCB rMax2 (tCons ta (tCons tb tNil))) S M rNat (max i j) := fun H0 G0 H G as σ Z Q q =>
  ha H0 G0 H G as σ Z _ fun v H1 G1 Z1 e1 r1 => hb H0 G0 H1 G1 as σ Z1 _ fun w H2 G2 Z2 e2 r2 => ⟨(i : Int), (j : Int), by rw [show v = _ from r1, show w = _ from r2], q _ H2 G2 Z2 (e1.trans e2) (by
    show V.int _ = V.int _
    congr 1
    split <;> omega)⟩
abbrev rInt1 : List V → Hp → VK → Prop := fun xs H Q => (∃ i, xs = [.int i] ∧ Q (.int i) H) ∨ ∃ k, xs = [.bl k] ∧ Q (.int (if k then 1 else 0)) H
theorem ev_intI {i : Int} (ha : Ev rs ta S M rInt i) : Ev rs (tCB rInt1 (tCons ta tNil)) S M rInt i := fun H0 G0 H G as σ Z Q q =>
  ha H0 G0 H G as σ Z _ fun v H1 G1 Z1 e1 r1 => .inl ⟨i, by rw [show v = _ from r1], q _ H1 G1 Z1 e1 rfl⟩

abbrev rTupF (K : PySem.W.Frag) : List V → Hp → VK → Prop := fun xs H Q => ∃ p ys, xs = [.ref p] ∧ ((SqL K H p ys ∧ ∀ l, H l = none → Q (.ref l) (upd H l (.tup ys))) ∨ (SqT K H p ys ∧ Q (.ref p) H))
theorem ev_tupOf {xs : List α} (ha : Ev rs ta S M (rList R) xs) : Ev rs (tCB (rTupF K) (tCons ta tNil)) S M (rTup R) xs := fun H0 G0 H G as σ Z Q q =>
  ha H0 G0 H G as σ Z _ fun v H1 G1 Z1 e1 ⟨a, vs, ea, ga, r⟩ => ⟨a, vs, by rw [ea], .inl ⟨.inl (.inl (Z1.sub _ _ ga)), fun l hl => by
    obtain ⟨Z2, e2⟩ := Z1.new_ (o := .tup vs) hl
    exact q _ _ _ Z2 (e1.trans e2) ⟨l, vs, rfl, upd_same, allR_mono e2 r⟩⟩⟩
theorem ev_cat {xs ys : List α} (ha : Ev rs ta S M (rList R) xs) (hb : Ev rs tb S M (rList R) ys) (hl : xs.length + ys.length ≤ 1000000) : Ev rs (tOp rCat ta tb) S M (rList R) (xs ++ ys) := fun H0 G0 H G as σ Z Q q =>
  ha H0 G0 H G as σ Z _ fun v H1 G1 Z1 e1 ⟨a, vs, ea, ga, r⟩ => hb H0 G0 H1 G1 as σ Z1 _ fun w H2 G2 Z2 e2 ⟨b, ws, eb, gb, r2⟩ => ⟨a, b, vs, ws, ea, eb, Z2.sub _ _ (e2 _ _ ga), Z2.sub _ _ gb, by
    rw [r.length, r2.length]
    exact Nat.le_trans hl (by decide), fun p hp => by
    obtain ⟨Z3, e3⟩ := Z2.new_ (o := .lst (vs ++ ws)) hp
    exact q _ _ _ Z3 ((e1.trans e2).trans e3) ⟨p, _, rfl, upd_same, pr_app (allR_mono (e2.trans e3) r) (allR_mono e3 r2)⟩⟩
theorem flatten_rep {α : Type} (x : α) : ∀ n : Nat, (List.replicate n [x]).flatten = List.replicate n x
  | 0 => rfl
  | n + 1 => by
    rw [List.replicate_succ, List.flatten_cons, flatten_rep x n]
    rfl
theorem pr_rep {F : V → α → Prop} {u : V} (h : F u x) : ∀ n : Nat, Paired F (List.replicate n u) (List.replicate n x)
  | 0 => .nil
  | n + 1 => .cons h (pr_rep h n)
theorem eo_rep {n : Nat} (ha : Ev rs ta S M (rList R) [x]) (hb : Ev rs tb S M rNat n) (hn : n ≤ 1000000) : EvO rs (tOp rRep ta tb) S M (oList R (List.replicate n x)) := fun H0 G0 H G as σ Z Q q =>
  ha H0 G0 H G as σ Z _ fun v H1 G1 Z1 e1 ⟨a, vs, ea, ga, r⟩ => hb H0 G0 H1 G1 as σ Z1 _ fun w H2 G2 Z2 e2 r2 => by
  cases r with
  | cons ru t =>
    cases t
    refine ⟨a, (n : Int), _, ea, r2, Z2.sub _ _ (e2 _ _ ga), by omega, by omega, ?_, fun p hp => ?_⟩
    · rw [Int.toNat_natCast, List.length_singleton, Nat.one_mul]
      exact Nat.le_trans hn (by decide)
    · rw [Int.toNat_natCast, flatten_rep]
      exact q p _ H2 G2 Z2 (e1.trans e2) hp ⟨_, rfl, pr_rep (R.mono e2 ru) n⟩
theorem ev_ofO {xs : List α} (h : EvO rs te S M (oList R xs)) : Ev rs te S M (rList R) xs := fun H0 G0 H G as σ Z Q q => h H0 G0 H G as σ Z _ fun p o H' G' Z' e hp ⟨vs, eo, r⟩ => by
  subst eo
  obtain ⟨Z2, e2⟩ := Z'.new_ (o := .lst vs) hp
  exact q _ _ _ Z2 (e.trans e2) ⟨p, vs, rfl, upd_same, allR_mono e2 r⟩
theorem ev_rep {n : Nat} (ha : Ev rs ta S M (rList R) [x]) (hb : Ev rs tb S M rNat n) (hn : n ≤ 1000000) : Ev rs (tOp rRep ta tb) S M (rList R) (List.replicate n x) := ev_ofO (eo_rep ha hb hn)
def OvE (rs : RS) (to : TO) (S : Sl) (M : Mo) (o : Option Nat) : Prop := ∀ H0 G0 H G as σ, Zt rs H0 G0 H G as M S σ → ∀ Q : Option Int → Hp → Prop,
  (∀ H' G', Zt rs H0 G0 H' G' as M S σ → Same G G' → Q (o.map fun n => (n : Int)) H') → to σ H Q
theorem ov_none : OvE rs tNoPart S M none := fun H0 G0 H G as σ Z Q q => q H G Z (Same.refl G)
theorem ov_some {n : Nat} (h : Ev rs te S M rNat n) : OvE rs (tPart te) S M (some n) := fun H0 G0 H G as σ Z Q q => h H0 G0 H G as σ Z _ fun v H1 G1 Z1 e1 r1 => ⟨(n : Int), r1, q H1 G1 Z1 e1⟩
def cutN (xs : List α) (lo hi : Option Nat) : List α := (xs.drop (min (lo.getD 0) xs.length)).take (min (hi.getD xs.length) xs.length - min (lo.getD 0) xs.length)
theorem sIx_opt (n d : Nat) (hd : d ≤ n) (o : Option Nat) : HT.sIx n d (o.map fun n => (n : Int)) = min (o.getD d) n := by
  cases o with
  | none =>
    show d = _
    rw [Option.getD_none]
    omega
  | some k => exact HT.sIx_nat n d k
theorem cutV_pr {F : V → α → Prop} {vs : List V} {xs : List α} (h : Paired F vs xs) (lo hi : Option Nat) : Paired F (cutV vs (lo.map fun n => (n : Int)) (hi.map fun n => (n : Int))) (cutN xs lo hi) := by
  unfold cutV cutN
  rw [sIx_opt _ _ (Nat.zero_le _), sIx_opt _ _ (Nat.le_refl _), h.length]
  exact pr_take _ (pr_drop _ h)
theorem ev_slL {tlo thi : TO} {xs : List α} {lo hi : Option Nat} (ha : Ev rs te S M (rList R) xs) (hlo : OvE rs tlo S M lo) (hhi : OvE rs thi S M hi) : Ev rs (tSl (rSlL K) te tlo thi) S M (rList R) (cutN xs lo hi) := fun H0 G0 H G as σ Z Q q =>
  ha H0 G0 H G as σ Z _ fun v H1 G1 Z1 e1 ⟨a, vs, ea, ga, r⟩ => hlo H0 G0 H1 G1 as σ Z1 _ fun H2 G2 Z2 e2 => hhi H0 G0 H2 G2 as σ Z2 _ fun H3 G3 Z3 e3 => ⟨a, vs, ea, .inl (.inl (Z3.sub _ _ (e3 _ _ (e2 _ _ ga)))), fun p hp => by
    obtain ⟨Z4, e4⟩ := Z3.new_ (o := .lst (cutV vs (lo.map fun n => (n : Int)) (hi.map fun n => (n : Int)))) hp
    exact q _ _ _ Z4 (((e1.trans e2).trans e3).trans e4) ⟨p, _, rfl, upd_same, cutV_pr (allR_mono ((e2.trans e3).trans e4) r) lo hi⟩⟩
theorem ev_catT {xs ys : List α} (ha : Ev rs ta S M (rTup R) xs) (hb : Ev rs tb S M (rTup R) ys) (hl : xs.length + ys.length ≤ 1000000) : Ev rs (tOp (rCatA K) ta tb) S M (rTup R) (xs ++ ys) := fun H0 G0 H G as σ Z Q q =>
  ha H0 G0 H G as σ Z _ fun v H1 G1 Z1 e1 ⟨a, vs, ea, ga, r⟩ => hb H0 G0 H1 G1 as σ Z1 _ fun w H2 G2 Z2 e2 ⟨b, ws, eb, gb, r2⟩ => ⟨a, b, vs, ws, ea, eb, .inl (.inl (Z2.sub _ _ (e2 _ _ ga))), .inl (.inl (Z2.sub _ _ gb)), by
    rw [r.length, r2.length]
    exact Nat.le_trans hl (by decide), fun h0 => by
      subst h0
      cases r
      exact q _ H2 G2 Z2 (e1.trans e2) ⟨b, ws, rfl, gb, r2⟩, fun _ h0 => by
      subst h0
      cases r2
      rw [List.append_nil] at q
      subst ea
      exact q _ H2 G2 Z2 (e1.trans e2) ⟨a, vs, rfl, e2 _ _ ga, allR_mono e2 r⟩, fun _ _ p hp => by
    obtain ⟨Z3, e3⟩ := Z2.new_ (o := .tup (vs ++ ws)) hp
    exact q _ _ _ Z3 ((e1.trans e2).trans e3) ⟨p, _, rfl, upd_same, pr_app (allR_mono (e2.trans e3) r) (allR_mono e3 r2)⟩⟩
theorem inV_nat {G : Hp} {k : Nat} : ∀ {vs : List V} {xs : List Nat}, AllR rNat G vs xs → vs.all flatV = true ∧ inV (.int (k : Int)) vs = decide (k ∈ xs)
  | _, _, .nil => ⟨rfl, rfl⟩
  | _, _, .cons (a := v) (b := x) r t => by
    obtain ⟨h1, h2⟩ := inV_nat (k := k) t
    cases (show v = .int (x : Int) from r)
    refine ⟨by rw [List.all_cons, h1]; rfl, ?_⟩
    unfold inV at h2 ⊢
    rw [List.any_cons, h2]
    show (((x : Int) == (k : Int)) || _) = _
    rw [Bool.eq_iff_iff]
    simp only [Bool.or_eq_true, beq_iff_eq, decide_eq_true_eq, List.mem_cons]
    constructor
    · rintro (h | h)
      · exact .inl (by omega)
      · exact .inr h
    · rintro (h | h)
      · exact .inl (by omega)
      · exact .inr h
theorem ev_inT {k : Nat} {xs : List Nat} (ha : Ev rs ta S M rNat k) (hb : Ev rs tb S M (rTup rNat) xs) : Ev rs (tOp (rIn K false) ta tb) S M rBool (decide (k ∈ xs)) := fun H0 G0 H G as σ Z Q q =>
  ha H0 G0 H G as σ Z _ fun v H1 G1 Z1 e1 r1 => hb H0 G0 H1 G1 as σ Z1 _ fun w H2 G2 Z2 e2 ⟨b, ws, eb, gb, r2⟩ => ⟨b, ws, eb, .inr (.inl (.inl (Z2.sub _ _ gb))), by rw [show v = _ from r1] <;> rfl, (inV_nat (k := k) r2).1, q _ H2 G2 Z2 (e1.trans e2) (by
    rw [show v = .int (k : Int) from r1, (inV_nat (k := k) r2).2]
    rfl)⟩
theorem ev_inL {k : Nat} {xs : List Nat} (ha : Ev rs ta S M rNat k) (hb : Ev rs tb S M (rList rNat) xs) : Ev rs (tOp (rIn K false) ta tb) S M rBool (decide (k ∈ xs)) := fun H0 G0 H G as σ Z Q q =>
  ha H0 G0 H G as σ Z _ fun v H1 G1 Z1 e1 r1 => hb H0 G0 H1 G1 as σ Z1 _ fun w H2 G2 Z2 e2 ⟨b, ws, eb, gb, r2⟩ => ⟨b, ws, eb, .inl (.inl (.inl (Z2.sub _ _ gb))), by rw [show v = _ from r1] <;> rfl, (inV_nat (k := k) r2).1, q _ H2 G2 Z2 (e1.trans e2) (by
    rw [show v = .int (k : Int) from r1, (inV_nat (k := k) r2).2]
    rfl)⟩
theorem ev_ninL {k : Nat} {xs : List Nat} (ha : Ev rs ta S M rNat k) (hb : Ev rs tb S M (rList rNat) xs) : Ev rs (tOp (rIn K true) ta tb) S M rBool (!decide (k ∈ xs)) := fun H0 G0 H G as σ Z Q q =>
  ha H0 G0 H G as σ Z _ fun v H1 G1 Z1 e1 r1 => hb H0 G0 H1 G1 as σ Z1 _ fun w H2 G2 Z2 e2 ⟨b, ws, eb, gb, r2⟩ => ⟨b, ws, eb, .inl (.inl (.inl (Z2.sub _ _ gb))), by rw [show v = _ from r1] <;> rfl, (inV_nat (k := k) r2).1, q _ H2 G2 Z2 (e1.trans e2) (by
    rw [show v = .int (k : Int) from r1, (inV_nat (k := k) r2).2]
    rfl)⟩
structure Dat {α : Type} (R : MR α) (d : α → PyData) (n : Nat) : Prop where
  dp : ∀ (K : PySem.W.Frag) G H v x, Same G H → R.rel G v x → Dp K H v (d x)
  lay : ∀ x, (d x).canLay0 = true ∧ (d x).depth ≤ n
theorem dat_nat : Dat rNat (fun n => .int (n : Int)) 0 := ⟨fun K G H v x _ r => by
  cases (show v = .int (x : Int) from r)
  exact .int _, fun x => ⟨rfl, Nat.le_refl _⟩⟩
theorem dat_pr {d : α → PyData} {d' : β → PyData} {n : Nat} (h : Dat R d n) (h' : Dat T d' n) : Dat (rPr R T) (fun p => .tuple [d p.1, d' p.2]) (n + 1) := ⟨fun K G H v x s ⟨a, u, w, e, g, r1, r2⟩ => by
  subst e
  exact .tup (.inl (.inl (s _ _ g))) (.cons (h.dp K G H _ _ s r1) (.cons (h'.dp K G H _ _ s r2) .nil)), fun x => by
  have h1 := h.lay x.1
  have h2 := h'.lay x.2
  refine ⟨?_, ?_⟩
  · simp [PyData.canLay0, PyData.canLayAll0, h1.1, h2.1]
  · simp only [PyData.depth, PyData.depthAll]
    omega⟩
theorem datAll {d : α → PyData} {n : Nat} (h : Dat R d n) : ∀ {G H : Hp} {vs : List V} {xs : List α}, Same G H → AllR R G vs xs → DpAll K H vs (xs.map d)
  | _, _, _, _, _, .nil => .nil
  | G, H, _, _, s, .cons r t => .cons (h.dp K G H _ _ s r) (datAll h s t)
theorem layAll {d : α → PyData} {n : Nat} (h : Dat R d n) : ∀ xs : List α, PyData.canLayAll0 (xs.map d) = true ∧ PyData.depthAll (xs.map d) ≤ n
  | [] => ⟨rfl, Nat.zero_le _⟩
  | x :: xs => by
    have h1 := h.lay x
    have h2 := layAll h xs
    refine ⟨?_, ?_⟩
    · simp [PyData.canLayAll0, h1.1, h2.1]
    · simp only [List.map_cons, PyData.depthAll]
      omega
theorem dat_tup {d : α → PyData} {n : Nat} (h : Dat R d n) : Dat (rTup R) (fun xs => .tuple (xs.map d)) (n + 1) := ⟨fun K G H v x s ⟨a, vs, e, g, r⟩ => by
  subst e
  exact .tup (.inl (.inl (s _ _ g))) (datAll h s r), fun x => by
  have h2 := layAll h x
  refine ⟨h2.1, ?_⟩
  simp only [PyData.depth]
  omega⟩
theorem dat_list {d : α → PyData} {n : Nat} (h : Dat R d n) : Dat (rList R) (fun xs => .list (xs.map d)) (n + 1) := ⟨fun K G H v x s ⟨a, vs, e, g, r⟩ => by
  subst e
  exact .lst (.inl (.inl (s _ _ g))) (datAll h s r), fun x => by
  have h2 := layAll h x
  refine ⟨h2.1, ?_⟩
  simp only [PyData.depth]
  omega⟩
theorem shaped_of {d : α → PyData} {n : Nat} (h : Dat R d n) (hn : n ≤ 64) (x : α) : SeqAt.shaped (d x) = true := by
  have h1 := h.lay x
  unfold SeqAt.shaped
  rw [h1.1, decide_eq_true (Nat.le_trans h1.2 hn)]
  rfl
theorem ev_eqD {d : α → PyData} {n : Nat} {x' : α} (h : Dat R d n) (hn : n ≤ 64) (ha : Ev rs ta S M R x) (hb : Ev rs tb S M R x') : Ev rs (tOp (rEqD K) ta tb) S M rBool (PyData.eqv (d x) (d x')) := ev_op (fun G v w h1 h2 H Q s q => ⟨d x, d x', h.dp K G H v x s h1, h.dp K G H w x' s h2, shaped_of h hn x, shaped_of h hn x', q _ rfl⟩) ha hb
theorem ev_neD {d : α → PyData} {n : Nat} {x' : α} (h : Dat R d n) (hn : n ≤ 64) (ha : Ev rs ta S M R x) (hb : Ev rs tb S M R x') : Ev rs (tOp (rNeD K) ta tb) S M rBool (!PyData.eqv (d x) (d x')) := ev_op (fun G v w h1 h2 H Q s q => ⟨d x, d x', h.dp K G H v x s h1, h.dp K G H w x' s h2, shaped_of h hn x, shaped_of h hn x', q _ rfl⟩) ha hb
theorem ev_eqNil {d : α → PyData} {n : Nat} {xs : List α} (h : Dat R d n) (hn : n ≤ 63) (ha : Ev rs ta S M (rList R) xs) : Ev rs (tOp (rEqD K) ta (tLst tNil)) S M rBool xs.isEmpty := ev_eq (ev_eqD (dat_list h) (by omega) ha (ev_lst (xs := ([] : List α)) ea_nil (by simp))) (by
  cases xs with
  | nil => rfl
  | cons x xs => rfl)
theorem ev_neNil {d : α → PyData} {n : Nat} {xs : List α} (h : Dat R d n) (hn : n ≤ 63) (ha : Ev rs ta S M (rList R) xs) : Ev rs (tOp (rNeD K) ta (tLst tNil)) S M rBool (!xs.isEmpty) := ev_eq (ev_neD (dat_list h) (by omega) ha (ev_lst (xs := ([] : List α)) ea_nil (by simp))) (by
  cases xs with
  | nil => rfl
  | cons x xs => rfl)

abbrev Pm := List (List Nat) × List Nat
abbrev rRow : MR (List Nat) := rTup rNat
abbrev rSteps : MR (List (List Nat)) := rTup rRow
abbrev rPm : MR Pm := rPr rSteps rRow
def rMach (C : Addr) : MR Pm := ⟨fun G v m => ∃ a dx t, v = .ref a ∧ G a = some (.ins C dx [("parts", .ref t)]) ∧ rPm.rel G (.ref t) m, fun e ⟨a, dx, t, h1, h2, h3⟩ => ⟨a, dx, t, h1, e _ _ h2, rPm.mono e h3⟩⟩
theorem ev_parts {C : Addr} {m : Pm} (cl : Cls K C) (na : NoAttr K C "parts") (ha : Ev rs ta S M (rMach C) m) : Ev rs (tFld K ta "parts") S M rPm m := fun H0 G0 H G as σ Z Q q =>
  ha H0 G0 H G as σ Z _ fun v H1 G1 Z1 e1 ⟨a, dx, t, ea, ga, r⟩ => ⟨a, C, dx, _, .ref t, ea, Z1.sub _ _ ga, cl, na, by
    show List.lookup ("parts" : Str) [(("parts" : Str), V.ref t)] = some (V.ref t)
    rw [List.lookup_cons, beq_self_eq_true], q _ H1 G1 Z1 e1 r⟩
end
end B
namespace B
open PySem PySem.Spec PyProof.Rows L2
section
variable {X : Cx} {k v a b e : Expr} {tk tv ta tb te : TE} {pos p p2 q : Pos} {tg : Expr}
theorem get_list : PGet X (rIxL X.K) := by
  intro pins s σ H x y v u Q I rx ry h
  obtain ⟨p, xs, i, z, rfl, rfl, hq, he, q⟩ := h
  cases rx
  obtain ⟨t, rfl⟩ := ry
  obtain ⟨its, r, pl, hz⟩ := I.list hq
  obtain ⟨j, h1, h2, h3, h4, h5⟩ := atI_get he
  obtain ⟨w, ew, rw'⟩ := r.get h2
  have hl := r.length
  have hn := line63
  have fin : EP X pins σ Q w s := ⟨z, H, I, rw', q⟩
  by_cases h0 : 0 ≤ i
  · have hj : i.toNat = j := by
      rw [seqIndex_of h0 h5] at h1
      exact Option.some.inj h1
    exact wpAny_getItem_list pl.isList h0 (by omega) (by rw [hj]; simpa using ew) fin
  · have hj : (i + (its.toArray.size : Int)).toNat = j := by
      rw [seqIndex_neg (by omega) h4] at h1
      rw [List.size_toArray, ← hl]
      exact Option.some.inj h1
    exact wpAny_getItem_list_neg pl.isList (by omega) (by rw [List.size_toArray] <;> omega) (by omega) (by rw [hj]; simpa using ew) fin
theorem storeAll_one {prog : Program} {w : World} {A : Around} {E : Value → Shared → Prop} {s : Shared} {d : Addr} {x y : Value} {Q : PUnit → Shared → Prop} (h : wpAny (model prog w) A (dictSet d x y) (fun _ s' => Q PUnit.unit s') E s) :
    wpAny (model prog w) A (storeAll d [(x, y)]) Q E s := by
  unfold storeAll
  rw [List.forIn_cons]
  refine wpAny_bind (wpAny_bind (wpAny_mono h (fun _ s' h' => wpAny_pure ?_) fun _ _ e => e))
  show wpAny _ _ (forIn ([] : List (Value × Value)) PUnit.unit _) Q E s'
  rw [List.forIn_nil]
  exact wpAny_pure h'
theorem pe_dispT (hu : X.A.units < cLine) (hk : PE X k tk) (hv : PE X v tv) : PE X (.Dict [some k] [v] pos) (tDispT tk tv) := by
  refine ⟨fun pins s σ H Q I h => ?_⟩
  have hn := I.hok.fresh (Nat.le_refl s.heap.objs.size)
  have I1 := I.laid (a := s.heap.objs.size) (o := .dT []) (h' := s.heap.push { cls := .type "dict", data := .dict #[] }) (t' := s.toks) (fun _ _ q => Heap.get?_push_of_some _ q) (Nat.le_refl _) (dt_empty s.heap I.big)
  refine wpAny_Dict_any rfl rfl (by simp) (by simp) (pairTrees_cons_walk (thn (hk.run pins _ σ _ _ I1 (h _ hn)) fun u s2 ⟨x, H2, I2, rx, q2⟩ => thn (hv.run pins s2 σ H2 _ I2 q2) fun r s3 ⟨y, H3, I3, ry, e, ks, b, ex, eb, q3⟩ => pairTrees_nil_walk (storeAll_one ?_)))
  subst ex
  cases (show u = Value.ref b from rx)
  obtain ⟨z, hd, xs, rel, dd⟩ := dt_of I3.hok e
  have hx : xs = [] := by
    have := Paired.length rel
    exact List.length_eq_zero_iff.mp this.symm
  subst hx
  refine wpAny_dictSet_heap (hsz := Nat.zero_le _) (knd := tupleKind (mixKind X.prog X.w)) hu (key_of I3.hok eb) dd fun h' dd' hs => ⟨.ref s.heap.objs.size, _, ?_, rfl, q3⟩
  obtain ⟨q, es, ep, hq, h2, h3, h4, _, h5⟩ := dd'
  refine d_write I3 (by rw [e]; exact True.intro) hs ⟨q, hq⟩ ⟨by show 1 ≤ sizeLine; rw [sizeLine_eq]; decide, hd, _, (rel.put ks eb ry).keeps fun c ys ec => ?_, q, es, ep, hq, h2, h3, h4, h5⟩
  rw [upd_ne (ne_of ec e (fun z => nomatch z))]
  exact ec
end
end B
namespace B
open PySem PySem.Spec PyProof.Rows L2
open AutoSeq1 (wpAny_loadPart')
theorem meets_enumT (l : Addr) (items : Array Value) (n : Nat) (dct : Option Addr) (sl : Array (Option Value)) :
    Meets (Builtin.«enumerate.__new__» ⟨[.type "enumerate", .ref l], []⟩) (fun _ R s => s.heap.get? l = some { cls := .type "tuple", dict := dct, data := .seq items n, slots := sl } ∧
      R (.ok (.ret (.ref (s.heap.push { cls := .type "tuple_iterator", data := .fields #[.ref l, .int 0 0] }).objs.size)))
        { s with heap := (s.heap.push { cls := .type "tuple_iterator", data := .fields #[.ref l, .int 0 0] }).push { cls := .type "enumerate", data := .fields #[.none, .bool false, .ref s.heap.objs.size, rawInt 0, .none, .none] } }) :=
  .of_wp fun prog w A R s h => by
    obtain ⟨hp, g, d, tk, os⟩ := s; obtain ⟨hl, h⟩ := h
    have hsub := sub_enumerate
    have hL : Heap.IsTuple (Shared.heap ⟨hp, g, d, tk, os⟩) l items := ⟨_, hl, rfl, n, rfl⟩
    wp_walk using wpAny_loadPart' hl
    refine wpAny_stack_any fun st => wpAny_pure ?_
    split
    · rename_i c _ _ _ _ _
      cases (c == Value.type "enumerate")
      · wp_walk using wpAny_loadPart' hl, wpAny_pyIter_tuple hL
        exact ⟨_, rfl, h⟩
      · wp_walk using wpAny_loadPart' hl, wpAny_pyIter_tuple hL
        exact ⟨_, rfl, h⟩
    · wp_walk using wpAny_loadPart' hl, wpAny_pyIter_tuple hL
      exact ⟨_, rfl, h⟩
section
variable {prog : Program} {w : World} {A : Around} {E : Value → Shared → Prop} {s : Shared}
theorem call_enumT {l : Addr} {items : Array Value} {Q : Value → Shared → Prop} (hL : s.heap.IsTuple l items)
    (h : ∀ h', IsEnum h' (s.heap.objs.size + 1) s.heap.objs.size 0 .none → h'.IsTupleIter s.heap.objs.size l 0 → h'.objs.size = s.heap.objs.size + 2 →
      (∀ b o, s.heap.get? b = some o → h'.get? b = some o) → Q (.ref (s.heap.objs.size + 1)) { s with heap := h' }) :
    wpAny (model prog w) A (call (.type "enumerate") [.ref l]) Q E s := by
  obtain ⟨⟨c, dct, dt, sl⟩, hl, hc, n, hd⟩ := hL
  replace hc : c = .type "tuple" := hc
  replace hd : dt = .seq items n := hd
  subst hc hd
  refine callType_new F.called_enumerate (by decide) (F.typeCall_enumerate_1 _) (F.newCall_enumerate_1 _) (fun obj => F.args_object_init_2 obj _) F.entry_enumerate_new
    (meets_enumT l items n dct sl) ⟨hl, ?_⟩
  have hz : (s.heap.push { cls := .type "tuple_iterator", data := .fields #[.ref l, .int 0 0] }).objs.size = s.heap.objs.size + 1 := Heap.size_push ..
  show _ ∧ _
  rw [hz]
  have he : IsEnum ((s.heap.push { cls := .type "tuple_iterator", data := .fields #[.ref l, .int 0 0] }).push
      { cls := .type "enumerate", data := .fields #[.none, .bool false, .ref s.heap.objs.size, rawInt 0, .none, .none] }) (s.heap.objs.size + 1) s.heap.objs.size 0 .none := by
    have := Heap.get?_push_size (s.heap.push { cls := .type "tuple_iterator", data := .fields #[.ref l, .int 0 0] })
      (o := { cls := .type "enumerate", data := .fields #[.none, .bool false, .ref s.heap.objs.size, rawInt 0, .none, .none] }) rfl
    rw [hz] at this; exact this
  exact ⟨⟨_, he, rfl⟩, h _ he ⟨_, Heap.get?_push_of_some _ (Heap.get?_push_size _ rfl), rfl, rfl⟩ (by rw [Heap.size_push, hz]) fun b o x => Heap.get?_push_of_some _ (Heap.get?_push_of_some _ x)⟩
end
def IteT (K : PySem.W.Frag) (a : Addr) : It :=
  ⟨fun i H => ∃ (xs : List V) (x : V), SqT K H a xs ∧ xs[i]? = some x, fun i H v H' => ∃ T x, v = .ref T ∧ H T = none ∧ H' = upd H T (.tup [.int (i : Nat), x]) ∧ ∀ xs, SqT K H a xs → xs[i]? = some x, fun i H => ∃ xs : List V, SqT K H a xs ∧ xs.length ≤ i⟩
theorem turn_enumT {P : Program} {w : World} {K : PySem.W.Frag} {elts : List Expr} {kk : Nat} {tpos : Pos} (a e it : Addr) (hae : e ≠ a) (hai : a ≠ it) :
    Turn P w K (.Tuple elts kk tpos) (IteT K a) [e, it] e (fun i h => (∃ old, IsEnum h e it ((i : Nat) : Int) old) ∧ h.IsTupleIter it a i ∧ e ≠ it) where
  mem := by simp
  obj := fun i h st b hb => by
    obtain ⟨⟨old, he⟩, ⟨o, ho, hc, hd⟩, _⟩ := st
    have e' : b = e ∨ b = it := by simpa using hb
    rcases e' with z | z
    · rw [z]; exact ⟨_, he, fun v q => nomatch q⟩
    · rw [z]; exact ⟨o, ho, fun v q => by rw [hd] at q; cases q⟩
  keep := fun i h h' st k => let ⟨⟨old, he⟩, hi, hne⟩ := st; ⟨⟨old, k e (by simp) _ he⟩, hi.at fun o q => k it (by simp) o q, hne⟩
  item := by
    intro X hP hw hK hc i pins s σ H E I hf st hg
    subst hP hw hK
    obtain ⟨⟨old, he⟩, hit, hne⟩ := st
    obtain ⟨xs, x, hq, hx⟩ := hg
    obtain ⟨its, rv, p, hz⟩ := I.tuple hq
    obtain ⟨u, hu, ru⟩ := rv.get hx
    have hel : e < s.heap.objs.size := Heap.lt_size he
    have hil : it < s.heap.objs.size := by obtain ⟨_, q, _⟩ := hit; exact Heap.lt_size q
    have D := Draws.tuple (prog := X.prog) (w := X.w) (A := X.A.in1) (I.ok.hd hc) it a hai its.toArray
    have hlt : i < its.toArray.size := by
      have := (List.getElem?_eq_some_iff.mp hu).1
      rw [List.size_toArray]
      exact this
    refine wpAny_pyNext_enum_itemD D he ⟨hit, p⟩ hlt hne (by simp; exact ⟨hne, hae⟩) fun x' h' tk hP ho hst hT hsz hk => ?_
    have ex : x' = u := by
      have hP : its.toArray[i]? = some x' := hP
      rw [List.getElem?_toArray, hu] at hP
      exact (Option.some.inj hP).symm
    subst ex
    refine ⟨_, rfl, wpAny_letOwnedTupleGo_enum (s := { s with heap := h', toks := tk + 1 }) ho fun h'' he' sb => ?_⟩
    have hT2 : h''.get? s.heap.objs.size = some { cls := .type "tuple", data := .seq #[.int i tk, x'] } := (sb.2 _ (Nat.ne_of_gt hel)).trans hT
    have new : ObjOk X.prog X.w (upd H s.heap.objs.size (.tup [.int (i : Nat), x])) h'' s.heap.objs.size (.tup [.int (i : Nat), x]) :=
      ⟨by show 2 ≤ sizeLine; decide, [.int i tk, x'], .cons ⟨_, rfl⟩ (.cons ru .nil), ⟨_, hT2, rfl, _, rfl⟩⟩
    have I1 : Inv X pins σ (upd H s.heap.objs.size (.tup [.int (i : Nat), x])) { s with heap := h'', toks := tk + 1 } :=
      I.turnedNew (ch := [e, it]) (fun b ob hb q => (sb.2 b (fun z => hb (by simp [z]))).trans (hk b ob (fun z => hb (by simp [z])) (fun z => hb (by simp [z])) q)) hf (Nat.le_refl _) new
    refine ⟨.ref s.heap.objs.size, _, I1, rfl, ⟨_, x, rfl, I.hok.fresh (Nat.le_refl _), rfl, fun ys hy => by rw [I.tuple_inj hy hq]; exact hx⟩, ⟨⟨x', ?_⟩, hst.1.at fun o q => (sb.2 it (Ne.symm hne)).trans q, hne⟩, fun b hb => ?_⟩
    · have e1 : ((i + 1 : Nat) : Int) = (i : Int) + 1 := by omega
      rw [e1]; exact he'
    · have hb' : b < s.heap.objs.size := by
        have e' : b = e ∨ b = it := by simpa using hb
        rcases e' with z | z
        · rw [z]; exact hel
        · rw [z]; exact hil
      rw [upd_ne (Nat.ne_of_lt hb')]
      exact (hf b hb).1
  done := by
    intro X hP hw hK hc i pins s σ H E I hf st hg
    subst hP hw hK
    obtain ⟨⟨old, he⟩, hit, hne⟩ := st
    obtain ⟨xs, hq, hx⟩ := hg
    obtain ⟨its, rv, p, hz⟩ := I.tuple hq
    obtain ⟨f0, f1, f2, f3, f4, f5⟩ := hf it (by simp)
    have hl := rv.length
    have hT : s.TypeIs (.ref e) "enumerate" := ⟨_, he, rfl⟩
    unfold pyNext
    refine wpAny_bind (wpAny_attempt (wpAny_callSpecial?_slot (name := Str.ofString "__next__") hT F.slot_enumerate_next
      (wpAny_call_entry F.slot_enumerate_next hT F.entry_enumerate_next ?_ (F.args_enumerate_next_1 _))))
    show wpAny _ _ (field (.ref e) 2 >>= _) _ _ _
    refine wpAny_bind (wpAny_field he rfl (x := .ref it) rfl ?_)
    refine wpAny_bind (RZ.nextOf_tuple_end (I.ok.hd hc) hit p (by rw [List.getElem?_toArray]; exact List.getElem?_eq_none (by omega)) fun h' x eb hx' => ?_)
    obtain ⟨o, ho, hcl⟩ := hx'
    refine wpAny_bind (wpAny_isInstance (T := "StopIteration") (b := true) ⟨o, ho, hcl⟩ isSubtype_stop ?_)
    exact wpAny_pure ⟨rfl, I.turned (t' := s.toks) (fun b o hb q => eb b o hb q) f0 f1 f3 f4 f5⟩
  self := fun A i s Q E st h => let ⟨⟨_, he⟩, _⟩ := st; wpAny_pyIter_enum he h
def iEnumT (K : PySem.W.Frag) (ta : TA) : TI := fun σ H R => ta σ H fun vs H1 => ∃ a xs, vs = [.ref a] ∧ SqT K H1 a xs ∧ R (IteT K a) H1
theorem pi_enumT {X : Cx} {e : Expr} {ta : TA} {p pos tpos : Pos} {elts : List Expr} {kk : Nat} (hg : Gl X "enumerate") (hm : X.mg "enumerate" = none) (ha : PA X [e] ta) (hs : starEach [e] X.env = [(false, eval e X.env)] := by rfl) :
    PI X (.Tuple elts kk tpos) (.Call (.Name "enumerate" p) [e] [] pos) (iEnumT X.K ta) := by
  refine ⟨fun pins s σ H R I h => ?_⟩
  refine Call_ (ld_blt I hg hm boot_enumerate (PyProof.Rows.callWith_type1 (thn (ha.run pos pins s σ H _ I h) fun us s1 ⟨vs, H1, I1, r1, q1⟩ => ?_) hs rfl))
  obtain ⟨a, xs, ex, hq, q⟩ := q1
  subst ex
  cases r1 with
  | cons r rr =>
    cases rr
    cases r
    obtain ⟨its, rv, p', hz⟩ := I1.tuple hq
    have la : a < s1.heap.objs.size := by obtain ⟨_, ho, _⟩ := id p'; exact Heap.lt_size ho
    refine call_enumT (show s1.heap.IsTuple a its.toArray from p') fun h' he hit hsz hk => wpAny_pyIter_enum he ?_
    have I2 : Inv X pins σ H1 { s1 with heap := h' } := I1.kept (t' := s1.toks) hk
    refine ⟨s1.heap.objs.size + 1, [s1.heap.objs.size + 1, s1.heap.objs.size], _, _, H1, rfl, I2, turn_enumT a (s1.heap.objs.size + 1) s1.heap.objs.size (Nat.ne_of_gt (Nat.lt_succ_of_lt la)) (Nat.ne_of_lt la), ⟨⟨.none, he⟩, hit, Nat.succ_ne_self _⟩, fun b hb => ?_, q⟩
    have e' : b = s1.heap.objs.size + 1 ∨ b = s1.heap.objs.size := by simpa using hb
    have hle : s1.heap.objs.size ≤ b := by
      rcases e' with z | z
      · rw [z]; exact Nat.le_add_right _ _
      · rw [z]; exact Nat.le_refl _
    exact I1.fpOk hle (I1.hok.fresh hle)
end B
namespace B
open PySem PySem.Spec PyProof.Rows L2
abbrev zipO (v : Value) (f : Bool) (TI TO : Addr) : Obj := { cls := .type "zip", dict := none, data := .fields #[v, .bool f, .bool false, .ref TI, .ref TO], slots := #[] }
def ZOut (v : Value) : Prop := v = .none ∨ ∃ T : Addr, v = rawInt T
def ZSt (h : Heap) (z TI TO i1 i2 l1 l2 : Addr) (i : Nat) : Prop := (∃ v f, h.get? z = some (zipO v f TI TO) ∧ ZOut v) ∧ IsPair h TI (.ref i1) (.ref i2) ∧ (∃ x y, IsPair h TO x y) ∧ h.IsTupleIter i1 l1 i ∧ h.IsTupleIter i2 l2 i
section
variable {prog : Program} {w : World} {A : Around} {E : Value → Shared → Prop} {s : Shared}
theorem free_any {z TI TO : Addr} {v : Value} {f : Bool} {Q : Bool → Shared → Prop} (hz : s.heap.get? z = some (zipO v f TI TO)) (hv : ZOut v) (h1 : Q true s)
    (h2 : ∀ h', h'.get? z = some (zipO v true TI TO) → Heap.SameBut z s.heap h' → Q false { s with heap := h' }) : wpAny (model prog w) A (Builtin.SmallTypes.ownedTupleIsFree (.ref z)) Q E s := by
  unfold Builtin.SmallTypes.ownedTupleIsFree
  rcases hv with rfl | ⟨T, rfl⟩
  · exact wpAny_bind (wpAny_field hz rfl (x := .none) rfl (wpAny_pure h1))
  · refine wpAny_bind (wpAny_field hz rfl (x := rawInt T) rfl ?_)
    show wpAny _ _ (loadIfAlive ((T : Int).toNat) >>= _) _ _ _
    rw [Int.toNat_natCast]
    cases hT : s.heap.get? T with
    | none =>
      have al : ∀ {R : Option Obj → Shared → Prop}, R none s → wpAny (model prog w) A (loadIfAlive T) R E s := fun {R} hr => by
        have h' : R (s.heap.get? T) s := by rw [hT]; exact hr
        exact fun _ _ _ => h'
      refine wpAny_bind (al ?_)
      simp only [Option.isNone_none, if_true]
      exact wpAny_pure h1
    | some oT =>
      refine wpAny_bind (PySem.W.kdx_alive hT ?_)
      simp only [Option.isNone_some, Bool.false_eq_true, if_false]
      refine wpAny_bind (wpAny_field hz rfl (x := .bool f) rfl ?_)
      cases f with
      | true =>
        rw [if_neg (show ¬ ((Value.bool true != Value.bool true) = true) from Bool.false_ne_true)]
        exact wpAny_pure (h2 s.heap hz (Heap.SameBut.refl _ _))
      | false =>
        rw [if_pos (show (Value.bool false != Value.bool true) = true from rfl)]
        exact wpAny_bind (wpAny_setField_rec hz (by simp) fun h₁ hz₁ hs₁ => wpAny_pure (h2 h₁ hz₁ hs₁))
theorem zipN_next_item {z TI TO i1 i2 l1 l2 : Addr} {k : Nat} {xs ys : Array Value} {x y : Value} {Q : Value → Shared → Prop} (D : ZipApart z TI TO i1 i2 l1 l2)
    (hs : ZSt s.heap z TI TO i1 i2 l1 l2 k) (hl1 : s.heap.IsTuple l1 xs) (hl2 : s.heap.IsTuple l2 ys) (hx : xs[k]? = some x) (hy : ys[k]? = some y)
    (hQ : ∀ h', ZSt h' z TI TO i1 i2 l1 l2 (k + 1) → IsPair h' s.heap.objs.size x y → h'.objs.size = s.heap.objs.size + 1 →
      (∀ c o, c ≠ z → c ≠ TO → c ≠ i1 → c ≠ i2 → s.heap.get? c = some o → h'.get? c = some o) → Q (.ref s.heap.objs.size) { s with heap := h' }) :
    wpAny (model prog w) A (Builtin.«zip.__next__» ⟨[.ref z], []⟩) (fun fin s' => ∃ v, fin = .done (.ret v) ∧ Q v s') E s := by
  obtain ⟨⟨v, f, hz, hv⟩, hTI, ⟨a, b, hTO⟩, h1, h2⟩ := hs
  show wpAny _ _ (field (.ref z) 2 >>= _) _ _ _
  refine wpAny_bind (wpAny_field hz rfl (x := .bool false) rfl ?_)
  show wpAny _ _ (field (.ref z) 3 >>= _) _ _ _
  refine wpAny_bind (wpAny_field hz rfl (x := .ref TI) rfl ?_)
  refine wpAny_bind (wpAny_seqItems hTI rfl ?_)
  show wpAny _ _ (Builtin.SmallTypes.ownedTupleIsFree (.ref z) >>= _) _ _ _
  refine wpAny_bind (free_any hz hv ?_ fun h₁ hz₁ hs₁ => ?_)
  · simp only [if_true]
    refine wpAny_bind (wpAny_rule ?_)
    refine wpAny_bind (wpAny_field hz rfl (x := .ref TO) rfl ?_)
    refine wpAny_bind (wpAny_setField_rec hz (by simp) fun h₁ hz₁ hs₁ => ?_)
    replace hz₁ : h₁.get? z = some (zipO .ellipsis f TI TO) := hz₁
    refine wpAny_bind ?_
    simp only [List.zipIdx_cons, List.zipIdx_nil, List.forIn_cons, List.forIn_nil]
    refine wpAny_bind (wpAny_bind (wpAny_onRaise ?_))
    show wpAny _ _ (Builtin.SmallTypes.nextOf (.ref i1) >>= _) _ _ _
    refine wpAny_bind (RZ.nextOf_tuple_item (h1.extBut hs₁.extBut D.i1z) (hl1.extBut hs₁.extBut D.l1z) hx fun h₂ h1₂ hs₂ => wpAny_pure ?_)
    have hTO₂ : IsPair h₂ TO a b := hs₂.extBut _ _ D.TOi1 (hs₁.extBut _ _ D.TOz hTO)
    refine wpAny_bind (wpAny_seqItems hTO₂ rfl ?_)
    refine wpAny_bind (wpAny_updateSeq_pair hTO₂ fun h₃ hTO₃ hs₃ => ?_)
    replace hTO₃ : IsPair h₃ TO x b := hTO₃
    refine wpAny_bind (wpAny_letGo (wpAny_pure ?_))
    refine wpAny_bind (wpAny_bind (wpAny_onRaise ?_))
    show wpAny _ _ (Builtin.SmallTypes.nextOf (.ref i2) >>= _) _ _ _
    refine wpAny_bind (RZ.nextOf_tuple_item (((h2.extBut hs₁.extBut D.i2z).extBut hs₂.extBut D.i12.symm).extBut hs₃.extBut D.TOi2.symm)
      (((hl2.extBut hs₁.extBut D.l2z).extBut hs₂.extBut D.l2i1).extBut hs₃.extBut D.l2TO) hy fun h₄ h2₄ hs₄ => wpAny_pure ?_)
    have hTO₄ : IsPair h₄ TO x b := hs₄.extBut _ _ D.TOi2 hTO₃
    refine wpAny_bind (wpAny_seqItems hTO₄ rfl ?_)
    refine wpAny_bind (wpAny_updateSeq_pair hTO₄ fun h₅ hTO₅ hs₅ => ?_)
    replace hTO₅ : IsPair h₅ TO x y := hTO₅
    refine wpAny_bind (wpAny_letGo (wpAny_pure (wpAny_pure ?_)))
    refine wpAny_bind (wpAny_seqItems hTO₅ rfl ?_)
    refine wpAny_bind (wpAny_newTuple ?_)
    have hsz : h₅.objs.size = s.heap.objs.size := by rw [hs₅.1, hs₄.1, hs₃.1, hs₂.1, hs₁.1]
    have hz₅ : h₅.get? z = some (zipO .ellipsis f TI TO) := hs₅.extBut _ _ D.TOz.symm (hs₄.extBut _ _ D.i2z.symm (hs₃.extBut _ _ D.TOz.symm (hs₂.extBut _ _ D.i1z.symm hz₁)))
    have hk₅ : ∀ c o, c ≠ z → c ≠ TO → c ≠ i1 → c ≠ i2 → s.heap.get? c = some o → h₅.get? c = some o := fun c o c1 c2 c3 c4 e =>
      hs₅.extBut _ _ c2 (hs₄.extBut _ _ c4 (hs₃.extBut _ _ c2 (hs₂.extBut _ _ c3 (hs₁.extBut _ _ c1 e))))
    have h1₅ : h₅.IsTupleIter i1 l1 (k + 1) := ((h1₂.extBut hs₃.extBut D.TOi1.symm).extBut hs₄.extBut D.i12).extBut hs₅.extBut D.TOi1.symm
    have h2₅ : h₅.IsTupleIter i2 l2 (k + 1) := h2₄.extBut hs₅.extBut D.TOi2.symm
    have hzlt : z < h₅.objs.size := Heap.lt_size hz₅
    show wpAny _ _ (Builtin.SmallTypes.ownedTupleHandOut (.ref z) (.ref h₅.objs.size) >>= _) _ _ _
    refine wpAny_bind ?_
    unfold Builtin.SmallTypes.ownedTupleHandOut
    have hz₆ : (h₅.push { cls := .type "tuple", data := .seq #[x, y] }).get? z = some (zipO .ellipsis f TI TO) := Heap.get?_push_of_some _ hz₅
    refine wpAny_bind (wpAny_setField_rec hz₆ (by simp) fun h₇ hz₇ hs₇ => ?_)
    replace hz₇ : h₇.get? z = some (zipO (rawInt h₅.objs.size) f TI TO) := hz₇
    refine wpAny_setField_rec hz₇ (by simp) fun h₈ hz₈ hs₈ => ?_
    replace hz₈ : h₈.get? z = some (zipO (rawInt h₅.objs.size) false TI TO) := hz₈
    have up : ∀ c o, c ≠ z → h₅.get? c = some o → h₈.get? c = some o := fun c o c1 e => hs₈.extBut _ _ c1 (hs₇.extBut _ _ c1 (Heap.get?_push_of_some _ e))
    have hT₈ : IsPair h₈ h₅.objs.size x y := hs₈.extBut _ _ (Nat.ne_of_gt hzlt) (hs₇.extBut _ _ (Nat.ne_of_gt hzlt) (Heap.get?_push_size _ rfl))
    have hz8 : h₈.objs.size = h₅.objs.size + 1 := by rw [hs₈.1, hs₇.1, Heap.size_push]
    rw [hsz] at hz₈ hT₈ hz8
    refine wpAny_pure ⟨_, rfl, ?_⟩
    show Q (.ref h₅.objs.size) _
    rw [hsz]
    exact hQ h₈ ⟨⟨_, _, hz₈, .inr ⟨_, rfl⟩⟩, up _ _ D.TIz (hk₅ _ _ D.TIz D.TITO D.TIi1 D.TIi2 hTI), ⟨x, y, up _ _ D.TOz hTO₅⟩, h1₅.at fun o e => up _ o D.i1z e, h2₅.at fun o e => up _ o D.i2z e⟩ hT₈ hz8 fun c o c1 c2 c3 c4 e => up c o c1 (hk₅ c o c1 c2 c3 c4 e)
  · simp only [Bool.false_eq_true, if_false]
    refine wpAny_bind ?_
    rw [← Array.forIn_toList]
    simp only [List.forIn_cons, List.forIn_nil]
    refine wpAny_bind (wpAny_bind (wpAny_holding ?_))
    show wpAny _ _ (Builtin.SmallTypes.nextOf (.ref i1) >>= _) _ _ _
    refine wpAny_bind (RZ.nextOf_tuple_item (s := { s with heap := h₁ }) (h1.extBut hs₁.extBut D.i1z) (hl1.extBut hs₁.extBut D.l1z) hx fun h₂ h1₂ hs₂ => wpAny_pure ?_)
    refine wpAny_pure ?_
    refine wpAny_bind (wpAny_bind (wpAny_holding ?_))
    show wpAny _ _ (Builtin.SmallTypes.nextOf (.ref i2) >>= _) _ _ _
    refine wpAny_bind (RZ.nextOf_tuple_item (s := { s with heap := h₂ }) ((h2.extBut hs₁.extBut D.i2z).extBut hs₂.extBut D.i12.symm) ((hl2.extBut hs₁.extBut D.l2z).extBut hs₂.extBut D.l2i1) hy fun h₃ h2₃ hs₃ => wpAny_pure ?_)
    refine wpAny_pure (wpAny_pure ?_)
    show wpAny _ _ (newTuple [x, y] >>= _) _ _ _
    refine wpAny_bind (wpAny_newTuple ?_)
    have hsz : h₃.objs.size = s.heap.objs.size := by rw [hs₃.1, hs₂.1, hs₁.1]
    have hz₃ : h₃.get? z = some (zipO v true TI TO) := hs₃.extBut _ _ D.i2z.symm (hs₂.extBut _ _ D.i1z.symm hz₁)
    have hk : ∀ c o, c ≠ z → c ≠ TO → c ≠ i1 → c ≠ i2 → s.heap.get? c = some o → h₃.get? c = some o := fun c o c1 _ c2 c3 e => hs₃.extBut _ _ c3 (hs₂.extBut _ _ c2 (hs₁.extBut _ _ c1 e))
    have h1₃ : h₃.IsTupleIter i1 l1 (k + 1) := h1₂.extBut hs₃.extBut D.i12
    have hTI₃ : IsPair h₃ TI (.ref i1) (.ref i2) := hk _ _ D.TIz D.TITO D.TIi1 D.TIi2 hTI
    have hTO₃ : IsPair h₃ TO a b := hs₃.extBut _ _ D.TOi2 (hs₂.extBut _ _ D.TOi1 (hs₁.extBut _ _ D.TOz hTO))
    refine wpAny_pure ⟨_, rfl, ?_⟩
    show Q (.ref h₃.objs.size) _
    have hp : IsPair (h₃.push { cls := .type "tuple", data := .seq #[x, y] }) h₃.objs.size x y := Heap.get?_push_size _ rfl
    have hz4 : (h₃.push { cls := .type "tuple", data := .seq #[x, y] }).objs.size = h₃.objs.size + 1 := Heap.size_push ..
    rw [hsz] at hp hz4 ⊢
    exact hQ _ ⟨⟨_, _, Heap.get?_push_of_some _ hz₃, hv⟩, Heap.get?_push_of_some _ hTI₃, ⟨a, b, Heap.get?_push_of_some _ hTO₃⟩, h1₃.at fun o e => Heap.get?_push_of_some _ e, h2₃.at fun o e => Heap.get?_push_of_some _ e⟩ hp hz4 fun c o c1 c2 c3 c4 e => Heap.get?_push_of_some _ (hk c o c1 c2 c3 c4 e)
theorem zipN_next_end {z TI TO i1 i2 l1 l2 : Addr} {k : Nat} {xs ys : Array Value} {Q : Fin → Shared → Prop} (hh : A.handled = none) (D : ZipApart z TI TO i1 i2 l1 l2)
    (hs : ZSt s.heap z TI TO i1 i2 l1 l2 k) (hl1 : s.heap.IsTuple l1 xs) (hl2 : s.heap.IsTuple l2 ys) (hend : xs[k]? = none ∨ ys[k]? = none)
    (hE : ∀ h' e, (∀ c o, c ≠ z → c ≠ TO → c ≠ i1 → c ≠ i2 → s.heap.get? c = some o → h'.get? c = some o) → (∃ o, h'.get? e = some o ∧ o.cls = .type "StopIteration") → E (.ref e) { s with heap := h' }) :
    wpAny (model prog w) A (Builtin.«zip.__next__» ⟨[.ref z], []⟩) Q E s := by
  obtain ⟨⟨v, f, hz, hv⟩, hTI, ⟨a, b, hTO⟩, h1, h2⟩ := hs
  show wpAny _ _ (field (.ref z) 2 >>= _) _ _ _
  refine wpAny_bind (wpAny_field hz rfl (x := .bool false) rfl ?_)
  show wpAny _ _ (field (.ref z) 3 >>= _) _ _ _
  refine wpAny_bind (wpAny_field hz rfl (x := .ref TI) rfl ?_)
  refine wpAny_bind (wpAny_seqItems hTI rfl ?_)
  show wpAny _ _ (Builtin.SmallTypes.ownedTupleIsFree (.ref z) >>= _) _ _ _
  refine wpAny_bind (free_any hz hv ?_ fun h₁ hz₁ hs₁ => ?_)
  · simp only [if_true]
    refine wpAny_bind (wpAny_rule ?_)
    refine wpAny_bind (wpAny_field hz rfl (x := .ref TO) rfl ?_)
    refine wpAny_bind (wpAny_setField_rec hz (by simp) fun h₁ hz₁ hs₁ => ?_)
    replace hz₁ : h₁.get? z = some (zipO .ellipsis f TI TO) := hz₁
    refine wpAny_bind ?_
    simp only [List.zipIdx_cons, List.zipIdx_nil, List.forIn_cons, List.forIn_nil]
    refine wpAny_bind (wpAny_bind (wpAny_onRaise ?_))
    show wpAny _ _ (Builtin.SmallTypes.nextOf (.ref i1) >>= _) _ _ _
    cases hx : xs[k]? with
    | none =>
      refine wpAny_bind (RZ.nextOf_tuple_end hh (h1.extBut hs₁.extBut D.i1z) (hl1.extBut hs₁.extBut D.l1z) hx fun h₂ e hs₂ he => ?_)
      obtain ⟨oe, hoe, hce⟩ := he
      have hz₂ : h₂.get? z = some (zipO .ellipsis f TI TO) := hs₂ _ _ D.i1z.symm hz₁
      have hez : e ≠ z := fun x => by subst x; rw [hz₂] at hoe; cases hoe; simp at hce
      refine wpAny_setField_rec hz₂ (by simp) fun h₃ _ hs₃ => hE h₃ e (fun c o c1 _ c3 _ x => hs₃.extBut _ _ c1 (hs₂ _ _ c3 (hs₁.extBut _ _ c1 x))) ⟨oe, hs₃.extBut _ _ hez hoe, hce⟩
    | some x =>
      have hy : ys[k]? = none := by rcases hend with h | h; rw [hx] at h; cases h; exact h
      refine wpAny_bind (RZ.nextOf_tuple_item (h1.extBut hs₁.extBut D.i1z) (hl1.extBut hs₁.extBut D.l1z) hx fun h₂ h1₂ hs₂ => wpAny_pure ?_)
      have hTO₂ : IsPair h₂ TO a b := hs₂.extBut _ _ D.TOi1 (hs₁.extBut _ _ D.TOz hTO)
      refine wpAny_bind (wpAny_seqItems hTO₂ rfl ?_)
      refine wpAny_bind (wpAny_updateSeq_pair hTO₂ fun h₃ hTO₃ hs₃ => ?_)
      refine wpAny_bind (wpAny_letGo (wpAny_pure ?_))
      refine wpAny_bind (wpAny_bind (wpAny_onRaise ?_))
      show wpAny _ _ (Builtin.SmallTypes.nextOf (.ref i2) >>= _) _ _ _
      refine wpAny_bind (RZ.nextOf_tuple_end hh (((h2.extBut hs₁.extBut D.i2z).extBut hs₂.extBut D.i12.symm).extBut hs₃.extBut D.TOi2.symm)
        (((hl2.extBut hs₁.extBut D.l2z).extBut hs₂.extBut D.l2i1).extBut hs₃.extBut D.l2TO) hy fun h₄ e hs₄ he => ?_)
      obtain ⟨oe, hoe, hce⟩ := he
      have hz₄ : h₄.get? z = some (zipO .ellipsis f TI TO) := hs₄ _ _ D.i2z.symm (hs₃.extBut _ _ D.TOz.symm (hs₂.extBut _ _ D.i1z.symm hz₁))
      have hez : e ≠ z := fun x => by subst x; rw [hz₄] at hoe; cases hoe; simp at hce
      refine wpAny_setField_rec hz₄ (by simp) fun h₅ _ hs₅ => hE h₅ e (fun c o c1 c2 c3 c4 x => hs₅.extBut _ _ c1 (hs₄ _ _ c4 (hs₃.extBut _ _ c2 (hs₂.extBut _ _ c3 (hs₁.extBut _ _ c1 x))))) ⟨oe, hs₅.extBut _ _ hez hoe, hce⟩
  · simp only [Bool.false_eq_true, if_false]
    refine wpAny_bind ?_
    rw [← Array.forIn_toList]
    simp only [List.forIn_cons, List.forIn_nil]
    refine wpAny_bind (wpAny_bind (wpAny_holding ?_))
    show wpAny _ _ (Builtin.SmallTypes.nextOf (.ref i1) >>= _) _ _ _
    cases hx : xs[k]? with
    | none =>
      refine wpAny_bind (RZ.nextOf_tuple_end (s := { s with heap := h₁ }) hh (h1.extBut hs₁.extBut D.i1z) (hl1.extBut hs₁.extBut D.l1z) hx fun h₂ e hs₂ he => ?_)
      exact hE h₂ e (fun c o c1 _ c2 _ x => hs₂ _ _ c2 (hs₁.extBut _ _ c1 x)) he
    | some x =>
      have hy : ys[k]? = none := by rcases hend with h | h; rw [hx] at h; cases h; exact h
      refine wpAny_bind (RZ.nextOf_tuple_item (s := { s with heap := h₁ }) (h1.extBut hs₁.extBut D.i1z) (hl1.extBut hs₁.extBut D.l1z) hx fun h₂ h1₂ hs₂ => wpAny_pure ?_)
      refine wpAny_pure ?_
      refine wpAny_bind (wpAny_bind (wpAny_holding ?_))
      show wpAny _ _ (Builtin.SmallTypes.nextOf (.ref i2) >>= _) _ _ _
      refine wpAny_bind (RZ.nextOf_tuple_end (s := { s with heap := h₂ }) hh ((h2.extBut hs₁.extBut D.i2z).extBut hs₂.extBut D.i12.symm) ((hl2.extBut hs₁.extBut D.l2z).extBut hs₂.extBut D.l2i1) hy fun h₃ e hs₃ he => ?_)
      exact hE h₃ e (fun c o c1 _ c2 c3 x => hs₃ _ _ c3 (hs₂.extBut _ _ c2 (hs₁.extBut _ _ c1 x))) he
theorem ZSt.ty {z TI TO i1 i2 l1 l2 : Addr} {k : Nat} (hs : ZSt s.heap z TI TO i1 i2 l1 l2 k) : s.TypeIs (.ref z) "zip" := by
  obtain ⟨⟨v, f, hz, hv⟩, _⟩ := hs
  exact ⟨_, hz, rfl⟩
theorem pyNext_zipN_item {z TI TO i1 i2 l1 l2 : Addr} {k : Nat} {xs ys : Array Value} {x y : Value} {Q : Option Value → Shared → Prop} (D : ZipApart z TI TO i1 i2 l1 l2)
    (hs : ZSt s.heap z TI TO i1 i2 l1 l2 k) (hl1 : s.heap.IsTuple l1 xs) (hl2 : s.heap.IsTuple l2 ys) (hx : xs[k]? = some x) (hy : ys[k]? = some y)
    (hQ : ∀ h', ZSt h' z TI TO i1 i2 l1 l2 (k + 1) → IsPair h' s.heap.objs.size x y → h'.objs.size = s.heap.objs.size + 1 →
      (∀ c o, c ≠ z → c ≠ TO → c ≠ i1 → c ≠ i2 → s.heap.get? c = some o → h'.get? c = some o) → Q (some (.ref s.heap.objs.size)) { s with heap := h' }) :
    wpAny (model prog w) A (pyNext (.ref z)) Q E s := by
  have hT := hs.ty
  unfold pyNext
  exact wpAny_bind (wpAny_attempt (wpAny_callSpecial?_slot (name := Str.ofString "__next__") hT F.slot_zip_next
    (wpAny_call_entry F.slot_zip_next hT F.entry_zip_next
      (zipN_next_item D hs hl1 hl2 hx hy fun h' a1 a5 a6 a7 => wpAny_pure (hQ h' a1 a5 a6 a7)) (F.args_zip_next_1 _))))
theorem pyNext_zipN_end {z TI TO i1 i2 l1 l2 : Addr} {k : Nat} {xs ys : Array Value} {Q : Option Value → Shared → Prop} (hh : A.handled = none) (D : ZipApart z TI TO i1 i2 l1 l2)
    (hs : ZSt s.heap z TI TO i1 i2 l1 l2 k) (hl1 : s.heap.IsTuple l1 xs) (hl2 : s.heap.IsTuple l2 ys) (hend : xs[k]? = none ∨ ys[k]? = none)
    (hQ : ∀ h', (∀ c o, c ≠ z → c ≠ TO → c ≠ i1 → c ≠ i2 → s.heap.get? c = some o → h'.get? c = some o) → Q none { s with heap := h' }) :
    wpAny (model prog w) A (pyNext (.ref z)) Q E s := by
  have hT := hs.ty
  unfold pyNext
  refine wpAny_bind (wpAny_attempt (wpAny_callSpecial?_slot (name := Str.ofString "__next__") hT F.slot_zip_next
    (wpAny_call_entry F.slot_zip_next hT F.entry_zip_next (zipN_next_end hh D hs hl1 hl2 hend fun h' e hk he => ?_) (F.args_zip_next_1 _))))
  obtain ⟨o, ho, hc⟩ := he
  refine wpAny_bind (wpAny_isInstance (T := "StopIteration") (b := true) ⟨o, ho, hc⟩ isSubtype_stop ?_)
  exact wpAny_pure (hQ _ hk)
end
theorem ZSt.at' {h h' : Heap} {z TI TO i1 i2 l1 l2 : Addr} {k : Nat} (st : ZSt h z TI TO i1 i2 l1 l2 k) (kp : ∀ b ∈ [z, TI, TO, i1, i2], ∀ o, h.get? b = some o → h'.get? b = some o) : ZSt h' z TI TO i1 i2 l1 l2 k := by
  obtain ⟨⟨v, f, hz, hv⟩, hTI, ⟨x, y, hTO⟩, h1, h2⟩ := st
  exact ⟨⟨v, f, kp z (by simp) _ hz, hv⟩, kp TI (by simp) _ hTI, ⟨x, y, kp TO (by simp) _ hTO⟩, h1.at fun o q => kp i1 (by simp) o q, h2.at fun o q => kp i2 (by simp) o q⟩
theorem ZSt.lt {h : Heap} {z TI TO i1 i2 l1 l2 : Addr} {k : Nat} (st : ZSt h z TI TO i1 i2 l1 l2 k) : ∀ c ∈ [z, TI, TO, i1, i2], c < h.objs.size := by
  obtain ⟨⟨v, f, hz, hv⟩, hTI, ⟨x, y, hTO⟩, ⟨o1, e1, _, d1⟩, ⟨o2, e2, _, d2⟩⟩ := st
  intro c hc
  have e' : c = z ∨ c = TI ∨ c = TO ∨ c = i1 ∨ c = i2 := by simpa using hc
  rcases e' with q | q | q | q | q
  · rw [q]; exact Heap.lt_size hz
  · rw [q]; exact Heap.lt_size hTI
  · rw [q]; exact Heap.lt_size hTO
  · rw [q]; exact Heap.lt_size e1
  · rw [q]; exact Heap.lt_size e2
theorem turn_zipN {P : Program} {w : World} {K : PySem.W.Frag} {x : Str} {px : Pos} {a b z TI TO i1 i2 : Addr} (D : ZipApart z TI TO i1 i2 a b) :
    Turn P w K (.Name x px) (RZ.ItzT K a b) [z, TI, TO, i1, i2] z (fun i h => ZSt h z TI TO i1 i2 a b i) where
  mem := by simp
  obj := fun i h st c hc => by
    obtain ⟨⟨v, f, hz, hv⟩, hTI, ⟨x, y, hTO⟩, ⟨o1, e1, _, d1⟩, ⟨o2, e2, _, d2⟩⟩ := st
    have e' : c = z ∨ c = TI ∨ c = TO ∨ c = i1 ∨ c = i2 := by simpa using hc
    rcases e' with q | q | q | q | q
    · rw [q]; exact ⟨_, hz, fun v q => nomatch q⟩
    · rw [q]; exact ⟨_, hTI, fun v q => nomatch q⟩
    · rw [q]; exact ⟨_, hTO, fun v q => nomatch q⟩
    · rw [q]; exact ⟨o1, e1, fun v q => by rw [d1] at q; cases q⟩
    · rw [q]; exact ⟨o2, e2, fun v q => by rw [d2] at q; cases q⟩
  keep := fun i h h' st k => st.at' k
  item := by
    intro X hP hw hK hc i pins s σ H E I hf st hg
    subst hP hw hK
    obtain ⟨xs, ys, x, y, hqx, hqy, hx, hy⟩ := hg
    obtain ⟨its, rv, p, _⟩ := I.tuple hqx
    obtain ⟨its2, rv2, p2, _⟩ := I.tuple hqy
    obtain ⟨u, hu, ru⟩ := rv.get hx
    obtain ⟨u2, hu2, ru2⟩ := rv2.get hy
    refine pyNext_zipN_item D st (show s.heap.IsTuple a its.toArray from p) (show s.heap.IsTuple b its2.toArray from p2) (x := u) (y := u2) (by simpa using hu) (by simpa using hu2) fun h' st' hT hsz hk => ?_
    refine ⟨_, rfl, wpAny_pure ?_⟩
    have new : ObjOk X.prog X.w (upd H s.heap.objs.size (.tup [x, y])) h' s.heap.objs.size (.tup [x, y]) :=
      ⟨by show 2 ≤ sizeLine; decide, [u, u2], .cons ru (.cons ru2 .nil), ⟨_, hT, rfl, _, rfl⟩⟩
    have I1 : Inv X pins σ (upd H s.heap.objs.size (.tup [x, y])) { s with heap := h' } :=
      I.turnedNew (t' := s.toks) (ch := [z, TI, TO, i1, i2]) (fun c o hb q => hk c o (fun q' => hb (by simp [q'])) (fun q' => hb (by simp [q'])) (fun q' => hb (by simp [q'])) (fun q' => hb (by simp [q'])) q) hf (Nat.le_refl _) new
    refine ⟨.ref s.heap.objs.size, _, I1, rfl, ⟨_, x, y, rfl, I.hok.fresh (Nat.le_refl _), rfl, fun l hl => by rw [I.tuple_inj hl hqx]; exact hx, fun l hl => by rw [I.tuple_inj hl hqy]; exact hy⟩, st', fun c hcm => ?_⟩
    rw [upd_ne (Nat.ne_of_lt (st.lt c hcm))]
    exact (hf c hcm).1
  done := by
    intro X hP hw hK hc i pins s σ H E I hf st hg
    subst hP hw hK
    obtain ⟨xs, ys, hqx, hqy, hend⟩ := hg
    obtain ⟨its, rv, p, _⟩ := I.tuple hqx
    obtain ⟨its2, rv2, p2, _⟩ := I.tuple hqy
    have l1 := rv.length
    have l2 := rv2.length
    have he : its.toArray[i]? = none ∨ its2.toArray[i]? = none := by
      rcases hend with q | q
      · exact .inl (by simp; omega)
      · exact .inr (by simp; omega)
    exact pyNext_zipN_end (I.ok.hd hc) D st (show s.heap.IsTuple a its.toArray from p) (show s.heap.IsTuple b its2.toArray from p2) he fun h' hk => ⟨rfl, I.turnedL (t' := s.toks) (ch := [z, TI, TO, i1, i2]) (fun c o hb q =>
      hk c o (fun q' => hb (by simp [q'])) (fun q' => hb (by simp [q'])) (fun q' => hb (by simp [q'])) (fun q' => hb (by simp [q'])) q) hf⟩
  self := fun A i s Q E st h => by
    have hT := st.ty
    refine wpAny_pyIter_slot hT F.slot_zip_iter (wpAny_call_entry F.slot_zip_iter hT F.entry_zip_iter ?_ (F.args_zip_iter_1 _))
    show wpAny _ _ (ret (.ref z)) _ _ s
    exact wpAny_pure ⟨_, rfl, "zip", _, hT, F.slot_zip_next.lookup, h⟩
def iZipN (K : PySem.W.Frag) (ta : TA) : TI := fun σ H R => ta σ H fun vs H1 => ∃ a b xs ys, vs = [.ref a, .ref b] ∧ SqT K H1 a xs ∧ SqT K H1 b ys ∧ R (RZ.ItzT K a b) H1
theorem pi_zipN {X : Cx} {e e2 : Expr} {ta : TA} {p pos px : Pos} {x : Str} (hg : Gl X "zip") (hm : X.mg "zip" = none) (ha : PA X [e, e2] ta)
    (hs : starEach [e, e2] X.env = (false, eval e X.env) :: starEach [e2] X.env := by rfl) (hpl : (backTo pos (starEach [e2] X.env)).any (·.1) = false := by rfl) :
    PI X (.Name x px) (.Call (.Name "zip" p) [e, e2] [] pos) (iZipN X.K ta) := by
  refine ⟨fun pins s σ H R I h => ?_⟩
  refine Call_ (ld_blt I hg hm PyProof.Rows.boot_zip (PyProof.Rows.callWith_type1 (thn (ha.run pos pins s σ H _ I h) fun us s1 ⟨vs, H1, I1, r1, q1⟩ => ?_) hs hpl))
  obtain ⟨a, b, xs, ys, ex, hqx, hqy, q⟩ := q1
  subst ex
  cases r1 with
  | cons r rr =>
    cases rr with
    | cons r' rr =>
      cases rr
      cases r
      cases r'
      have fresh5 : ∀ c, c ∈ [s1.heap.objs.size + 4, s1.heap.objs.size + 2, s1.heap.objs.size + 3, s1.heap.objs.size, s1.heap.objs.size + 1] → FpOk X pins H1 c := fun c hcm => by
        have e' : c = s1.heap.objs.size + 4 ∨ c = s1.heap.objs.size + 2 ∨ c = s1.heap.objs.size + 3 ∨ c = s1.heap.objs.size ∨ c = s1.heap.objs.size + 1 := by simpa using hcm
        have hle : s1.heap.objs.size ≤ c := by omega
        exact I1.fpOk hle (I1.hok.fresh hle)
      obtain ⟨its, rv, p1, _⟩ := I1.tuple hqx
      obtain ⟨its2, rv2, p2, _⟩ := I1.tuple hqy
      obtain ⟨o1, ho1, _⟩ := id p1
      obtain ⟨o2, ho2, _⟩ := id p2
      refine RZ.call_zipT (show s1.heap.IsTuple a its.toArray from p1) (show s1.heap.IsTuple b its2.toArray from p2) fun h' hz hTI hTO h1 h2 hsz hk => wpAny_pyIter_zip hz ?_
      have I2 : Inv X pins σ H1 { s1 with heap := h' } := I1.kept (t' := s1.toks) hk
      exact ⟨s1.heap.objs.size + 4, [s1.heap.objs.size + 4, s1.heap.objs.size + 2, s1.heap.objs.size + 3, s1.heap.objs.size, s1.heap.objs.size + 1], _, _, H1, rfl, I2, turn_zipN (PySem.W.ktu_apart s1.heap.objs.size a b (Heap.lt_size ho1) (Heap.lt_size ho2)), ⟨⟨.none, false, hz, .inl rfl⟩, hTI, ⟨_, _, hTO⟩, h1, h2⟩, fresh5, q⟩
end B
namespace B
open PySem PySem.Spec PyProof.Rows L2
theorem zip_no_len : typeLookup (.type "zip") "__len__" = pure none := am_miss_of_fast (by decide +kernel)
theorem zip_no_hint : typeLookup (.type "zip") "__length_hint__" = pure none := am_miss_of_fast (by decide +kernel)
section
variable {prog : Program} {w : World} {A : Around} {E : Value → Shared → Prop} {s : Shared}
theorem zip_hint {r : Addr} (hT : s.TypeIs (.ref r) "zip") {Q : Bool → Shared → Prop} (h : Q true s) : wpAny (model prog w) A (Builtin.List.listLengthHint (.ref r)) Q E s := by
  unfold Builtin.List.listLengthHint
  refine wpAny_bind (wpAny_specialOf hT zip_no_len ?_)
  refine PySem.W.KFB.if_not rfl ?_
  refine PySem.W.KFB.if_not rfl ?_
  refine wpAny_bind (wpAny_specialOf hT zip_no_hint ?_)
  exact wpAny_pure h
structure ZG (ps : List (Value × Value)) (lo : Addr) (h : Heap) (as : List Addr) : Prop where
  rise : as.Pairwise (· < ·)
  above : ∀ a ∈ as, lo < a
  pairs : ∀ (j : Nat) (a : Addr), as[j]? = some a → ∃ x y, ps[j]? = some (x, y) ∧ h.get? a = some { cls := .type "tuple", data := .seq #[x, y] }
theorem ZG.there {ps : List (Value × Value)} {lo : Addr} {h : Heap} {as : List Addr} (g : ZG ps lo h as) {a : Addr} (ha : a ∈ as) : a < h.objs.size := by
  obtain ⟨j, hj⟩ := List.mem_iff_getElem?.mp ha
  obtain ⟨_, _, _, e⟩ := g.pairs j a hj
  exact Heap.lt_size e
end
section
variable {prog : Program} {w : World} {A : Around} {s : Shared} {R : Result → Shared → Prop} {us vs : List Value}
theorem zip_loop {S z TI TO i1 i2 l1 l2 : Addr} (hh : A.handled = none) (D : ZipApart z TI TO i1 i2 l1 l2) (hfp : ∀ c ∈ [z, TI, TO, i1, i2], c < S) (hl : us.length = vs.length) (hn : us.length ≤ 1000) (res : Value) {h₁ : Heap} (h1z : ∀ c ∈ [z, TI, TO, i1, i2], h₁.objs.size ≤ c) (t1 : h₁.IsTuple l1 us.toArray) (t2 : h₁.IsTuple l2 vs.toArray)
    (hR : ∀ h' tk acc c as, (∀ b o, h₁.get? b = some o → h'.get? b = some o) → h'.get? S = some { cls := .type "list", dict := none, data := .seq acc c, slots := #[] } → as.length = us.length → ZG (us.zip vs) S h' as →
      acc.toList = as.map Value.ref → R (.ok (.ret res)) { s with heap := h', toks := tk }) :
    ∀ (k i : Nat) (h : Heap) (tk c : Nat) (acc : Array Value) (as : List Addr), us.length - i = k → i ≤ us.length → ZSt h z TI TO i1 i2 l1 l2 i → (∀ b o, h₁.get? b = some o → h.get? b = some o) →
      h.get? S = some { cls := .type "list", dict := none, data := .seq acc c, slots := #[] } → acc.toList = as.map Value.ref → as.length = i → ZG (us.zip vs) S h as →
      codeAny (model prog w) A (.builtin "list.extend.loop" ⟨[.ref S, .ref z, res], []⟩) R { s with heap := h, toks := tk } := by
  have sl : (1000 : Nat) ≤ sizeLine := by rw [sizeLine_eq]; decide
  have lowS : ∀ b o, h₁.get? b = some o → b ≠ S := fun b o e => Nat.ne_of_lt (Nat.lt_of_lt_of_le (Heap.lt_size e) (Nat.le_trans (h1z z (by simp)) (Nat.le_of_lt (hfp z (by simp)))))
  have low : ∀ c ∈ [z, TI, TO, i1, i2], ∀ b o, h₁.get? b = some o → b ≠ c := fun c hc b o e => Nat.ne_of_lt (Nat.lt_of_lt_of_le (Heap.lt_size e) (h1z c hc))
  intro k
  induction k with
  | zero =>
    intro i h tk c acc as hk hi hst hkeep hS hacc hal hG
    have hin : i = us.length := by omega
    refine codeAny_builtin PySem.F.entry_extend_loop ?_
    rw [Around.under_plainId PySem.F.plain_extend_loop _]
    show wpAny _ A.in1 (pyNext (.ref z) >>= _) _ _ _
    refine wpAny_bind (pyNext_zipN_end (s := { s with heap := h, toks := tk }) (A := A.in1) hh D hst (t1.at fun o e => hkeep _ _ e) (t2.at fun o e => hkeep _ _ e) (.inl (by simp; omega)) fun h' he => ?_)
    have oS : ∀ c ∈ [z, TI, TO, i1, i2], S ≠ c := fun c hc => Nat.ne_of_gt (hfp c hc)
    refine wpAny_pure (hR h' tk acc c as (fun b o e => he b o (low z (by simp) b o e) (low TO (by simp) b o e) (low i1 (by simp) b o e) (low i2 (by simp) b o e) (hkeep b o e)) (he S _ (oS z (by simp)) (oS TO (by simp)) (oS i1 (by simp)) (oS i2 (by simp)) hS) (by omega) ⟨hG.rise, hG.above, fun j a hj => ?_⟩ hacc)
    obtain ⟨x, y, e1, e3⟩ := hG.pairs j a hj
    have ha := hG.above a (List.mem_of_getElem? hj)
    have oA : ∀ c ∈ [z, TI, TO, i1, i2], a ≠ c := fun c hc => Nat.ne_of_gt (Nat.lt_trans (hfp c hc) ha)
    exact ⟨x, y, e1, he a _ (oA z (by simp)) (oA TO (by simp)) (oA i1 (by simp)) (oA i2 (by simp)) e3⟩
  | succ k ih =>
    intro i h tk c acc as hk hi hst hkeep hS hacc hal hG
    have hlt : i < us.length := by omega
    have hlt2 : i < vs.length := by omega
    have hsz : acc.size = i := by rw [← Array.length_toList, hacc, List.length_map, hal]
    have oS : ∀ c ∈ [z, TI, TO, i1, i2], S ≠ c := fun c hc => Nat.ne_of_gt (hfp c hc)
    refine codeAny_builtin PySem.F.entry_extend_loop ?_
    rw [Around.under_plainId PySem.F.plain_extend_loop _]
    show wpAny _ A.in1 (pyNext (.ref z) >>= _) _ _ _
    refine wpAny_bind (pyNext_zipN_item (s := { s with heap := h, toks := tk }) (A := A.in1) D hst (t1.at fun o e => hkeep _ _ e) (t2.at fun o e => hkeep _ _ e) (x := us[i]) (y := vs[i]) (by simp [hlt]) (by simp [hlt2]) fun h' hst' ht hz hkp => ?_)
    dsimp only at ht hz hkp ⊢
    have hS' := hkp S _ (oS z (by simp)) (oS TO (by simp)) (oS i1 (by simp)) (oS i2 (by simp)) hS
    have up : ∀ b o, b ≠ S → h'.get? b = some o → (h'.update S (Obj.mapSeq (·.push (Value.ref h.objs.size)))).get? b = some o := fun b o hb e => (Heap.get?_update_other _ _ (Ne.symm hb)).trans e
    have hSl : S < h.objs.size := Heap.lt_size hS
    show wpAny _ A.in1 (updateSeq S (·.push (Value.ref h.objs.size)) >>= _) _ _ _
    refine wpAny_bind ?_
    refine wpAny_updateSeq hS' rfl (wpAny_pure ⟨plainId_quiet PySem.F.plain_extend_loop _, ih (i + 1) _ tk _ (acc.push (Value.ref h.objs.size)) (as ++ [h.objs.size]) (by omega) hlt (hst'.at' fun b hb o e => up b o (Ne.symm (oS b hb)) e)
      (fun b o e => up b o (lowS b o e) (hkp b o (low z (by simp) b o e) (low TO (by simp) b o e) (low i1 (by simp) b o e) (low i2 (by simp) b o e) (hkeep b o e))) (Heap.get?_update_self _ hS' rfl) (by rw [Array.toList_push, hacc, List.map_append]; rfl) (by rw [List.length_append, hal]; rfl) ⟨?_, ?_, ?_⟩⟩) (by rw [hsz]; omega) (by show (acc.push (Value.ref h.objs.size)).size ≤ sizeLine + 1; rw [Array.size_push, hsz]; omega)
    · refine List.pairwise_append.mpr ⟨hG.rise, List.pairwise_singleton _ _, fun a ha b hb => ?_⟩
      rw [List.mem_singleton.mp hb]
      exact hG.there ha
    · intro a ha
      rcases List.mem_append.mp ha with ha | ha
      · exact hG.above a ha
      · rw [List.mem_singleton.mp ha]; exact hSl
    · intro j b hj
      rcases Nat.lt_trichotomy j as.length with h1 | h1 | h1
      · rw [List.getElem?_append_left h1] at hj
        obtain ⟨x', y', e1, e3⟩ := hG.pairs j b hj
        have hb := hG.above b (List.mem_of_getElem? hj)
        have oB : ∀ c ∈ [z, TI, TO, i1, i2], b ≠ c := fun c hc => Nat.ne_of_gt (Nat.lt_trans (hfp c hc) hb)
        exact ⟨x', y', e1, up b _ (Nat.ne_of_gt hb) (hkp b _ (oB z (by simp)) (oB TO (by simp)) (oB i1 (by simp)) (oB i2 (by simp)) e3)⟩
      · subst h1
        have hb : h.objs.size = b := by simpa using hj
        subst hb
        refine ⟨us[i], vs[i], ?_, up _ _ (Nat.ne_of_gt hSl) ht⟩
        rw [hal, List.getElem?_eq_getElem (by simp; omega), List.getElem_zip]
      · have hnone : (as ++ [h.objs.size])[j]? = none := List.getElem?_eq_none (by rw [List.length_append, List.length_singleton]; omega)
        rw [hnone] at hj; cases hj
end
def putP : Hp → List Addr → List (V × V) → Hp
  | H, a :: as, p :: ps => putP (upd H a (.tup [p.1, p.2])) as ps
  | H, _, _ => H
theorem putP_off {b : Addr} : ∀ (as : List Addr) (ps : List (V × V)) (H : Hp), b ∉ as → putP H as ps b = H b
  | [], _, _, _ => rfl
  | _ :: _, [], _, _ => rfl
  | a :: as, p :: ps, H, h => by
    show putP (upd H a (.tup [p.1, p.2])) as ps b = H b
    rw [putP_off as ps _ (fun z => h (List.mem_cons_of_mem _ z)), upd_ne (fun z => h (by rw [z]; exact List.mem_cons_self))]
theorem putP_at : ∀ (as : List Addr) (ps : List (V × V)) (H : Hp), as.length = ps.length → as.Nodup → Paired (fun (t : Addr) (p : V × V) => putP H as ps t = some (.tup [p.1, p.2])) as ps
  | [], [], _, _, _ => .nil
  | [], _ :: _, _, h, _ => by cases h
  | _ :: _, [], _, h, _ => by cases h
  | a :: as, p :: ps, H, h, hn => by
    have hn' := List.nodup_cons.mp hn
    refine .cons ?_ (putP_at as ps (upd H a (.tup [p.1, p.2])) (Nat.succ.inj h) hn'.2)
    show putP (upd H a (.tup [p.1, p.2])) as ps a = some (.tup [p.1, p.2])
    rw [putP_off as ps _ hn'.1, upd_same]
theorem vals_refs : ∀ as : List Addr, Vals (as.map V.ref) (as.map Value.ref)
  | [] => .nil
  | _ :: as => .cons rfl (vals_refs as)
theorem paired_ix {α β : Type} {F : α → β → Prop} : ∀ {xs : List α} {ys : List β}, Paired F xs ys → ∀ {x : α}, x ∈ xs → ∃ (j : Nat) (y : β), xs[j]? = some x ∧ ys[j]? = some y ∧ F x y
  | _, _, .cons h t, x, hx => by
    rcases List.mem_cons.mp hx with e | hx
    · rw [e]
      exact ⟨0, _, rfl, rfl, h⟩
    · obtain ⟨j, y, e1, e2, e3⟩ := paired_ix t hx
      exact ⟨j + 1, y, e1, e2, e3⟩
section
variable {X : Cx} {k v a b e : Expr} {ta tb te : TE} {pos p p2 q : Pos}
theorem zip_laid {pins : List (Addr × Obj)} {σ : L2.St} {H : Hp} {s : Shared} {h' : Heap} {tk : Nat} {xs ys : List V} {us vs : List Value} {acc : Array Value} {c : Nat} {as : List Addr} {S : Addr} (I : Inv X pins σ H s) (hS0 : s.heap.objs.size ≤ S) (hx : xs.length ≤ 1000) (hxy : xs.length = ys.length) (rx : Vals xs us) (ry : Vals ys vs)
    (hk : ∀ b o, s.heap.get? b = some o → h'.get? b = some o) (hS : h'.get? S = some { cls := .type "list", dict := none, data := .seq acc c, slots := #[] }) (hl : as.length = us.length) (hG : ZG (us.zip vs) S h' as) (hacc : acc.toList = as.map Value.ref) :
    ∃ H' : Hp, Same H H' ∧ H S = none ∧ (∀ t ∈ as, H t = none) ∧ H' S = some (.lst (as.map V.ref)) ∧ Paired (fun (t : Addr) (q : V × V) => H' t = some (.tup [q.1, q.2])) as (xs.zip ys) ∧ Inv X pins σ H' { s with heap := h', toks := tk } := by
  have sl : (1000 : Nat) ≤ sizeLine := by rw [sizeLine_eq]; decide
  have lx := rx.length
  have ly := ry.length
  have hSn : S ∉ as := fun z => Nat.lt_irrefl _ (hG.above _ z)
  have nd : as.Nodup := List.Pairwise.imp (fun {a b} (h : a < b) => Nat.ne_of_lt h) hG.rise
  have ge : ∀ t ∈ as, s.heap.objs.size ≤ t := fun t ht => Nat.le_trans hS0 (Nat.le_of_lt (hG.above t ht))
  have new : ∀ t ∈ as, H t = none := fun t ht => I.hok.fresh (ge t ht)
  have newS : H S = none := I.hok.fresh hS0
  have hlp : as.length = (xs.zip ys).length := by rw [List.length_zip]; omega
  have atP := putP_at as (xs.zip ys) (upd H S (.lst (as.map V.ref))) hlp nd
  have off : ∀ b, b ∉ as → b ≠ S → putP (upd H S (.lst (as.map V.ref))) as (xs.zip ys) b = H b := fun b h1 h2 => by rw [putP_off as _ _ h1, upd_ne h2]
  have low : ∀ b o, s.heap.get? b = some o → b ∉ as ∧ b ≠ S := fun b o e => ⟨fun z => absurd (Heap.lt_size e) (Nat.not_lt.mpr (ge b z)), fun z => absurd (Heap.lt_size e) (Nat.not_lt.mpr (z ▸ hS0))⟩
  have kp : ∀ b u, H b = some u → (putP (upd H S (.lst (as.map V.ref))) as (xs.zip ys)) b = some u := fun b u e => by
    rw [off b (fun z => by rw [new b z] at e; cases e) (fun z => by rw [z, newS] at e; cases e)]
    exact e
  have eS : putP (upd H S (.lst (as.map V.ref))) as (xs.zip ys) S = some (.lst (as.map V.ref)) := by rw [putP_off as _ _ hSn, upd_same]
  refine ⟨putP (upd H S (.lst (as.map V.ref))) as (xs.zip ys), kp, newS, new, eS, atP, ?_⟩
  refine I.call' (ch := []) rfl ⟨fun b o q _ _ _ => hk b o q, fun b o q _ _ _ => ⟨o.slots, hk b o q⟩, fun b o q n _ => ?_, fun b o q _ => ⟨o, hk b o q⟩, fun b xs q => kp b _ q, fun b o u q => kp b _ q, fun b ps q => ⟨#[], by rw [kp b _ q]; simp⟩⟩ (fun b u q => ?_) I.bare fun b z => by simp at z
  · obtain ⟨z1, z2⟩ := low b o q
    rw [off b z1 z2]
    exact n
  · by_cases hb : b ∈ as
    · obtain ⟨j, pk, e1, e2, e3⟩ := paired_ix atP hb
      rw [e3] at q
      cases q
      obtain ⟨x, y, f1, f3⟩ := hG.pairs j b e1
      obtain ⟨xv, yv⟩ := pk
      rw [List.getElem?_zip_eq_some] at e2 f1
      obtain ⟨u', hu', ru'⟩ := rx.get e2.1
      obtain ⟨w', hw', rw'⟩ := ry.get e2.2
      rw [f1.1] at hu'
      rw [f1.2] at hw'
      cases hu'
      cases hw'
      exact ⟨by show 2 ≤ sizeLine; decide, [x, y], .cons ru' (.cons rw' .nil), ⟨_, f3, rfl, _, rfl⟩⟩
    · by_cases hb2 : b = S
      · rw [hb2] at q ⊢
        rw [eS] at q
        cases q
        refine ⟨by rw [List.length_map]; omega, acc.toList, c, by rw [hacc]; exact vals_refs as, ?_⟩
        rw [Array.toArray_toList]
        exact hS
      · rw [off b hb hb2] at q
        exact (I.hok b u q).stay (fun d v _ y => hk d v y) (fun d y => kp d _ y) fun d xs y => kp d _ y
end
end B
namespace B
open PySem PySem.Spec PyProof.Rows L2
section
variable {prog : Program} {w : World} {A : Around} {E : Value → Shared → Prop} {s : Shared} {us vs : List Value} {S z TI TO i1 i2 l1 l2 : Addr} {h₁ : Heap}
theorem zipN_iter {k : Nat} {Q : Value → Shared → Prop} (st : ZSt s.heap z TI TO i1 i2 l1 l2 k) (h : Q (.ref z) s) : wpAny (model prog w) A (pyIter (.ref z)) Q E s := by
  have hT := st.ty
  refine wpAny_pyIter_slot hT F.slot_zip_iter (wpAny_call_entry F.slot_zip_iter hT F.entry_zip_iter ?_ (F.args_zip_iter_1 _))
  show wpAny _ _ (ret (.ref z)) _ _ s
  exact wpAny_pure ⟨_, rfl, "zip", _, hT, F.slot_zip_next.lookup, h⟩
theorem zip_extend {R : Result → Shared → Prop} (hh : A.handled = none) (D : ZipApart z TI TO i1 i2 l1 l2) (hfp : ∀ c ∈ [z, TI, TO, i1, i2], c < S) (hl : us.length = vs.length) (hn : us.length ≤ 1000) (h1z : ∀ c ∈ [z, TI, TO, i1, i2], h₁.objs.size ≤ c) (t1 : h₁.IsTuple l1 us.toArray) (t2 : h₁.IsTuple l2 vs.toArray)
    (st : ZSt s.heap z TI TO i1 i2 l1 l2 0) (hk1 : ∀ b o, h₁.get? b = some o → s.heap.get? b = some o) (c₀ : Nat) (hS : s.heap.get? S = some { cls := .type "list", data := .seq #[] c₀ })
    (hR : ∀ h' tk acc c as, (∀ b o, h₁.get? b = some o → h'.get? b = some o) → h'.get? S = some { cls := .type "list", dict := none, data := .seq acc c, slots := #[] } → as.length = us.length → ZG (us.zip vs) S h' as →
      acc.toList = as.map Value.ref → R (.ok (.ret .none)) { s with heap := h', toks := tk }) :
    wpAny (model prog w) A.in1 (Builtin.List.listExtendWith (.ref S) (.ref z) .none)
      (fun fin s' => match fin with | .done f => R (.ok f) s' | .again c' => c'.quiet = true ∧ codeAny (model prog w) A c' R s') (fun e s' => R (.error e) s') s := by
  have hSz : S ≠ z := Nat.ne_of_gt (hfp z (by simp))
  have lowS : ∀ b o, h₁.get? b = some o → b ≠ S := fun b o e => Nat.ne_of_lt (Nat.lt_of_lt_of_le (Heap.lt_size e) (Nat.le_trans (h1z z (by simp)) (Nat.le_of_lt (hfp z (by simp)))))
  have key : ∀ (h : Heap) (c₁ tk : Nat), (∀ b o, b ≠ S → s.heap.get? b = some o → h.get? b = some o) → h.get? S = some { cls := .type "list", data := .seq #[] c₁ } →
      codeAny (model prog w) A (.builtin "list.extend.loop" ⟨[.ref S, .ref z, .none], []⟩) R { s with heap := h, toks := tk } := fun h c₁ tk hk hS₁ =>
    zip_loop (s := s) (h₁ := h₁) hh D hfp hl hn .none h1z t1 t2 hR us.length 0 h tk c₁ #[] [] (Nat.sub_zero _) (Nat.zero_le _) (st.at' fun b hb o e => hk b o (Nat.ne_of_lt (hfp b hb)) e) (fun b o e => hk b o (lowS b o e) (hk1 b o e)) hS₁ rfl rfl
      ⟨List.Pairwise.nil, (fun _ ha => nomatch ha), (fun j a hj => by simp at hj)⟩
  unfold Builtin.List.listExtendWith
  refine wpAny_bind (wpAny_typeOf (T := "zip") st.ty ?_)
  have h1 : Builtin.List.listSameRef (.ref S) (.ref z) = false := by simp [Builtin.List.listSameRef, hSz]
  have h2 : (Value.type "zip" == Value.type "list") = false := by decide
  have h3 : (Value.type "zip" == Value.type "tuple") = false := by decide
  simp only [h1, h2, h3, Bool.or_false, Bool.false_eq_true, if_false]
  refine wpAny_bind (zipN_iter st ?_)
  refine wpAny_bind (wpAny_holding (zip_hint st.ty ?_))
  refine wpAny_ite_split (fun _ => ?_) (fun _ => wpAny_pure ⟨plainId_quiet PySem.F.plain_extend_loop _, key _ c₀ _ (fun b o _ e => e) hS⟩)
  refine wpAny_bind (wpAny_rule ?_)
  refine wpAny_bind ?_
  show wpAny _ _ (updateSeq S (·.push .none) >>= fun _ => updateSeq S (·.pop)) _ _ _
  refine wpAny_bind (wpAny_updateSeq hS rfl ?_)
  have hS₂ := Heap.get?_update_self (Obj.mapSeq (·.push Value.none)) hS rfl
  refine wpAny_updateSeq (hz := by seq_fits) hS₂ rfl ?_
  have hS₃ := Heap.get?_update_self (Obj.mapSeq (·.pop)) hS₂ rfl
  refine wpAny_pure ⟨plainId_quiet PySem.F.plain_extend_loop _, key _ _ _ (fun b o hb e => ?_) hS₃⟩
  exact (Heap.get?_update_other _ _ (Ne.symm hb)).trans ((Heap.get?_update_other _ _ (Ne.symm hb)).trans e)
theorem zip_call {Q : Value → Shared → Prop} (hh : A.handled = none) (D : ZipApart z TI TO i1 i2 l1 l2) (hl : us.length = vs.length) (hn : us.length ≤ 1000) (h1z : ∀ c ∈ [z, TI, TO, i1, i2], h₁.objs.size ≤ c) (t1 : h₁.IsTuple l1 us.toArray) (t2 : h₁.IsTuple l2 vs.toArray)
    (st : ZSt s.heap z TI TO i1 i2 l1 l2 0) (hk1 : ∀ b o, h₁.get? b = some o → s.heap.get? b = some o)
    (hQ : ∀ h' tk acc c as, (∀ b o, h₁.get? b = some o → h'.get? b = some o) → h'.get? s.heap.objs.size = some { cls := .type "list", dict := none, data := .seq acc c, slots := #[] } → as.length = us.length → ZG (us.zip vs) s.heap.objs.size h' as →
      acc.toList = as.map Value.ref → Q (.ref s.heap.objs.size) { s with heap := h', toks := tk }) :
    wpAny (model prog w) A (call (.type "list") [.ref z]) Q E s := by
  refine callType_codes (Q₁ := fun obj s₁ => obj = .ref s.heap.objs.size ∧ s₁ = { s with heap := s.heap.push { cls := .type "list", data := .seq #[] } }) PySem.F.called_list (PySem.F.typeCall_list_1 _) PySem.F.entry_list_init
    (code_list_new _ ⟨rfl, rfl⟩) fun obj s₁ hs₁ => ?_
  obtain ⟨rfl, rfl⟩ := hs₁
  have hS : (s.heap.push { cls := .type "list", data := .seq #[] }).get? s.heap.objs.size = some { cls := .type "list", data := .seq #[] } := Heap.get?_push_size _ rfl
  have hlow := st.lt
  refine ⟨⟨_, hS, rfl⟩, PySem.F.args_list_init_2 _ _, ?_⟩
  show wpAny _ _ (do let old ← Builtin.List.listItems (.ref s.heap.objs.size); Builtin.List.listUpdate (.ref s.heap.objs.size) (fun _ => #[]); letGo old.toList.reverse; Builtin.List.listExtendWith (.ref s.heap.objs.size) (.ref z) .none) _ _ _
  refine wpAny_bind ?_
  unfold Builtin.List.listItems
  refine wpAny_bind (wpAny_seqItems hS rfl (wpAny_pure ?_))
  show wpAny _ _ (updateSeq s.heap.objs.size (fun _ => #[]) >>= fun _ => letGo (#[] : Array Value).toList.reverse >>= fun _ => Builtin.List.listExtendWith (.ref s.heap.objs.size) (.ref z) .none) _ _ _
  refine wpAny_bind (wpAny_updateSeq hS rfl ?_)
  have hS₂ := Heap.get?_update_self (Obj.mapSeq (fun _ => (#[] : Array Value))) hS rfl
  have oth : ∀ b o, s.heap.get? b = some o → ((s.heap.push { cls := .type "list", data := .seq #[] }).update s.heap.objs.size (Obj.mapSeq (fun _ => (#[] : Array Value)))).get? b = some o :=
    fun b o e => (Heap.get?_update_other _ _ (Nat.ne_of_gt (Heap.lt_size e))).trans (Heap.get?_push_of_some _ e)
  refine wpAny_bind (wpAny_letGo ?_)
  exact zip_extend (A := A.in1) (h₁ := h₁) hh D hlow hl hn h1z t1 t2 (st.at' fun b hb o e => oth b o e) (fun b o e => oth b o (hk1 b o e)) _ hS₂ fun h' tk acc c as hk hS' hl' hG hacc => ⟨rfl, hQ h' tk acc c as hk hS' hl' hG hacc⟩
end
def tListZip (K : PySem.W.Frag) (ta tb : TE) : TE := fun σ H Q => tCons ta (tCons tb tNil) σ H fun vs H2 => ∃ a b xs ys, vs = [.ref a, .ref b] ∧ SqT K H2 a xs ∧ SqT K H2 b ys ∧ xs.length ≤ 1000 ∧ xs.length = ys.length ∧
  ∀ (p : Addr) (H3 : Hp) (ts : List Addr), Same H2 H3 → H2 p = none → (∀ t ∈ ts, H2 t = none) → H3 p = some (.lst (ts.map V.ref)) → Paired (fun t (xy : V × V) => H3 t = some (.tup [xy.1, xy.2])) ts (xs.zip ys) → Q (.ref p) H3
section
variable {X : Cx} {k v a b e : Expr} {ta tb : TE} {pos p p2 q : Pos}
theorem pe_listzip (hg : Gl X "list") (hm : X.mg "list" = none) (hg2 : Gl X "zip") (hm2 : X.mg "zip" = none) (hab : PA X [a, b] (tCons ta (tCons tb tNil))) (hc : X.calm = true := by rfl)
    (hs : starEach [.Call (.Name "zip" p2) [a, b] [] q] X.env = (false, eval (.Call (.Name "zip" p2) [a, b] [] q) X.env) :: starEach [] X.env := by rfl)
    (hs2 : starEach [a, b] X.env = (false, eval a X.env) :: starEach [b] X.env := by rfl) (hpl : (backTo q (starEach [b] X.env)).any (·.1) = false := by rfl) : PE X (.Call (.Name "list" p) [.Call (.Name "zip" p2) [a, b] [] q] [] pos) (tListZip X.K ta tb) := by
  refine ⟨fun pins s σ H Q I h => ?_⟩
  refine Call_ (ld_blt I hg hm boot_list ?_)
  refine PyProof.Rows.callWith_type1 (PyProof.Rows.args_cons ?_ hs) hs rfl
  refine Call_ (ld_blt I hg2 hm2 PyProof.Rows.boot_zip (PyProof.Rows.callWith_type1 (thn (hab.run q pins s σ H _ I h) fun us s1 ⟨vs, H1, I1, r1, q1⟩ => ?_) hs2 hpl))
  obtain ⟨a, b, xs, ys, ex, hqx, hqy, hx, hxy, q⟩ := q1
  subst ex
  cases r1 with
  | cons r rr =>
    cases rr with
    | cons r' rr =>
      cases rr
      cases r
      cases r'
      obtain ⟨its, rv, p1, _⟩ := I1.tuple hqx
      obtain ⟨its2, rv2, p2, _⟩ := I1.tuple hqy
      obtain ⟨o1, ho1, _⟩ := id p1
      obtain ⟨o2, ho2, _⟩ := id p2
      have l1 := rv.length
      have l2 := rv2.length
      refine RZ.call_zipT (show s1.heap.IsTuple a its.toArray from p1) (show s1.heap.IsTuple b its2.toArray from p2) fun h' hz hTI hTO h1 h2 hsz hk => PyProof.Rows.args_nil ?_
      refine zip_call (s := { s1 with heap := h' }) (h₁ := s1.heap) (us := its) (vs := its2) (I1.ok.hd hc) (PySem.W.ktu_apart s1.heap.objs.size a b (Heap.lt_size ho1) (Heap.lt_size ho2)) (by omega) (by omega) (fun c hcm => ?_) p1 p2 ⟨⟨.none, false, hz, .inl rfl⟩, hTI, ⟨_, _, hTO⟩, h1, h2⟩ hk fun h'' tk acc c as hk' hS hl hG hacc => ?_
      · have e' : c = s1.heap.objs.size + 4 ∨ c = s1.heap.objs.size + 2 ∨ c = s1.heap.objs.size + 3 ∨ c = s1.heap.objs.size ∨ c = s1.heap.objs.size + 1 := by simpa using hcm
        rcases e' with z | z | z | z | z
        · rw [z]; exact Nat.le_add_right _ _
        · rw [z]; exact Nat.le_add_right _ _
        · rw [z]; exact Nat.le_add_right _ _
        · rw [z]; exact Nat.le_refl _
        · rw [z]; exact Nat.le_add_right _ _
      · obtain ⟨H3, k1, k2, k3, k4, k5, J⟩ := zip_laid (tk := tk) I1 (by show s1.heap.objs.size ≤ h'.objs.size; rw [hsz]; exact Nat.le_add_right _ _) hx hxy rv rv2 hk' hS hl hG hacc
        exact ⟨.ref _, H3, J, rfl, q _ H3 as k1 k2 k3 k4 k5⟩
end
end B
namespace B
open PySem PySem.Spec PySem.SeqAt PyProof.Rows L2
def leP (x y : Int × Int) : Prop := x.1 < y.1 ∨ (x.1 = y.1 ∧ x.2 ≤ y.2)
def dP (p : Int × Int) : PyData := .tuple [.int p.1, .int p.2]
theorem lt_dP (p q : Int × Int) : PySem.W.dataLt (dP p) (dP q) = decide (p.1 < q.1 ∨ (p.1 = q.1 ∧ p.2 < q.2)) := by
  show PyProof.Rows.lexLt itemOrd [Sum.inl 1, Sum.inl p.1, Sum.inl 1, Sum.inl p.2, Sum.inl 0] [Sum.inl 1, Sum.inl q.1, Sum.inl 1, Sum.inl q.2, Sum.inl 0] = _
  rw [lex_cons, lex_cons, lex_cons, lex_cons, lex_cons]
  show (decide ((1 : Int) < 1) || (!decide ((1 : Int) < 1) && (decide (p.1 < q.1) || (!decide (q.1 < p.1) && (decide ((1 : Int) < 1) || (!decide ((1 : Int) < 1) && (decide (p.2 < q.2) || (!decide (q.2 < p.2) && (decide ((0 : Int) < 0) || (!decide ((0 : Int) < 0) && false))))))))) ) = _
  rw [Bool.eq_iff_iff]
  simp
  omega
theorem best_le {n : Nat} {f : Nat → Int × Int} {bt : Nat → Nat → Bool} (hb : ∀ i j, i ≤ n → j ≤ n → bt i j = decide ((f i).1 < (f j).1 ∨ ((f i).1 = (f j).1 ∧ (f i).2 < (f j).2))) : ∀ k, k ≤ n → argBest bt k ≤ k ∧ ∀ j, j ≤ k → leP (f (argBest bt k)) (f j)
  | 0, _ => ⟨Nat.le_refl _, fun j hj => by
    have : j = 0 := by omega
    subst this
    exact .inr ⟨rfl, Int.le_refl _⟩⟩
  | k + 1, hk => by
    obtain ⟨i1, i2⟩ := best_le hb k (by omega)
    show (if bt (k + 1) (argBest bt k) then k + 1 else argBest bt k) ≤ k + 1 ∧ ∀ j, j ≤ k + 1 → leP (f (if bt (k + 1) (argBest bt k) then k + 1 else argBest bt k)) (f j)
    cases hc : bt (k + 1) (argBest bt k) with
    | true =>
      rw [if_pos rfl]
      rw [hb _ _ hk (by omega)] at hc
      have hc := of_decide_eq_true hc
      refine ⟨Nat.le_refl _, fun j hj => ?_⟩
      by_cases e : j = k + 1
      · subst e
        exact .inr ⟨rfl, Int.le_refl _⟩
      · have := i2 j (by omega)
        unfold leP at this ⊢
        omega
    | false =>
      rw [if_neg Bool.false_ne_true]
      rw [hb _ _ hk (by omega)] at hc
      have hc := of_decide_eq_false hc
      refine ⟨by omega, fun j hj => ?_⟩
      by_cases e : j = k + 1
      · subst e
        unfold leP
        omega
      · exact i2 j (by omega)
def rMinP (K : PySem.W.Frag) : List V → Hp → VK → Prop := fun vs H Q => ∃ (a : Addr) (ts : List Addr) (ps : List (Int × Int)), vs = [.ref a] ∧ SqL K H a (ts.map V.ref) ∧ Paired (fun t p => SqT K H t [.int p.1, .int p.2]) ts ps ∧ 0 < ps.length ∧
  ∀ (j : Nat) t p, ts[j]? = some t → ps[j]? = some p → (∀ p' ∈ ps, leP p p') → Q (.ref t) H
theorem dP_all {K : PySem.W.Frag} {H : Hp} : ∀ {ts : List Addr} {ps : List (Int × Int)}, Paired (fun t p => SqT K H t [.int p.1, .int p.2]) ts ps → DpAll K H (ts.map V.ref) (ps.map dP)
  | _, _, .nil => .nil
  | _, _, .cons r t => .cons (.tup r (.cons (.int _) (.cons (.int _) .nil))) (dP_all t)
theorem dP_depth : ∀ ps : List (Int × Int), PyData.depthAll (ps.map dP) ≤ 1
  | [] => Nat.zero_le _
  | p :: ps => by
    have := dP_depth ps
    show max (PyData.depth (dP p)) (PyData.depthAll (ps.map dP)) ≤ 1
    have e : PyData.depth (dP p) = 1 := rfl
    omega
theorem cr_minP {X : Cx} (hc : X.calm = true) (hu : X.A.units + 64 < cLine) : CallR X (.builtin "min") (rMinP X.K) := by
  intro pins s σ H vs us Q I r h
  obtain ⟨a, ts, ps, rfl, hs, hp, hne, q⟩ := h
  obtain ⟨its, rv, hl, _⟩ := I.list hs
  rw [Vals.ref1 r]
  obtain ⟨as, ra⟩ := Dp.readsAll I _ _ _ (dP_all hp) rv
  have ln : ts.length = ps.length := hp.length
  have li : its.length = ps.length := by
    have := rv.length
    rw [List.length_map] at this
    omega
  have ha : PySem.W.AlikeAll (ps.map dP) := by
    refine ⟨fun x hx y hy => ?_, fun x hx => ?_⟩
    · obtain ⟨p, _, rfl⟩ := List.mem_map.mp hx
      obtain ⟨p', _, rfl⟩ := List.mem_map.mp hy
      rfl
    · obtain ⟨p, _, rfl⟩ := List.mem_map.mp hx
      intro z
      cases z
  refine call_min_walkH (PySem.W.iter_listW (A := X.A.in1) (I.ok.hd hc) hl.isList fun s₂ e W st hfp hw hk => ?_)
  refine ⟨_, _, _, _, _, _, _, s.heap, _, rfl, W, st, hfp, by rw [List.size_toArray]; omega, hw, hk, PySem.W.cmpIn_lt (A := X.A.in1) ra ha (by have := dP_depth ps; show X.A.units + 1 + _ < _; omega), fun v s' hP m => ?_⟩
  obtain ⟨h', tk, rfl, hk'⟩ := PySem.W.moved_old e rfl m
  have hz : its.toArray.size = ps.length := by rw [List.size_toArray, li]
  rw [hz] at hP
  have atD : ∀ i, i ≤ ps.length - 1 → (ps.map dP).getD i .none = dP (ps.getD i (0, 0)) := fun i hi => by
    have hi : i < ps.length := by omega
    rw [List.getD_eq_getElem?_getD, List.getD_eq_getElem?_getD, List.getElem?_map, List.getElem?_eq_getElem hi]
    rfl
  obtain ⟨b1, b2⟩ := best_le (n := ps.length - 1) (f := fun i => ps.getD i (0, 0)) (bt := fun i j => PySem.W.dataLt ((ps.map dP).getD i .none) ((ps.map dP).getD j .none)) (fun i j hi hj => by
    show PySem.W.dataLt _ _ = _
    rw [atD i hi, atD j hj, lt_dP]) (ps.length - 1) (Nat.le_refl _)
  generalize argBest (fun i j => PySem.W.dataLt ((ps.map dP).getD i .none) ((ps.map dP).getD j .none)) (ps.length - 1) = i at hP b1 b2
  have hi : i < ps.length := by omega
  have hti : ts[i]? = some (ts[i]'(by omega)) := List.getElem?_eq_getElem _
  have hv : v = .ref (ts[i]'(by omega)) := by
    have e1 : (ts.map V.ref)[i]? = some (V.ref (ts[i]'(by omega))) := by rw [List.getElem?_map, hti]; rfl
    obtain ⟨u, hu, ru⟩ := rv.get e1
    rw [List.getElem?_toArray, hu] at hP
    rw [← Option.some.inj hP]
    exact ru
  subst hv
  refine ⟨.ref _, H, I.kept hk', rfl, q i _ _ hti (List.getElem?_eq_getElem hi) fun p' hp' => ?_⟩
  obtain ⟨j, hj, e⟩ := List.mem_iff_getElem.mp hp'
  have := b2 j (by omega)
  rw [show ps.getD i (0, 0) = ps[i] by rw [List.getD_eq_getElem?_getD, List.getElem?_eq_getElem hi]; rfl, show ps.getD j (0, 0) = ps[j] by rw [List.getD_eq_getElem?_getD, List.getElem?_eq_getElem hj]; rfl, e] at this
  exact this
structure LenOwn (K : PySem.W.Frag) (C f : Addr) : Prop where
  fd : PySem.W.findIn K (.ref C) "__len__" = some (some (.ref f))
  fn : PySem.W.isFn K (.ref f) = true
def tLenOwn (C : Addr) (sp : Sp) (E : XK) (ta : TE) : TE := fun σ H Q => ta σ H fun x H1 => ∃ a dx fs, x = .ref a ∧ H1 a = some (.ins C dx fs) ∧ sp [.ref a] H1 (fun v H2 => ∃ n : Nat, v = .int n ∧ n < 1000000 ∧ Q v H2) E
section
variable {X : Cx} {a : Expr} {ta : TE} {p pos : Pos}
theorem pe_lenOwn {CX : CXT} {j : Nat} {C f : Addr} {fd : FuncData} {ps : List Str} {sp : Sp} {E : XK} (hg : Gl X "len") (hm : X.mg "len" = none) (ln : LenOwn X.K C f) (cl : Cls X.K C) (F : FnOk X.prog X.w X.K X.mg X.base CX j f fd ps sp) (hr : Room (j + 1) X.A) (hb : Binds X.K fd ps []) (hx : Passes CX X.nox E) (ha : PE X a ta)
    (na : starEach [a] X.env = (false, eval a X.env) :: starEach [] X.env := by rfl) :
    PE X (.Call (.Name "len" p) [a] [] pos) (tLenOwn C sp E ta) := by
  refine ⟨fun pins s σ H Q I h => ?_⟩
  refine Call_ (ld_blt I hg hm boot_len ?_)
  refine PyProof.Rows.callWith_builtin1 (PyProof.Rows.args_cons (thn (ha.run pins s σ H _ I h) fun u s1 ⟨x, H1, I1, rx, ad, dx, fs, ex, ea, q⟩ => PyProof.Rows.args_nil ?_) na) na rfl
  subst ex
  obtain rfl : u = Value.ref ad := rx
  obtain ⟨mA, O, _, _, _, _⟩ := ins_get I1.hok ea
  obtain ⟨od, J, _⟩ := O.look
  obtain ⟨m0, hF⟩ := I1.fr
  have hl : ([Value.ref ad] ++ []).length = ps.length := by
    rw [← F.len _ _ _ _ q]
    rfl
  refine PySem.W.len_K hF I1.ok.mod.kin J ln.fd ln.fn (wpAny_call ?_)
  refine codeAny_mono (F.run X.A.in1 X.stack s1 H1 ⟨[.ref ad], []⟩ [.ref ad] [.ref ad] _ E hr.in1 I1.env0.in1 (hb _ [.ref ad] I1.kIn hl) (.cons rfl .nil) q) fun r s' hq => ?_
  cases r with
  | error er => exact False.elim (hx pins σ H1 s1 er s' (I1.wish _) hq)
  | ok fl =>
    cases fl with
    | ret u =>
      obtain ⟨v, H', I3, rv, n, ev, hn, q3⟩ := I1.after hq
      subst ev
      obtain ⟨t, rfl⟩ := rv
      exact ⟨⟨by omega, by omega⟩, .int n, H', I3.tok _, ⟨_, rfl⟩, q3⟩
    | next => exact False.elim hq
    | brk => exact False.elim hq
    | cont => exact False.elim hq
end
end B
namespace B
open PySem PySem.Spec PyProof.Rows L2
section
variable {X : Cx} {k v a b e : Expr} {tk tv ta tb te : TE} {pos p p2 q : Pos} {tg : Expr}
structure IsOwn (K : PySem.W.Frag) (C : Addr) : Prop where
  ha : PySem.W.findIn K (.ref C) "__class__" = some (some (.builtin "object.__class__"))
  hn : PySem.W.specialIn K (.builtin "object.__class__") "__get__" = some (some (.builtin "getset_descriptor.__get__"))
  htk : PySem.W.takesIn K (.builtin "object.__class__") = some true
  hm : PySem.W.mroIn K C (.type "object") = some true
  kit : PySem.W.kitOne K (.ref C) (.ref C) = some true
variable {K : PySem.W.Frag} {es : List Expr} {t : TA} {td ty : TE} {tlo thi : TO} {lo hi : Option Expr} {f : Str}
theorem ix_listK (h : X.K = K) : IxR X (rIxL K) := h ▸ ix_list
theorem ix_tupK (h : X.K = K) : IxR X (rIxT K) := h ▸ ix_tup
theorem call_len_seqK (h : X.K = K) : CallR X (.builtin "len") (fun xs H Q => ∃ p ys, xs = [.ref p] ∧ (SqL K H p ys ∨ SqT K H p ys) ∧ Q (.int ys.length) H) := h ▸ call_len_seq
theorem op_in_seqK (h : X.K = K) : OpR X (compareOp .In) (rIn K false) := h ▸ op_in_seq
theorem op_notIn_seqK (h : X.K = K) : OpR X (compareOp .NotIn) (rIn K true) := h ▸ op_notIn_seq
theorem op_eqDK (h : X.K = K) (hu : X.A.units + 64 < cLine) : OpR X (compareOp .Eq) (rEqD K) := h ▸ op_eqD hu
theorem op_neDK (h : X.K = K) (hu : X.A.units + 64 < cLine) : OpR X (compareOp .NotEq) (rNeD K) := h ▸ op_neD hu
theorem cr_sumK (h : X.K = K) (hc : X.calm = true) : CallR X (.builtin "sum") (rSum K) := h ▸ cr_sum hc
theorem cr_maxK (h : X.K = K) (hc : X.calm = true) : CallR X (.builtin "max") (rMax K) := h ▸ cr_max hc
theorem cr_minK (h : X.K = K) (hc : X.calm = true) : CallR X (.builtin "min") (rMin K) := h ▸ cr_min hc
theorem cr_anyK (h : X.K = K) (hc : X.calm = true) : CallR X (.builtin "any") (rAny K) := h ▸ cr_any hc
theorem cr_allK (h : X.K = K) (hc : X.calm = true) : CallR X (.builtin "all") (rAll K) := h ▸ cr_all hc
theorem cr_minPK (h : X.K = K) (hc : X.calm = true) (hu : X.A.units + 64 < cLine) : CallR X (.builtin "min") (rMinP K) := h ▸ cr_minP hc hu
theorem sl_listK (h : X.K = K) : SlR X (rSlL K) := h ▸ sl_list
theorem sl_tupAK (h : X.K = K) : SlR X (rSlA K) := h ▸ sl_tupA
theorem op_catAK (h : X.K = K) : OpR X (binaryOp .Add) (rCatA K) := h ▸ op_catA
theorem call_tuple_ofK (h : X.K = K) : CallR X (.type "tuple") (fun xs H Q => ∃ p ys, xs = [.ref p] ∧ ((SqL K H p ys ∧ ∀ l, H l = none → Q (.ref l) (upd H l (.tup ys))) ∨ (SqT K H p ys ∧ Q (.ref p) H))) := h ▸ call_tuple_of
theorem call_list_ofK (h : X.K = K) : CallR X (.type "list") (fun xs H Q => ∃ p ys, xs = [.ref p] ∧ (SqL K H p ys ∨ SqT K H p ys) ∧ ∀ l, H l = none → Q (.ref l) (upd H l (.lst ys))) := h ▸ call_list_of
theorem get_listK (h : X.K = K) : PGet X (rIxL K) := h ▸ get_list
theorem call_isiW (h : X.K = K) : CallR X (.builtin "isinstance") (rIsi K) := h ▸ call_isi
theorem call_isiTW (h : X.K = K) : CallR X (.builtin "isinstance") (rIsiT K) := h ▸ call_isiT
theorem pi_listK (h : X.K = K) (hl : PE X a ta) : PI X tg a (iList K ta) := h ▸ pi_list hl
theorem pi_tupK (h : X.K = K) (hl : PE X a ta) : PI X tg a (iTup K ta) := h ▸ pi_tup hl
theorem pe_fldK (h : X.K = K) (he : PE X e te) (hb : attributeBase e f X.env (eval e X.env) = eval e X.env) : PE X (.Attribute e f pos) (tFld K te f) := h ▸ pe_fld he hb
theorem pg_tupK {es : List Expr} {k' : Nat} {t : TGs} {n : Nat} (h : X.K = K) (hc : X.calm = true) (hg : PGs X es t) (hn : (assignEach es X.env).length = n := by rfl) (hst : (assignEach es X.env).findIdx? (·.1) = none := by rfl) : PG X (.Tuple es k' pos) (gTup K n t) := h ▸ pg_tup hc hg hn hst
theorem pe_listzipK (h : X.K = K) (hg : Gl X "list") (hm : X.mg "list" = none) (hg2 : Gl X "zip") (hm2 : X.mg "zip" = none) (hab : PA X [a, b] (tCons ta (tCons tb tNil))) (hc : X.calm = true := by rfl)
    (hs : starEach [.Call (.Name "zip" p2) [a, b] [] q] X.env = (false, eval (.Call (.Name "zip" p2) [a, b] [] q) X.env) :: starEach [] X.env := by rfl)
    (hs2 : starEach [a, b] X.env = (false, eval a X.env) :: starEach [b] X.env := by rfl) (hpl : (backTo q (starEach [b] X.env)).any (·.1) = false := by rfl) : PE X (.Call (.Name "list" p) [.Call (.Name "zip" p2) [a, b] [] q] [] pos) (tListZip K ta tb) := h ▸ pe_listzip hg hm hg2 hm2 hab hc hs hs2 hpl
theorem pi_enumTK {tpos : Pos} {elts : List Expr} {kk : Nat} (h : X.K = K) (hg : Gl X "enumerate") (hm : X.mg "enumerate" = none) (ha : PA X [e] t) (hs : starEach [e] X.env = [(false, eval e X.env)] := by rfl) :
    PI X (.Tuple elts kk tpos) (.Call (.Name "enumerate" p) [e] [] pos) (iEnumT K t) := h ▸ pi_enumT hg hm ha hs
theorem pi_enumK {tpos : Pos} {elts : List Expr} {kk : Nat} (h : X.K = K) (hg : Gl X "enumerate") (hm : X.mg "enumerate" = none) (ha : PA X [e] t) (hs : starEach [e] X.env = [(false, eval e X.env)] := by rfl) :
    PI X (.Tuple elts kk tpos) (.Call (.Name "enumerate" p) [e] [] pos) (iEnum K t) := h ▸ pi_enum hg hm ha hs
theorem pi_zipK {tpos : Pos} {elts : List Expr} {kk : Nat} (h : X.K = K) (hg : Gl X "zip") (hm : X.mg "zip" = none) (ha : PA X [a, b] t)
    (hs : starEach [a, b] X.env = (false, eval a X.env) :: starEach [b] X.env := by rfl) (hpl : (backTo pos (starEach [b] X.env)).any (·.1) = false := by rfl) :
    PI X (.Tuple elts kk tpos) (.Call (.Name "zip" p) [a, b] [] pos) (iZip K t) := h ▸ pi_zip hg hm ha hs hpl
theorem pi_zipNK {x : Str} {px : Pos} (h : X.K = K) (hg : Gl X "zip") (hm : X.mg "zip" = none) (ha : PA X [a, b] t)
    (hs : starEach [a, b] X.env = (false, eval a X.env) :: starEach [b] X.env := by rfl) (hpl : (backTo pos (starEach [b] X.env)).any (·.1) = false := by rfl) :
    PI X (.Name x px) (.Call (.Name "zip" p) [a, b] [] pos) (iZipN K t) := h ▸ pi_zipN hg hm ha hs hpl
end
end B
namespace B
open PySem L2
section
variable {α β γ : Type} {rs : RS} {S : Sl} {M : Mo} {te ta tb tc tl : TE} {tr : TA} {tt tu : TT} {R : MR α} {T : MR β} {x : α} {y : β} {K : PySem.W.Frag}
theorem Zt.many {H0 G0 H G H' : Hp} {as : List Addr} {σ : L2.St} (Z : Zt rs H0 G0 H G as M S σ) (N : List Addr) (h : Same H H') (hn : ∀ t ∈ N, H t = none) :
    Zt rs H0 G0 H' (fun b => if b ∈ N then H' b else G b) as M S σ ∧ Same G (fun b => if b ∈ N then H' b else G b) := by
  have g : Same G (fun b => if b ∈ N then H' b else G b) := fun b o e => by
    have hb : b ∉ N := fun hm => by
      rw [none_sub Z.sub (hn b hm)] at e
      cases e
    show (if b ∈ N then H' b else G b) = some o
    rw [if_neg hb]
    exact e
  refine ⟨Z.step h g (fun b o e => ?_) (fun b h1 h2 => ?_), g⟩
  · by_cases hb : b ∈ N
    · have e : (if b ∈ N then H' b else G b) = some o := e
      rw [if_pos hb] at e
      exact e
    · have e : (if b ∈ N then H' b else G b) = some o := e
      rw [if_neg hb] at e
      exact h b o (Z.sub b o e)
  · by_cases hb : b ∈ N
    · exact NewOk.of (hn b hb)
    · have h2 : ¬ (if b ∈ N then H' b else G b) = none := h2
      rw [if_neg hb] at h2
      exact absurd h1 h2
theorem ev_listzip {xs : List α} {ys : List β} (ha : Ev rs ta S M (rTup R) xs) (hb : Ev rs tb S M (rTup T) ys) (hl : xs.length ≤ 1000) (hxy : xs.length = ys.length) : Ev rs (tListZip K ta tb) S M (rList (rPr R T)) (xs.zip ys) := fun H0 G0 H G as σ Z Q q =>
  ha H0 G0 H G as σ Z _ fun v H1 G1 Z1 e1 ⟨a, vs, ea, ga, r1⟩ => hb H0 G0 H1 G1 as σ Z1 _ fun w H2 G2 Z2 e2 ⟨b, ws, eb, gb, r2⟩ => ⟨a, b, vs, ws, by rw [ea, eb], .inl (.inl (Z2.sub _ _ (e2 _ _ ga))), .inl (.inl (Z2.sub _ _ gb)), by rw [r1.length]; exact hl, by rw [r1.length, r2.length]; exact hxy, fun p H3 ts s hp ht e3 hts => by
    obtain ⟨Z3, g3⟩ := Z2.many (p :: ts) s (fun t ht' => by
      rcases List.mem_cons.mp ht' with rfl | h
      · exact hp
      · exact ht t h)
    refine q _ _ _ Z3 ((e1.trans e2).trans g3) ⟨p, ts.map V.ref, rfl, ?_, ?_⟩
    · show (if p ∈ p :: ts then H3 p else G2 p) = _
      rw [if_pos List.mem_cons_self]
      exact e3
    · have hl2 : ts.length = (vs.zip ws).length := hts.length
      have l1 := r1.length
      have l2 := r2.length
      refine pr_of (by rw [List.length_map, hl2, List.length_zip, List.length_zip, l1, l2]) fun i x y hx hy => ?_
      rw [List.getElem?_map] at hx
      cases hti : ts[i]? with
      | none =>
        rw [hti] at hx
        cases hx
      | some t =>
        rw [hti] at hx
        cases hx
        obtain ⟨hy1, hy2⟩ := List.getElem?_zip_eq_some.mp hy
        obtain ⟨u1, hu1, ru1⟩ := pr_get r1 hy1
        obtain ⟨u2, hu2, ru2⟩ := pr_get r2 hy2
        obtain ⟨xy, hxy, ht3⟩ := pr_get' hts hti
        obtain ⟨hz1, hz2⟩ := List.getElem?_zip_eq_some.mp hxy
        rw [hu1] at hz1
        rw [hu2] at hz2
        have ez1 := Option.some.inj hz1
        have ez2 := Option.some.inj hz2
        refine ⟨t, u1, u2, rfl, ?_, R.mono (e2.trans g3) ru1, T.mono g3 ru2⟩
        show (if t ∈ p :: ts then H3 t else G2 t) = _
        rw [if_pos (List.mem_cons_of_mem _ (List.mem_of_getElem? hti)), ht3, ← ez1, ← ez2]⟩
theorem it_enumT {xs : List α} (h : Ev rs ta S M (rTup R) xs) : ItOk rs (iEnumT K (tCons ta tNil)) S M noPin (rPr rNat R) (zipI xs) := fun H0 G0 H G as σ Z Rr q => h H0 G0 H G as σ Z _ fun v H1 G1 Z1 e1 ⟨a, vs, ea, ga, r⟩ =>
  ⟨a, vs, by rw [ea], .inl (.inl (Z1.sub _ _ ga)), q _ H1 G1 (fun _ => True) Z1 e1 (fun _ _ _ _ _ _ _ _ _ _ => trivial) ⟨fun i H' _ s hi => ⟨vs, vs[i]'(by rw [r.length]; rw [zipI_len] at hi; exact hi), .inl (.inl (s _ _ ga)), List.getElem?_eq_getElem _⟩, fun H' _ s => ⟨vs, .inl (.inl (s _ _ ga)), by rw [r.length, zipI_len]; exact Nat.le_refl _⟩,
    fun i H' G' v H'' p _ s1 s2 hx hy => by
      obtain ⟨T, u, rfl, hT, rfl, hv⟩ := hy
      rw [zipI_at] at hx
      cases hq : xs[i]? with
      | none =>
        rw [hq] at hx
        cases hx
      | some z =>
        rw [hq] at hx
        cases hx
        obtain ⟨u', hu, ru⟩ := pr_get r hq
        have := hv vs (.inl (.inl (s2 _ _ (s1 _ _ ga))))
        rw [hu] at this
        cases this
        have gT := none_sub s2 hT
        exact .inr (.inl ⟨T, _, hT, rfl, T, _, _, rfl, upd_same, rfl, R.mono (s1.trans (same_new gT)) ru⟩)⟩⟩
theorem it_zipN {xs : List α} {ys : List β} (h1 : Ev rs ta S M (rTup R) xs) (h2 : Ev rs tb S M (rTup T) ys) : ItOk rs (iZipN K (tCons ta (tCons tb tNil))) S M noPin (rPr R T) (xs.zip ys) := fun H0 G0 H G as σ Z Rr q =>
  h1 H0 G0 H G as σ Z _ fun v H1 G1 Z1 e1 ⟨a, vs, ea, ga1, r1⟩ => h2 H0 G0 H1 G1 as σ Z1 _ fun v2 H2 G2 Z2 e2 ⟨b, ws, eb, gb, r2⟩ => by
  have ga : G2 a = some (.tup vs) := e2 _ _ ga1
  have r1 := allR_mono e2 r1
  refine ⟨a, b, vs, ws, by rw [ea, eb], .inl (.inl (Z2.sub _ _ ga)), .inl (.inl (Z2.sub _ _ gb)), q _ H2 G2 (fun _ => True) Z2 (e1.trans e2) (fun _ _ _ _ _ _ _ _ _ _ => trivial) ⟨fun i H' _ s hi => ?_, fun H' _ s => ⟨vs, ws, .inl (.inl (s _ _ ga)), .inl (.inl (s _ _ gb)), ?_⟩, fun i H' G' v H'' p _ s1 s2 hx hy => ?_⟩⟩
  · rw [List.length_zip] at hi
    exact ⟨vs, ws, vs[i]'(by rw [r1.length]; omega), ws[i]'(by rw [r2.length]; omega), .inl (.inl (s _ _ ga)), .inl (.inl (s _ _ gb)), List.getElem?_eq_getElem _, List.getElem?_eq_getElem _⟩
  · rw [r1.length, r2.length, List.length_zip]
    omega
  · obtain ⟨T', u, w, rfl, hT, rfl, hv, hw⟩ := hy
    obtain ⟨hx1, hx2⟩ : xs[i]? = some p.1 ∧ ys[i]? = some p.2 := by
      rw [List.getElem?_zip_eq_some] at hx
      exact hx
    obtain ⟨u', hu, ru⟩ := pr_get r1 hx1
    obtain ⟨w', hw', rw'⟩ := pr_get r2 hx2
    have e3 := hv vs (.inl (.inl (s2 _ _ (s1 _ _ ga))))
    have e4 := hw ws (.inl (.inl (s2 _ _ (s1 _ _ gb))))
    rw [hu] at e3
    rw [hw'] at e4
    cases e3
    cases e4
    have gT := none_sub s2 hT
    exact .inr (.inl ⟨T', _, hT, rfl, T', _, _, rfl, upd_same, R.mono (s1.trans (same_new gT)) ru, T.mono (s1.trans (same_new gT)) rw'⟩)
theorem go_augL {H0 G0 : Hp} {D : Ends} {i j n : Nat} {xs : List Int} {z d : Int} (hi : S[i]? = some (.own j)) (hM : M[j]? = some (some (oList rInt xs))) (hn : Ev rs tb S M rNat n) (hx : xs[n]? = some z) (he : Ev rs te S M rInt d) (k : Go rs H0 G0 D.nx S (M.set j (some (oList rInt (xs.set n (z + d)))))) :
    Go rs H0 G0 (tAugS (tVar i) tb te (rIxL K) (ipI fun i j => i + j) rSetL D) S M := fun H G as σ Z => by
  obtain ⟨a, _, hv, ha, _⟩ := Z.read hi hM
  refine ⟨.ref a, hv, hn H0 G0 H G as σ Z _ fun w H1 G1 Z1 e1 r1 => ?_⟩
  obtain ⟨ga, o, ho, vs, rfl, r⟩ := Z1.own j a _ ha hM
  obtain ⟨u, hu, ru⟩ := pr_get r hx
  refine ⟨a, vs, (n : Int), u, rfl, r1, .inl (.inl ho), atI_nat hu, he H0 G0 H1 G1 as σ Z1 _ fun y H2 G2 Z2 e2 r2 => ⟨z, d, ru, r2, ?_⟩⟩
  obtain ⟨ga', o', ho', vs', rfl, r'⟩ := Z2.own j a _ ha hM
  have hlen : vs'.length = xs.length := r'.length
  have hlt := (List.getElem?_eq_some_iff.mp hx).1
  refine ⟨a, vs', (n : Int), n, rfl, r1, ho', ?_, k _ G2 as σ (Z2.mut ha hM ⟨_, rfl, pr_set (F := rInt.rel G2) (x := V.int (z + d)) (y := z + d) rfl n r'⟩)⟩
  unfold ixN
  rw [if_pos (by omega), if_pos (by omega)] <;> simp
theorem ev_lenOwn {A : Type} {C : Addr} {f : A → Nat} {sig : A → List SS} {Pre : A → Prop} {E : XK} {m : Pm} (a : A) (hs : sig a = [.is (rMach C) m]) (hp : Pre a) (hf : f a < 1000000) (ha : Ev rs ta S M (rMach C) m) : Ev rs (tLenOwn C (prm sig Pre (fun _ => rNat) f) E ta) S M rNat (f a) := fun H0 G0 H G as σ Z Q q =>
  ha H0 G0 H G as σ Z _ fun v H1 G1 Z1 e1 r => by
  obtain ⟨p, dx, t, ea, ga, r'⟩ := id r
  subst ea
  refine ⟨p, dx, _, rfl, Z1.sub _ _ ga, G1, a, Z1.sub, hp, ?_, fun v H' ⟨G', h1, h2, h3, h4⟩ => ⟨f a, h4, hf, q v H' G' (Z1.step h1 h3.g h2 h3.new) (e1.trans h3.g) h4⟩⟩
  rw [hs]
  exact ⟨r, trivial⟩
end
end B
namespace B
open PySem L2
section
variable {α β γ κ : Type} [DecidableEq κ] {rs : RS} {S : Sl} {M M' M1 M2 : Mo} {te ta tb tc tl ty tv tx : TE} {tr : TA} {tt : TT} {R : MR α} {T : MR β} {Rk : MR κ} {x : α} {y : β} {k : κ} {b c : Bool} {K : PySem.W.Frag} {H0 G0 : Hp} {D : Ends} {t u v : TS} {i j l m n : Nat} {s s1 s2 : SS} {enc : κ → List Key} {kvs : List (κ × α)} {kvn : List (Nat × α)} {kn : Nat} {O : OS} {xs : List α}

theorem q_asg (he : EvG rs te S M M' s) (c : Go rs H0 G0 (u D) (S.set i s) M') : Go rs H0 G0 (tSeq (tAsg te (gName i)) u D) S M := go_asg (D := { D with nx := u D }) he c
theorem q_asgP {p : α → Prop} (he : Ev rs te S M (rSome R p) ()) (c : ∀ x, p x → Go rs H0 G0 (u D) (S.set i (.is R x)) M) : Go rs H0 G0 (tSeq (tAsg te (gName i)) u D) S M := go_asgP (D := { D with nx := u D }) he c
theorem q_par (ha : EvG rs ta S M M1 s1) (hb : EvG rs tb S M1 M2 s2) (c : Go rs H0 G0 (u D) ((S.set i s1).set j s2) M2) : Go rs H0 G0 (tSeq (tPar i j (tCons ta (tCons tb tNil))) u D) S M := go_par (D := { D with nx := u D }) ha hb c
theorem q_parN {ss : List SS} (is : List Nat) (hn : ss.length = n) (hi : is.length = n) (hl : n ≤ 100000) (h : EvGs rs tr S M M' ss) (c : Go rs H0 G0 (u D) (setAll S is ss) M') : Go rs H0 G0 (tSeq (tAsg (tTup tr) (gTup K n (gNames is))) u D) S M := go_parN (D := { D with nx := u D }) is hn hi hl h c
theorem q_drop (he : Ev rs te S M R x) (c : Go rs H0 G0 (u D) S M) : Go rs H0 G0 (tSeq (tDrop te) u D) S M := go_drop (D := { D with nx := u D }) he c
theorem q_aug {a d : Int} {g : Int → Int → Int} (hi : S[i]? = some (.is rInt a)) (he : Ev rs te S M rInt d) (c : Go rs H0 G0 (u D) (S.set i (.is rInt (g a d))) M) : Go rs H0 G0 (tSeq (tAug i te (ipI g)) u D) S M := go_aug (D := { D with nx := u D }) hi he c
theorem q_app (hi : S[i]? = some (.own j)) (hM : M[j]? = some (some (oList R xs))) (hl : xs.length < 1000000) (he : Ev rs te S M R x) (c : Go rs H0 G0 (u D) S (M.set j (some (oList R (xs ++ [x]))))) : Go rs H0 G0 (tSeq (tDrop (tBM K "list" rAppend (tVar i) (tCons te tNil))) u D) S M := go_app (D := { D with nx := u D }) hi hM hl he c
theorem q_pop (hi : S[i]? = some (.own j)) (hM : M[j]? = some (some (oList R (xs ++ [x])))) (c : Go rs H0 G0 (u D) (S.set m (.is R x)) (M.set j (some (oList R xs)))) : Go rs H0 G0 (tSeq (tAsg (tBM0 K "list" rPop (tVar i)) (gName m)) u D) S M := go_pop (D := { D with nx := u D }) hi hM c
theorem q_setL (hi : S[i]? = some (.own j)) (hM : M[j]? = some (some (oList R xs))) (he : Ev rs te S M R x) (hn : Ev rs tb S M rNat n) (hl : n < xs.length) (c : Go rs H0 G0 (u D) S (M.set j (some (oList R (xs.set n x))))) : Go rs H0 G0 (tSeq (tAsg te (gSub (tVar i) tb rSetL)) u D) S M := go_setL (D := { D with nx := u D }) hi hM he hn hl c
theorem q_augL {zs : List Int} {z d : Int} (hi : S[i]? = some (.own j)) (hM : M[j]? = some (some (oList rInt zs))) (hn : Ev rs tb S M rNat n) (hx : zs[n]? = some z) (he : Ev rs te S M rInt d) (c : Go rs H0 G0 (u D) S (M.set j (some (oList rInt (zs.set n (z + d)))))) : Go rs H0 G0 (tSeq (tAugS (tVar i) tb te (rIxL K) (ipI fun i j => i + j) rSetL) u D) S M := go_augL (D := { D with nx := u D }) hi hM hn hx he c
theorem q_dput (hk : KeyT Rk enc) (hi : S[i]? = some (.own j)) (hM : M[j]? = some (some (oDT enc R kvs))) (hv : Ev rs tv S M R x) (hy : Ev rs ty S M Rk k) (hl : kvs.length < 1000000) (c : Go rs H0 G0 (u D) S (M.set j (some (oDT enc R (put kvs k x))))) : Go rs H0 G0 (tSeq (sDPut (tVar i) ty tv) u D) S M := go_dput (D := { D with nx := u D }) hk hi hM hv hy hl c
theorem q_kput (hi : S[i]? = some (.own j)) (hM : M[j]? = some (some (oDK R kvn))) (hv : Ev rs tv S M R x) (hy : Ev rs ty S M rNat kn) (hl : kvn.length < 1000000) (c : Go rs H0 G0 (u D) S (M.set j (some (oDK R (put kvn kn x))))) : Go rs H0 G0 (tSeq (sDPut (tVar i) ty tv) u D) S M := go_kput (D := { D with nx := u D }) hi hM hv hy hl c
theorem q_if (h : EvT rs tt S M b) (h1 : b = true → Go rs H0 G0 (t { D with nx := u D }) S M) (h2 : b = false → Go rs H0 G0 (v { D with nx := u D }) S M) : Go rs H0 G0 (tSeq (tIfS tt t v) u D) S M := go_if (D := { D with nx := u D }) h h1 h2
theorem q_when (h : EvT rs tt S M b) (h1 : b = true → Go rs H0 G0 (t { D with nx := u D }) S M) (h2 : b = false → Go rs H0 G0 (u D) S M) : Go rs H0 G0 (tSeq (tIfS tt t tNext) u D) S M := go_if (D := { D with nx := u D }) h h1 h2
theorem go_when (h : EvT rs tt S M b) (h1 : b = true → Go rs H0 G0 (t D) S M) (h2 : b = false → Go rs H0 G0 D.nx S M) : Go rs H0 G0 (tIfS tt t tNext D) S M := go_if h h1 h2
theorem q_for {Pm : Mo → Prop} {σt : Type} {wi : TI} {g : TG} {ys : List α} {ts : List Nat} {f : Sl → α → Sl} (Sf : σt → Sl) (Mf : σt → Mo) (I : Nat → σt → Prop) (s0 : σt) (hi : ItOk rs wi S M Pm R ys) (hg : TgOk g R ts f)
    (h0 : I 0 s0) (hS : Wk S (Sf s0)) (hM : M = Mf s0)
    (hb : ∀ G1, Bs H0 G0 G1 → ∀ i s x, ys[i]? = some x → I i s → Go rs H0 G1 (t { D with nx := fun σ H => ∃ s', I (i + 1) s' ∧ ∃ G as, Zt rs H0 G1 H G as (Mf s') (Sf s') σ, ct := fun σ H => ∃ s', I (i + 1) s' ∧ ∃ G as, Zt rs H0 G1 H G as (Mf s') (Sf s') σ, bk := u D }) (f (Sf s) x) (Mf s))
    (hd : ∀ s, I ys.length s → Go rs H0 G0 (u D) (Sf s) (Mf s)) (hP : ∀ s, Pm (Mf s) := by exact fun _ => trivial) : Go rs H0 G0 (tSeq (tFor wi g t) u D) S M := go_for (D := { D with nx := u D }) Sf Mf I s0 hi hg h0 hS hM hb hd hP
theorem q_while {σt : Type} (Sf : σt → Sl) (Mf : σt → Mo) (I : σt → Prop) (μ : σt → Nat) (bf : σt → Bool) (s0 : σt) (h0 : I s0) (hS : Wk S (Sf s0)) (hM : M = Mf s0)
    (ht : ∀ s, I s → EvT rs tt (Sf s) (Mf s) (bf s))
    (hb : ∀ s, I s → bf s = true → Go rs H0 G0 (t { D with nx := fun σ H => ∃ s', (I s' ∧ μ s' < μ s) ∧ ∃ G as, Zt rs H0 G0 H G as (Mf s') (Sf s') σ, ct := fun σ H => ∃ s', (I s' ∧ μ s' < μ s) ∧ ∃ G as, Zt rs H0 G0 H G as (Mf s') (Sf s') σ, bk := u D }) (Sf s) (Mf s))
    (hd : ∀ s, I s → bf s = false → Go rs H0 G0 (u D) (Sf s) (Mf s)) : Go rs H0 G0 (tSeq (tWhile tt t) u D) S M := go_while (D := { D with nx := u D }) Sf Mf I μ bf s0 h0 hS hM ht hb hd
end
end B
namespace B
open PySem L2
def RetO {β : Type} (H0 G0 : Hp) (O : β → OS) (Post : β → Prop) (v : V) (H' : Hp) : Prop := ∃ x p o G', v = .ref p ∧ Post x ∧ Same H0 H' ∧ Same G' H' ∧ Bs H0 G0 G' ∧ H0 p = none ∧ G' p = none ∧ H' p = some o ∧ (O x).rel p G' o
def prmO {A β : Type} (sig : A → List SS) (Pre : A → Prop) (O : β → OS) (Post : A → β → Prop) : Sp := fun vs H Q _ => ∃ (G : Hp) (a : A), Same G H ∧ Pre a ∧ ArgsOk G vs (sig a) ∧ ∀ v H', RetO H G O (Post a) v H' → Q v H'
theorem prmO_len {A β : Type} {sig : A → List SS} {Pre : A → Prop} {O : β → OS} {Post : A → β → Prop} {ps : List Str} (hn : ∀ a, (sig a).length = ps.length) {vs : List V} {H : Hp} {Q : VK} {E : XK} (h : prmO sig Pre O Post vs H Q E) : vs.length = ps.length := by
  obtain ⟨G, a, _, _, ha, _⟩ := h
  rw [argsOk_len ha, hn]
section
variable {α β γ κ : Type} [DecidableEq κ] {rs : RS} {S : Sl} {M M1 M2 : Mo} {te ta tb tc : TE} {tt : TT} {R : MR α} {T : MR β} {x : α} {y : β} {H0 G0 : Hp} {D : Ends} {t u : TS} {P : L2.St → Hp → Prop} {i j m : Nat} {s s1 s2 : SS} {Rk : MR κ} {enc : κ → List Key}
theorem go_startO {A : Type} {sig : A → List SS} {Pre : A → Prop} {O : β → OS} {Post : A → β → Prop} {N : List Str} {vs : List V} {H : Hp} {Q : VK} {E : XK} {P : L2.St → Hp → Prop} (h : prmO sig Pre O Post vs H Q E)
    (k : ∀ (a : A) (H0 G0 : Hp), Pre a → (∀ v H', RetO H0 G0 O (Post a) v H' → Q v H') → Go none H0 G0 P (sig a ++ List.replicate (N.length - (sig a).length) .no) []) : P (L2.start N vs) H := by
  obtain ⟨G, a, hs, hp, ha, q⟩ := h
  refine k a H G hp q H G [] _ ⟨Same.refl H, Same.refl G, hs, fun b h1 h2 => absurd h1 h2, rfl, List.nodup_nil, fun b hb => (List.not_mem_nil hb).elim, fun b hb => (List.not_mem_nil hb).elim, fun j b O hb => by simp at hb, fun p c e => (nomatch e), sat_start ha⟩
def EvX (rs : RS) (te : TE) (S : Sl) (M : Mo) (O : β → OS) (Post : β → Prop) : Prop := ∀ H0 G0 H G as σ, Zt rs H0 G0 H G as M S σ → ∀ Q : VK,
  (∀ x p o H' G', Post x → Zt rs H0 G0 H' G' as M S σ → Same G G' → H' p = none → (O x).rel p G' o → Q (.ref p) (upd H' p o)) → te σ H Q
theorem ex_call {A : Type} {sig : A → List SS} {Pre : A → Prop} {O : β → OS} {Post : A → β → Prop} {tr : TA} {E : XK} (a : A) (h : EvA rs tr S M (sig a)) (hp : Pre a) : EvX rs (tCall (prmO sig Pre O Post) [] E tr) S M O (Post a) := fun H0 G0 H G as σ Z Q q =>
  h H0 G0 H G as σ Z _ fun vs H1 G1 Z1 e1 r1 => ⟨G1, a, Z1.sub, hp, by rw [List.append_nil]; exact r1, fun v H' ⟨x, p, o, G', ev, hx, h1, h2, h3, h4, h5, h6, h7⟩ => by
    subst ev
    have Z2 : Zt rs H0 G0 (fun b => if b = p then none else H' b) G' as M S σ := by
      refine Z1.step (fun b o' e => ?_) h3.g (fun b o' e => ?_) h3.new
      · show (if b = p then none else H' b) = some o'
        rw [if_neg (ne_of_none e h4)]
        exact h1 b o' e
      · show (if b = p then none else H' b) = some o'
        rw [if_neg (ne_of_none e h5)]
        exact h2 b o' e
    have e : upd (fun b => if b = p then none else H' b) p o = H' := by
      funext b
      unfold upd
      by_cases hb : b = p
      · rw [if_pos hb, hb, h6]
      · rw [if_neg hb]
        show (if b = p then none else H' b) = H' b
        rw [if_neg hb]
    have := q x p o _ G' hx Z2 (e1.trans h3.g) (by show (if p = p then none else H' p) = none; rw [if_pos rfl]) h7
    rw [e] at this
    exact this⟩
theorem ex_of {O : OS} (h : EvO rs te S M O) : EvX rs te S M (fun _ : Unit => O) (fun _ => True) := fun H0 G0 H G as σ Z Q q => h H0 G0 H G as σ Z Q fun p o H' G' Z' e hp r => q () p o H' G' trivial Z' e hp r
theorem go_asgX {O : β → OS} {Post : β → Prop} (he : EvX rs te S M O Post) (k : ∀ x, Post x → Go rs H0 G0 D.nx (S.set i (.own M.length)) (M ++ [some (O x)])) : Go rs H0 G0 (tAsg te (gName i) D) S M := fun H G as σ Z =>
  he H0 G0 H G as σ Z _ fun x p o H' G' hx Z' e hp hO => by
  have Z2 := Z'.owned hp hO
  exact k x hx _ G' _ _ (Z2.slots (Z2.sat.set ⟨p, by rw [← Z'.len, List.getElem?_append_right (Nat.le_refl _), Nat.sub_self] <;> rfl, rfl⟩))
theorem q_asgX {O : β → OS} {Post : β → Prop} (he : EvX rs te S M O Post) (k : ∀ x, Post x → Go rs H0 G0 (u D) (S.set i (.own M.length)) (M ++ [some (O x)])) : Go rs H0 G0 (tSeq (tAsg te (gName i)) u D) S M := go_asgX (D := { D with nx := u D }) he k
theorem q_parX {O : β → OS} {Post : β → Prop} {M2 : β → Mo} {s2 : β → SS} (ha : EvX rs ta S M O Post) (hb : ∀ x, Post x → EvG rs tb S (M ++ [some (O x)]) (M2 x) (s2 x)) (k : ∀ x, Post x → Go rs H0 G0 (u D) ((S.set i (.own M.length)).set j (s2 x)) (M2 x)) :
    Go rs H0 G0 (tSeq (tPar i j (tCons ta (tCons tb tNil))) u D) S M := fun H G as σ Z =>
  ha H0 G0 H G as σ Z _ fun x p o H1 G1 hx Z1 e1 hp hO => by
  have Z2 := Z1.owned hp hO
  refine hb x hx H0 G0 _ G1 _ σ Z2 _ fun w H3 G3 cs Z3 e3 x3 r3 => ⟨.ref p, w, rfl, ?_⟩
  exact k x hx H3 G3 cs _ (Z3.slots ((Z3.sat.set (s := .own M.length) (v := some (.ref p)) ⟨p, x3 _ _ (by rw [← Z1.len, List.getElem?_append_right (Nat.le_refl _), Nat.sub_self] <;> rfl), rfl⟩).set r3))
theorem q_par2X {O : β → OS} {Post : β → Prop} {M2 : β → Mo} {s2 : β → SS} {K : PySem.W.Frag} {n : Nat} (ha : EvX rs ta S M O Post) (hb : ∀ x, Post x → EvG rs tb S (M ++ [some (O x)]) (M2 x) (s2 x)) (k : ∀ x, Post x → Go rs H0 G0 (u D) ((S.set i (.own M.length)).set j (s2 x)) (M2 x)) (hn : n = 2 := by rfl) :
    Go rs H0 G0 (tSeq (tAsg (tTup (tCons ta (tCons tb tNil))) (gTup K n (gCons (gName i) (gCons (gName j) gNil)))) u D) S M := fun H G as σ Z => by
  subst hn
  refine ha H0 G0 H G as σ Z _ fun x p o H1 G1 hx Z1 e1 hp hO => ?_
  have Z2 := Z1.owned hp hO
  refine hb x hx H0 G0 _ G1 _ σ Z2 _ fun w H3 G3 cs Z3 e3 x3 r3 => ⟨by show 2 ≤ sizeLine; decide, fun q hq => ⟨q, _, rfl, .inl (.inl upd_same), rfl, _, _, rfl, _, _, rfl, rfl, ?_⟩⟩
  have Z4 := Z3.junk (o := .tup [.ref p, w]) hq
  exact k x hx _ G3 cs _ (Z4.slots ((Z4.sat.set (s := .own M.length) (v := some (.ref p)) ⟨p, x3 _ _ (by rw [← Z1.len, List.getElem?_append_right (Nat.le_refl _), Nat.sub_self] <;> rfl), rfl⟩).set r3))
theorem go_retO {O : β → OS} {Post : β → Prop} {x : β} (hq : ∀ v H', RetO H0 G0 O Post v H' → D.rt v H') (hx : Post x) (hi : S[i]? = some (.own j)) (hM : M[j]? = some (some (O x))) : Go rs H0 G0 (tRet (tVar i) D) S M := fun H G as σ Z => by
  obtain ⟨a, o, hv, ha, ho, ga, r⟩ := Z.read hi hM
  exact ⟨.ref a, hv, hq _ H ⟨x, a, o, G, rfl, hx, Z.h, Z.sub, Z.bs, Z.fresh a (List.mem_of_getElem? ha), ga, ho, r⟩⟩
theorem go_open {p : α → Prop} (hi : S[i]? = some (.is (rSome R p) ())) (k : ∀ x, p x → Go rs H0 G0 P (S.set i (.is R x)) M) : Go rs H0 G0 P S M := fun H G as σ Z => by
  obtain ⟨v, hv, w, rfl, x, hx, r⟩ := Z.sat.look hi
  have q := Z.sat.set (i := i) (s := .is R x) (v := some w) ⟨w, rfl, r⟩
  rw [show σ.set i (some w) = σ from List.ext_getElem? fun m => by
    by_cases hm : i = m
    · subst hm
      rw [List.getElem?_set_self (List.getElem?_eq_some_iff.mp hv).1, hv]
    · rw [List.getElem?_set_ne hm]] at q
  exact k x hx H G as σ (Z.slots q)
theorem et_notN {p : Option α → Prop} {b : Bool} (ha : Ev rs ta S M (rSome (rOpt R) p) ()) (hb : ∀ o, p o → o.isSome = b) : EvT rs (tTest (tOp (fun x y H Q => y = .non ∧ Q (.bl (!decide (x = .non))) H) ta (tC .non))) S M b := fun H0 G0 H G as σ Z Q q =>
  ha H0 G0 H G as σ Z _ fun v H1 G1 Z1 e1 ⟨o, ho, r1⟩ => ⟨rfl, b, by
    rw [← hb o ho]
    cases o with
    | none =>
      cases r1
      simp
    | some x => simp [r1.1], q H1 G1 Z1 e1⟩
theorem it_keys {d : Addr} {od : PySem.Obj} {es : List (List Key × V)} {kvs : List (κ × α)} (hk : KeyT Rk enc) (hi : S[i]? = some (.own j)) (hM : M[j]? = some (some (oLk d od es enc R kvs))) :
    ItOk rs (iKeys (tVar i)) S M (fun M' => M'[j]? = some (some (oLk d od es enc R kvs))) Rk (kvs.map (·.1)) := fun H0 G0 H G as σ Z Rr q => by
  obtain ⟨a, o, hv, ha, ho, ga, e0, rfl, hr⟩ := Z.read hi hM
  subst e0
  refine ⟨.ref a, hv, a, od, rfl, .inr ⟨es, ho, ?_⟩⟩
  refine q _ H G (fun H' => H' a = some (.frz od (.dT es))) Z (Same.refl G) (fun H0 G0 H' G' as' M' S' σ' hM' Z' => ?_) ⟨fun i H' hC _ hl => ⟨hC, by rw [hr.length]; simpa using hl⟩, fun H' hC _ => ⟨hC, by rw [hr.length]; simp⟩, fun i H' G' v H'' k hC s1 s2 hx ⟨e, k', v', q', hes, ev, hq'⟩ => ?_⟩
  · obtain ⟨hlt, _⟩ := List.getElem?_eq_some_iff.mp hM'
    have ha' : as'[j]? = some (as'[j]'(by rw [Z'.len]; exact hlt)) := List.getElem?_eq_getElem _
    obtain ⟨_, o', ho', e1, e2, _⟩ := Z'.own j _ _ ha' hM'
    rw [e1, e2] at ho'
    exact ho'
  · rw [List.getElem?_map] at hx
    cases hkv : kvs[i]? with
    | none =>
      rw [hkv] at hx
      cases hx
    | some kx =>
      rw [hkv] at hx
      cases hx
      obtain ⟨e', he', hh⟩ := pr_get hr hkv
      rw [hes] at he'
      cases he'
      refine .inr (.inr ⟨e, q', _, hq', ?_⟩)
      rw [ev]
      refine hk.back _ _ _ ?_
      rw [upd_same, show k' = enc kx.1 from hh.1]
theorem go_forD {σt : Type} {g : TG} {ts : List Nat} {f : Sl → κ → Sl} {kvs : List (κ × α)} (Sf : σt → Sl) (Mf : σt → Mo) (I : Nat → σt → Prop) (s0 : σt) (hk : KeyT Rk enc) (hi : S[i]? = some (.own j)) (hMd : M[j]? = some (some (oDT enc R kvs))) (hMf : ∀ s, (Mf s)[j]? = some (some (oDT enc R kvs)))
    (hSf : ∀ s, (Sf s)[i]? = some (.own j)) (hg : TgOk g Rk ts f) (h0 : I 0 s0) (hS : Wk S (Sf s0)) (hM : M = Mf s0)
    (hb : ∀ (O : OS) (hO : IsDT O enc R kvs) (D' : Ends) G1, Bs H0 G0 G1 → ∀ i s k, (kvs.map (·.1))[i]? = some k → I i s → D'.nx = (fun σ H => ∃ s', I (i + 1) s' ∧ ∃ G as, Zt rs H0 G1 H G as ((Mf s').set j (some O)) (Sf s') σ) → Go rs H0 G1 (t D') (f (Sf s) k) ((Mf s).set j (some O)))
    (hd : ∀ s, I kvs.length s → Go rs H0 G0 D.nx (Sf s) (Mf s)) : Go rs H0 G0 (tLock (tFor (iKeys (tVar i)) g t) D) S M := fun H G as σ Z => by
  obtain ⟨a, o, hv, ha, ho, ga, es, rfl, hr⟩ := Z.read hi hMd
  refine ⟨a, _, ho, trivial, fun od => ?_⟩
  have Z1 := Z.mut ha hMd (O' := oLk a od es enc R kvs) (o := .frz od (.dT es)) ⟨rfl, rfl, hr⟩
  have hlt := (List.getElem?_eq_some_iff.mp hMd).1
  have hltf : ∀ s, j < (Mf s).length := fun s => (List.getElem?_eq_some_iff.mp (hMf s)).1
  refine go_for (σt := σt) (D := ⟨fun σ' H' => H' a = some (.frz od (.dT es)) ∧ D.nx σ' (upd H' a (.dT es)), _, _, _⟩) Sf (fun s => (Mf s).set j (some (oLk a od es enc R kvs))) I s0 (it_keys hk hi (List.getElem?_set_self hlt)) hg h0 hS (by rw [hM])
    (fun G1 bs i s k hx hI => ?_) (fun s hI => ?_) (fun s => List.getElem?_set_self (hltf s)) _ G as σ Z1
  · exact hb _ isLk _ G1 bs i s k hx hI rfl
  · rw [List.length_map] at hI
    intro H' G' as' σ' Z'
    have hl' : ((Mf s).set j (some (oLk a od es enc R kvs)))[j]? = some (some (oLk a od es enc R kvs)) := List.getElem?_set_self (hltf s)
    have ha' : as'[j]? = some (as'[j]'(by rw [Z'.len, List.length_set]; exact hltf s)) := List.getElem?_eq_getElem _
    obtain ⟨_, o', ho', e1, e2, hr'⟩ := Z'.own j _ _ ha' hl'
    have Z2 := Z'.mut ha' hl' (O' := oDT enc R kvs) (o := .dT es) ⟨es, rfl, hr'⟩
    rw [List.set_set] at Z2
    have eM : (Mf s).set j (some (oDT enc R kvs)) = Mf s := List.ext_getElem? fun n => by
      by_cases hn : j = n
      · subst hn
        rw [List.getElem?_set_self (hltf s), hMf s]
      · rw [List.getElem?_set_ne hn]
    rw [eM] at Z2
    rw [e1] at ho' Z2
    rw [e2] at ho'
    exact ⟨ho', hd s hI _ G' as' σ' Z2⟩
theorem q_forD {σt : Type} {g : TG} {ts : List Nat} {f : Sl → κ → Sl} {kvs : List (κ × α)} (Sf : σt → Sl) (Mf : σt → Mo) (I : Nat → σt → Prop) (s0 : σt) (hk : KeyT Rk enc) (hi : S[i]? = some (.own j)) (hMd : M[j]? = some (some (oDT enc R kvs))) (hMf : ∀ s, (Mf s)[j]? = some (some (oDT enc R kvs)))
    (hSf : ∀ s, (Sf s)[i]? = some (.own j)) (hg : TgOk g Rk ts f) (h0 : I 0 s0) (hS : Wk S (Sf s0)) (hM : M = Mf s0)
    (hb : ∀ (O : OS) (hO : IsDT O enc R kvs) (D' : Ends) G1, Bs H0 G0 G1 → ∀ i s k, (kvs.map (·.1))[i]? = some k → I i s → D'.nx = (fun σ H => ∃ s', I (i + 1) s' ∧ ∃ G as, Zt rs H0 G1 H G as ((Mf s').set j (some O)) (Sf s') σ) → Go rs H0 G1 (t D') (f (Sf s) k) ((Mf s).set j (some O)))
    (hd : ∀ s, I kvs.length s → Go rs H0 G0 (u D) (Sf s) (Mf s)) : Go rs H0 G0 (tSeq (tLock (tFor (iKeys (tVar i)) g t)) u D) S M := go_forD (D := { D with nx := u D }) Sf Mf I s0 hk hi hMd hMf hSf hg h0 hS hM hb hd
theorem go_turnE {σt : Type} {G1 : Hp} {Sf : σt → Sl} {Mf : σt → Mo} {I : σt → Prop} {P : L2.St → Hp → Prop} (hP : P = fun σ H => ∃ s', I s' ∧ ∃ G as, Zt rs H0 G1 H G as (Mf s') (Sf s') σ) (s' : σt) (hI : I s') (hS : Wk S (Sf s')) (hM : M = Mf s') : Go rs H0 G1 P S M := by
  rw [hP]
  exact go_turn s' hI hS hM
theorem ev_lcD {g : TG} {ts vs : List Nat} {f : Sl → κ → Sl} {kvs : List (κ × α)} {tt : TT} (p : κ → Bool) (h : κ → β) (hk : KeyT Rk enc) (hi : S[i]? = some (.own j)) (hMd : M[j]? = some (some (oDT enc R kvs))) (hg : TgOk g Rk ts f) (hv : ∀ j ∈ ts, j ∈ vs) (hl : kvs.length ≤ 1000000)
    (ht : ∀ k, k ∈ kvs.map (·.1) → ∀ O m, IsDT O enc R kvs → EvT rs tt (f (wipeS S vs) k) (M.set j (some O) ++ [m]) (p k)) (he : ∀ k, k ∈ kvs.map (·.1) → p k = true → ∀ O m, IsDT O enc R kvs → Ev rs te (f (wipeS S vs) k) (M.set j (some O) ++ [m]) T (h k)) :
    Ev rs (tLockE (tLc (iKeys (tVar i)) g tt te vs)) S M (rList T) (((kvs.map (·.1)).filter p).map h) := fun H0 G0 H G as σ Z Q q => by
  obtain ⟨a, o, hσ, ha, ho, ga, es, rfl, hr⟩ := Z.read hi hMd
  refine ⟨a, _, ho, trivial, fun od => ?_⟩
  have Z1 := Z.mut ha hMd (O' := oLk a od es enc R kvs) (o := .frz od (.dT es)) ⟨rfl, rfl, hr⟩
  have hlt := (List.getElem?_eq_some_iff.mp hMd).1
  have hset : (M.set j (some (oLk a od es enc R kvs)))[j]? = some (some (oLk a od es enc R kvs)) := List.getElem?_set_self hlt
  refine ev_lc (Pm := fun M' => M'[j]? = some (some (oLk a od es enc R kvs))) p h (it_keys hk hi hset) hg hv (by rw [List.length_map]; exact hl) (fun k hkm m => ht k hkm _ m isLk) (fun k hkm hp m => he k hkm hp _ m isLk)
    (fun m => by rw [List.getElem?_append_left (by rw [List.length_set]; exact hlt)]; exact hset) H0 G0 _ G as σ Z1 _ fun v H' G' Z' e r => ?_
  obtain ⟨_, o', ho', e1, e2, hr'⟩ := Z'.own j a _ ha hset
  rw [e2] at ho'
  have Z2 := Z'.mut ha hset (O' := oDT enc R kvs) (o := .dT es) ⟨es, rfl, hr'⟩
  rw [List.set_set] at Z2
  have eM : M.set j (some (oDT enc R kvs)) = M := List.ext_getElem? fun n => by
    by_cases hn : j = n
    · subst hn
      rw [List.getElem?_set_self hlt, hMd]
    · rw [List.getElem?_set_ne hn]
  rw [eM] at Z2
  exact ⟨ho', q v _ G' Z2 e r⟩
theorem ev_lenD {kvs : List (κ × α)} (hi : S[i]? = some (.own j)) (hM : M[j]? = some (some (oDT enc R kvs))) : Ev rs (tCB L2.rLenT (tCons (tVar i) tNil)) S M rNat kvs.length := fun H0 G0 H G as σ Z Q q => by
  obtain ⟨a, o, hσ, ha, ho, ga, es, rfl, hr⟩ := Z.read hi hM
  exact ⟨.ref a, hσ, a, es, rfl, ho, q _ H G Z (Same.refl G) (by rw [hr.length]; rfl)⟩
end
end B
namespace B
open PySem L2
section
variable {α β γ κ : Type} [DecidableEq κ] {rs : RS} {S : Sl} {M M' M1 M2 : Mo} {te ta tb tc tv ty tx : TE} {tr : TA} {tt : TT} {R : MR α} {T : MR β} {x : α} {y : β} {K : PySem.W.Frag} {H0 G0 : Hp} {D : Ends} {t u : TS} {P : L2.St → Hp → Prop} {i j m : Nat}
def Tyd (R : MR α) (c : String) : Prop := ∀ (K : PySem.W.Frag) (G H : Hp) v x, Same G H → R.rel G v x → TyX K H v (.type c)
theorem ty_int : Tyd rInt "int" := fun K G H v x _ r => by
  cases (show v = .int x from r)
  exact .base (.int _)
theorem ty_nat : Tyd rNat "int" := fun K G H v x _ r => by
  cases (show v = .int (x : Int) from r)
  exact .base (.int _)
theorem ty_tup : Tyd (rTup R) "tuple" := fun K G H v x s ⟨a, vs, e, g, r⟩ => by
  subst e
  exact .base (.tup (s _ _ g))
theorem ty_pr : Tyd (rPr R T) "tuple" := fun K G H v x s ⟨a, u, w, e, g, r⟩ => by
  subst e
  exact .base (.tup (s _ _ g))
theorem ty_list : Tyd (rList R) "list" := fun K G H v x s ⟨a, vs, e, g, r⟩ => by
  subst e
  exact .base (.lst (s _ _ g))
theorem ev_isi {c d : String} {b : Bool} (h : Ev rs te S M R x) (t : Tyd R c) (hk : kitB c d = some b) : Ev rs (tCB (rIsi K) (tCons te (tCons (tC (.ty d)) tNil))) S M rBool b := fun H0 G0 H G as σ Z Q q =>
  h H0 G0 H G as σ Z _ fun v H1 G1 Z1 e1 r1 => ⟨v, .ty d, _, _, b, rfl, .ty d, t K G1 H1 v x Z1.sub r1, kit_ty hk, q _ H1 G1 Z1 e1 rfl⟩
theorem ev_isiT {c d d' : String} {b b' : Bool} (h : Ev rs te S M R x) (t : Tyd R c) (hk : kitB c d = some b) (hk' : kitB c d' = some b') : Ev rs (tCB (rIsiT K) (tCons te (tCons (tTup (tCons (tC (.ty d)) (tCons (tC (.ty d')) tNil))) tNil))) S M rBool (b || b') := fun H0 G0 H G as σ Z Q q =>
  h H0 G0 H G as σ Z _ fun v H1 G1 Z1 e1 r1 => ⟨by show 2 ≤ sizeLine; decide, fun p hp => by
    obtain ⟨Z2, e2⟩ := Z1.new_ (o := .tup [.ty d, .ty d']) hp
    refine ⟨v, p, [.ty d, .ty d'], _, [.type d, .type d'], b || b', rfl, upd_same, .cons (.ty d) (.cons (.ty d') .nil), t K _ _ v x Z2.sub (R.mono e2 r1), ?_, q _ _ _ Z2 (e1.trans e2) rfl⟩
    refine kitAny_cons (kit_ty hk) (fun e => ?_) (fun e => by rw [e]; rfl)
    subst e
    refine kitAny_cons (kit_ty hk') (fun e => ?_) (fun e => by rw [e]; rfl)
    subst e
    exact kitAny_nil⟩
theorem ev_isiM {C : Addr} {m : Pm} (cl : Cls K C) (io : IsOwn K C) (h : Ev rs te S M (rMach C) m) : Ev rs (tCB (rIsi K) (tCons te (tCons (tC (.ref C)) tNil))) S M rBool true := fun H0 G0 H G as σ Z Q q =>
  h H0 G0 H G as σ Z _ fun v H1 G1 Z1 e1 ⟨a, dx, t, ea, ga, r⟩ => by
  subst ea
  exact ⟨_, .ref C, _, _, true, rfl, .own C, .base (.ins (Z1.sub _ _ ga) cl io.ha io.hn io.htk io.hm), io.kit, q _ H1 G1 Z1 e1 rfl⟩
theorem ev_chain {a b c : Int} (ha : Ev rs ta S M rInt a) (hb : Ev rs tb S M rInt b) (hc : Ev rs tc S M rInt c) :
    Ev rs (tChain (rI0 fun i j => .bl (decide (i ≤ j))) (rI0 fun i j => .bl (decide (i ≤ j))) ta tb tc) S M rBool (decide (a ≤ b ∧ b ≤ c)) := fun H0 G0 H G as σ Z Q q =>
  ha H0 G0 H G as σ Z _ fun v H1 G1 Z1 e1 r1 => hb H0 G0 H1 G1 as σ Z1 _ fun w H2 G2 Z2 e2 r2 => ⟨a, b, r1, r2, _, rfl, by
    by_cases h : a ≤ b
    · rw [if_pos (decide_eq_true h)]
      exact hc H0 G0 H2 G2 as σ Z2 _ fun z H3 G3 Z3 e3 r3 => ⟨b, c, r2, r3, q _ H3 G3 Z3 ((e1.trans e2).trans e3) (by simp [rBool, h])⟩
    · rw [if_neg (by rw [decide_eq_false h]; decide)]
      exact q _ H2 G2 Z2 (e1.trans e2) (by simp [rBool, h])⟩
theorem ev_chainN {a b c : Nat} (ha : Ev rs ta S M rNat a) (hb : Ev rs tb S M rNat b) (hc : Ev rs tc S M rNat c) :
    Ev rs (tChain (rI0 fun i j => .bl (decide (i ≤ j))) (rI0 fun i j => .bl (decide (i ≤ j))) ta tb tc) S M rBool (decide (a ≤ b ∧ b ≤ c)) := ev_eq (ev_chain (ev_toI ha) (ev_toI hb) (ev_toI hc)) (by
  rw [decide_eq_decide]
  omega)
abbrev Fl := List (Str × SS)
def FlR (G : Hp) : List (Str × V) → Fl → Prop
  | [], [] => True
  | f :: fs, s :: fl => (f.1 = s.1 ∧ s.2.ok [] G (some f.2)) ∧ FlR G fs fl
  | _, _ => False
theorem FlR.mono {G G' : Hp} (e : Same G G') : ∀ {fs : List (Str × V)} {fl : Fl}, FlR G fs fl → FlR G' fs fl
  | [], [], _ => trivial
  | _ :: _, _ :: _, h => ⟨⟨h.1.1, SS.ok_mono e h.1.2⟩, FlR.mono e h.2⟩
  | [], _ :: _, h => h.elim
  | _ :: _, [], h => h.elim
theorem FlR.length {G : Hp} : ∀ {fs : List (Str × V)} {fl : Fl}, FlR G fs fl → fs.length = fl.length
  | [], [], _ => rfl
  | _ :: _, _ :: _, h => congrArg (· + 1) h.2.length
  | [], _ :: _, h => h.elim
  | _ :: _, [], h => h.elim
def oIns (C p dx : Addr) (fl : Fl) : OS := ⟨fun a G o => a = p ∧ ∃ fs, o = .ins C dx fs ∧ FlR G fs fl, fun e ⟨h0, fs, h1, h2⟩ => ⟨h0, fs, h1, h2.mono e⟩, fun ⟨_, fs, h1, _⟩ xs e => by rw [h1] at e; cases e⟩
def rIns (C : Addr) (fl : Fl) : MR Unit := ⟨fun G v _ => ∃ a dx fs, v = .ref a ∧ G a = some (.ins C dx fs) ∧ FlR G fs fl, fun e ⟨a, dx, fs, h1, h2, h3⟩ => ⟨a, dx, fs, h1, e _ _ h2, h3.mono e⟩⟩
theorem flr_look {G : Hp} {f : Str} {s : SS} : ∀ {fs : List (Str × V)} {fl : Fl}, FlR G fs fl → fl.lookup f = some s → ∃ v, fs.lookup f = some v ∧ s.ok [] G (some v)
  | [], [], _, h => by cases h
  | (g, v) :: fs, (g', s') :: fl, ⟨r, t⟩, h => by
    have e : g = g' := r.1
    subst e
    rw [List.lookup_cons] at h ⊢
    cases hb : f == g with
    | true =>
      rw [hb] at h
      cases h
      exact ⟨v, rfl, r.2⟩
    | false =>
      rw [hb] at h
      exact flr_look t h
  | [], _ :: _, h, _ => h.elim
  | _ :: _, [], h, _ => h.elim
theorem flr_none {G : Hp} {f : Str} : ∀ {fs : List (Str × V)} {fl : Fl}, FlR G fs fl → fl.lookup f = none → fs.lookup f = none
  | [], [], _, h => rfl
  | (g, v) :: fs, (g', s') :: fl, ⟨r, t⟩, h => by
    have e : g = g' := r.1
    subst e
    rw [List.lookup_cons] at h ⊢
    cases hb : f == g with
    | true =>
      rw [hb] at h
      cases h
    | false =>
      rw [hb] at h
      exact flr_none t h
  | [], _ :: _, h, _ => h.elim
  | _ :: _, [], h, _ => h.elim
theorem flr_put {G : Hp} {f : Str} {v : V} {s : SS} (hs : s.ok [] G (some v)) : ∀ {fs : List (Str × V)} {fl : Fl}, FlR G fs fl → f ∉ fl.map (·.1) → FlR G (putF f v fs) (fl ++ [(f, s)])
  | [], [], _, _ => ⟨⟨rfl, hs⟩, trivial⟩
  | (g, w) :: fs, (g', s') :: fl, ⟨r, t⟩, h => by
    have e : g = g' := r.1
    subst e
    rw [List.map_cons, List.mem_cons] at h
    unfold putF
    rw [if_neg (fun e => h (.inl e.symm))]
    exact ⟨r, flr_put hs t fun h' => h (.inr h')⟩
  | [], _ :: _, h, _ => h.elim
  | _ :: _, [], h, _ => h.elim
theorem ev_fldO {C p dx : Addr} {fl : Fl} {f : Str} (cl : Cls K C) (na : NoAttr K C f) (hi : S[i]? = some (.own j)) (hM : M[j]? = some (some (oIns C p dx fl))) (hf : fl.lookup f = some (.is R x)) : Ev rs (tFld K (tVar i) f) S M R x := fun H0 G0 H G as σ Z Q q => by
  obtain ⟨a, o, hv, ha, ho, ga, ea, fs, rfl, hr⟩ := Z.read hi hM
  obtain ⟨v, hl, w, e, r⟩ := flr_look hr hf
  cases e
  exact ⟨.ref a, hv, a, C, dx, fs, v, rfl, ho, cl, na, hl, q _ H G Z (Same.refl G) r⟩
theorem ev_fld {C : Addr} {fl : Fl} {f : Str} (cl : Cls K C) (na : NoAttr K C f) (h : Ev rs ta S M (rIns C fl) ()) (hf : fl.lookup f = some (.is R x)) : Ev rs (tFld K ta f) S M R x := fun H0 G0 H G as σ Z Q q =>
  h H0 G0 H G as σ Z _ fun v H1 G1 Z1 e1 ⟨a, dx, fs, ea, ga, hr⟩ => by
  obtain ⟨v, hl, w, e, r⟩ := flr_look hr hf
  cases e
  exact ⟨a, C, dx, fs, v, ea, Z1.sub _ _ ga, cl, na, hl, q _ H1 G1 Z1 e1 r⟩
theorem go_fld {C p dx : Addr} {fl : Fl} {f : Str} (cl : Cls K C) (na : NoAttr K C f) (hi : S[i]? = some (.own j)) (hM : M[j]? = some (some (oIns C p dx fl))) (hn : f ∉ fl.map (·.1)) (hl : fl.length < 1000) (he : Ev rs tv S M R x) (k : Go rs H0 G0 D.nx S (M.set j (some (oIns C p dx (fl ++ [(f, .is R x)]))))) :
    Go rs H0 G0 (sFld K (tVar i) tv f D) S M := fun H G as σ Z => he H0 G0 H G as σ Z _ fun v H1 G1 Z1 e1 r1 => by
  obtain ⟨a, o, hv, ha, ho, ga, ea, fs, rfl, hr⟩ := Z1.read hi hM
  refine ⟨.ref a, hv, a, C, dx, fs, rfl, ho, cl, na, by rw [hr.length]; exact hl, k _ G1 as σ (Z1.mut ha hM ⟨ea, _, rfl, flr_put (s := .is R x) (v := v) ⟨v, rfl, r1⟩ hr hn⟩)⟩
theorem q_fld {C p dx : Addr} {fl : Fl} {f : Str} (cl : Cls K C) (na : NoAttr K C f) (hi : S[i]? = some (.own j)) (hM : M[j]? = some (some (oIns C p dx fl))) (hn : f ∉ fl.map (·.1)) (hl : fl.length < 1000) (he : Ev rs tv S M R x) (k : Go rs H0 G0 (u D) S (M.set j (some (oIns C p dx (fl ++ [(f, .is R x)]))))) :
    Go rs H0 G0 (tSeq (sFld K (tVar i) tv f) u D) S M := go_fld (D := { D with nx := u D }) cl na hi hM hn hl he k
def prmI {A : Type} (C : Addr) (sig : A → List SS) (Pre : A → Prop) (F : A → Fl) : Sp := fun vs H Q _ => ∃ (H0 G : Hp) (a : A) (p dx : Addr) (ws : List V), vs = .ref p :: ws ∧ H = upd H0 p (.ins C dx []) ∧ H0 p = none ∧ Same G H0 ∧ Pre a ∧ ArgsOk G ws (sig a) ∧
  ∀ H' G' fs, Same H0 H' → Same G' H' → Bs H0 G G' → G' p = none → H' p = some (.ins C dx fs) → FlR G' fs (F a) → Q .non H'
theorem prmI_len {A : Type} {C : Addr} {sig : A → List SS} {Pre : A → Prop} {F : A → Fl} {ps : List Str} (hn : ∀ a, (sig a).length + 1 = ps.length) {vs : List V} {H : Hp} {Q : VK} {E : XK} (h : prmI C sig Pre F vs H Q E) : vs.length = ps.length := by
  obtain ⟨H0, G, a, p, dx, ws, rfl, _, _, _, _, ha, _⟩ := h
  rw [List.length_cons, argsOk_len ha, hn]
theorem sat_startI {G : Hp} {p : Addr} {vs : List V} {ss : List SS} {N : List Str} (h : ArgsOk G vs ss) : Sat [p] G (.own 0 :: (ss ++ List.replicate (N.length - (ss.length + 1)) .no)) (L2.start N (.ref p :: vs)) := by
  have hl := argsOk_len h
  refine ⟨by simp [L2.start, hl], fun i s v h1 h2 => ?_⟩
  cases i with
  | zero =>
    cases h1
    rw [L2.start] at h2
    cases h2
    exact ⟨p, rfl, rfl⟩
  | succ i =>
    rw [List.getElem?_cons_succ] at h1
    rw [L2.start, List.map_cons, List.cons_append, List.getElem?_cons_succ] at h2
    by_cases hi : i < ss.length
    · rw [List.getElem?_append_left hi] at h1
      rw [List.getElem?_append_left (by simp; omega)] at h2
      exact SS.ok_ext (as := []) (fun j a z => by simp at z) (argsOk_sat h i s v h1 h2)
    · rw [List.getElem?_append_right (by omega), List.getElem?_replicate] at h1
      split at h1
      · cases h1
        trivial
      · cases h1
theorem go_startI {A : Type} {C : Addr} {sig : A → List SS} {Pre : A → Prop} {F : A → Fl} {N : List Str} {vs : List V} {H : Hp} {Q : VK} {E : XK} {P : L2.St → Hp → Prop} (h : prmI C sig Pre F vs H Q E)
    (k : ∀ (a : A) (H0 G0 : Hp) (p dx : Addr), Pre a → (∀ S M, M[0]? = some (some (oIns C p dx (F a))) → Go none H0 G0 (fun _ H' => Q .non H') S M) → Go none H0 G0 P (.own 0 :: (sig a ++ List.replicate (N.length - ((sig a).length + 1)) .no)) [some (oIns C p dx [])]) : P (L2.start N vs) H := by
  obtain ⟨H0, G, a, p, dx, ws, rfl, rfl, hp0, hs, hp, ha, q⟩ := h
  have Z0 : Zt none H0 G H0 G [] [] [] [] := ⟨Same.refl H0, Same.refl G, hs, fun b h1 h2 => absurd h1 h2, rfl, List.nodup_nil, fun b hb => (List.not_mem_nil hb).elim, fun b hb => (List.not_mem_nil hb).elim, fun j b O hb => by simp at hb, fun p c e => (nomatch e), ⟨rfl, fun i s v h => by simp at h⟩⟩
  have Z1 := Z0.owned (O := oIns C p dx []) (o := .ins C dx []) hp0 ⟨rfl, [], rfl, trivial⟩
  have Z2 : Zt none H0 G (upd H0 p (.ins C dx [])) G [p] [some (oIns C p dx [])] _ _ := Z1.slots (sat_startI (N := N) ha)
  refine k a H0 G p dx hp (fun S M hM H' G' as σ Z => ?_) _ _ _ _ Z2
  have hlt : 0 < as.length := by
    rw [Z.len]
    exact (List.getElem?_eq_some_iff.mp hM).1
  obtain ⟨ga, o, ho, ep, fs, rfl, hr⟩ := Z.own 0 _ _ (List.getElem?_eq_getElem hlt) hM
  rw [ep] at ga ho
  exact q H' G' fs Z.h Z.sub Z.bs ga ho hr
theorem ev_make {A : Type} {C : Addr} {sig : A → List SS} {Pre : A → Prop} {F : A → Fl} {E : XK} (a : A) (h : EvA rs tr S M (sig a)) (hp : Pre a) : Ev rs (tMake C (prmI C sig Pre F) [] E tr) S M (rIns C (F a)) () := fun H0 G0 H G as σ Z Q q =>
  h H0 G0 H G as σ Z _ fun vs H1 G1 Z1 e1 r1 => fun x dx hx hdx hne => by
  have Z2 := Z1.junk (o := .own x) hdx
  have hx2 : upd H1 dx (.own x) x = none := by
    rw [upd_ne (fun e => hne e.symm)]
    exact hx
  refine ⟨upd H1 dx (.own x), G1, a, x, dx, vs, by rw [List.append_nil], rfl, hx2, Z2.sub, hp, r1, fun H' G' fs h1 h2 h3 h4 h5 h6 => ⟨rfl, ?_⟩⟩
  have Z3 : Zt rs H0 G0 (fun b => if b = x then none else H' b) G' as M S σ := by
    refine Z2.step (fun b o' e => ?_) h3.g (fun b o' e => ?_) h3.new
    · show (if b = x then none else H' b) = some o'
      rw [if_neg (ne_of_none e hx2)]
      exact h1 b o' e
    · show (if b = x then none else H' b) = some o'
      rw [if_neg (ne_of_none e h4)]
      exact h2 b o' e
  have hxn : (fun b => if b = x then none else H' b) x = none := by
    show (if x = x then none else H' x) = none
    rw [if_pos rfl]
  obtain ⟨Z4, e4⟩ := Z3.new_ (o := .ins C dx fs) hxn
  have e : upd (fun b => if b = x then none else H' b) x (.ins C dx fs) = H' := by
    funext b
    unfold upd
    by_cases hb : b = x
    · rw [if_pos hb, hb, h5]
    · rw [if_neg hb]
      show (if b = x then none else H' b) = H' b
      rw [if_neg hb]
  rw [e] at Z4
  exact q _ _ _ Z4 ((e1.trans h3.g).trans e4) ⟨x, dx, fs, rfl, upd_same, h6.mono e4⟩
theorem mach_of {C : Addr} {m : Pm} (h : Ev rs te S M (rIns C [("parts", .is rPm m)]) ()) : Ev rs te S M (rMach C) m := ev_rel h fun G v ⟨a, dx, fs, e, g, r⟩ => by
  match fs, r with
  | [(n, w)], ⟨⟨e1, u, e2, r2⟩, _⟩ =>
    cases e2
    have e1' : n = "parts" := e1
    subst e1'
    obtain ⟨t, a1, a2, e3, _⟩ := id r2
    subst e3
    exact ⟨a, dx, t, e, g, r2⟩
  | [], h => exact h.elim
  | _ :: _ :: _, h => exact h.2.elim
end
end B
namespace B
open PySem L2
section
variable {α β γ κ : Type} [DecidableEq κ] {rs : RS} {S : Sl} {M M' M1 M2 : Mo} {te ta tb tc tv ty tx : TE} {tr : TA} {tt : TT} {R : MR α} {T : MR β} {x : α} {y : β} {K : PySem.W.Frag} {H0 G0 : Hp} {D : Ends} {t u : TS} {P : L2.St → Hp → Prop} {i j m n : Nat} {b : Bool}
def oPin (d : Addr) (vs : List V) (R : MR α) (xs : List α) : OS := ⟨fun a G o => a = d ∧ o = .lst vs ∧ AllR R G vs xs, fun e ⟨h0, h1, h2⟩ => ⟨h0, h1, allR_mono e h2⟩, fun ⟨_, h1, _⟩ xs e => by rw [h1] at e; cases e⟩
theorem it_enumPin {d : Addr} {vs : List V} {xs : List α} (hi : S[i]? = some (.own j)) (hM : M[j]? = some (some (oPin d vs R xs))) : ItOk rs (iEnum K (tCons (tVar i) tNil)) S M (fun M' => M'[j]? = some (some (oPin d vs R xs))) (rPr rNat R) (zipI xs) := fun H0 G0 H G as σ Z Rr q => by
  obtain ⟨a, o, hv, ha, ho, ga, e0, rfl, r⟩ := Z.read hi hM
  subst e0
  refine ⟨.ref a, hv, a, vs, rfl, .inl (.inl ho), q _ H G (fun H' => H' a = some (.lst vs)) Z (Same.refl G) (fun H0 G0 H' G' as' M' S' σ' hM' Z' => ?_) ⟨fun i H' hC _ hi => ⟨vs, vs[i]'(by rw [r.length]; rw [zipI_len] at hi; exact hi), .inl (.inl hC), List.getElem?_eq_getElem _⟩, fun H' hC _ => ⟨vs, .inl (.inl hC), by rw [r.length, zipI_len]; exact Nat.le_refl _⟩,
    fun i H' G' v H'' p hC s1 s2 hx hy => ?_⟩⟩
  · obtain ⟨hlt, _⟩ := List.getElem?_eq_some_iff.mp hM'
    have ha' : as'[j]? = some (as'[j]'(by rw [Z'.len]; exact hlt)) := List.getElem?_eq_getElem _
    obtain ⟨_, o', ho', e1, e2, _⟩ := Z'.own j _ _ ha' hM'
    rw [e1, e2] at ho'
    exact ho'
  · obtain ⟨T, u, rfl, hT, rfl, hv⟩ := hy
    rw [zipI_at] at hx
    cases hq : xs[i]? with
    | none =>
      rw [hq] at hx
      cases hx
    | some z =>
      rw [hq] at hx
      cases hx
      obtain ⟨u', hu, ru⟩ := pr_get r hq
      have := hv vs (.inl (.inl hC))
      rw [hu] at this
      cases this
      have gT := none_sub s2 hT
      exact .inr (.inl ⟨T, _, hT, rfl, T, _, _, rfl, upd_same, rfl, R.mono (s1.trans (same_new gT)) ru⟩)
theorem ev_lcP {g : TG} {ts vs : List Nat} {f : Sl → Nat × α → Sl} {xs : List α} (p : Nat × α → Bool) (h : Nat × α → β) (hi : S[i]? = some (.own j)) (hMd : M[j]? = some (some (oList R xs))) (hg : TgOk g (rPr rNat R) ts f) (hv : ∀ j ∈ ts, j ∈ vs) (hl : xs.length ≤ 1000000)
    (ht : ∀ k, k ∈ zipI xs → ∀ O m, EvT rs tt (f (wipeS S vs) k) (M.set j (some O) ++ [m]) (p k)) (he : ∀ k, k ∈ zipI xs → p k = true → ∀ O m, Ev rs te (f (wipeS S vs) k) (M.set j (some O) ++ [m]) T (h k)) :
    Ev rs (tLc (iEnum K (tCons (tVar i) tNil)) g tt te vs) S M (rList T) (((zipI xs).filter p).map h) := fun H0 G0 H G as σ Z Q q => by
  obtain ⟨a, o, hσ, ha, ho, ga, ws, rfl, hr⟩ := Z.read hi hMd
  have Z1 := Z.mut ha hMd (O' := oPin a ws R xs) (o := .lst ws) ⟨rfl, rfl, hr⟩
  have eH : upd H a (.lst ws) = H := by
    funext b
    unfold upd
    by_cases hb : b = a
    · rw [if_pos hb, hb, ho]
    · rw [if_neg hb]
  rw [eH] at Z1
  have hlt := (List.getElem?_eq_some_iff.mp hMd).1
  have hset : (M.set j (some (oPin a ws R xs)))[j]? = some (some (oPin a ws R xs)) := List.getElem?_set_self hlt
  refine ev_lc (Pm := fun M' => M'[j]? = some (some (oPin a ws R xs))) p h (it_enumPin hi hset) hg hv (by rw [zipI_len]; exact hl) (fun k hkm m => ht k hkm _ m) (fun k hkm hp m => he k hkm hp _ m)
    (fun m => by rw [List.getElem?_append_left (by rw [List.length_set]; exact hlt)]; exact hset) H0 G0 _ G as σ Z1 _ fun v H' G' Z' e r => ?_
  obtain ⟨_, o', ho', e1, e2, hr'⟩ := Z'.own j a _ ha hset
  rw [e2] at ho'
  have Z2 := Z'.mut ha hset (O' := oList R xs) (o := .lst ws) ⟨ws, rfl, hr'⟩
  have eH2 : upd H' a (.lst ws) = H' := by
    funext b
    unfold upd
    by_cases hb : b = a
    · rw [if_pos hb, hb, ho']
    · rw [if_neg hb]
  rw [eH2, List.set_set] at Z2
  have eM : M.set j (some (oList R xs)) = M := List.ext_getElem? fun n => by
    by_cases hn : j = n
    · subst hn
      rw [List.getElem?_set_self hlt, hMd]
    · rw [List.getElem?_set_ne hn]
  rw [eM] at Z2
  exact q v _ G' Z2 e r
theorem go_augLN {xs : List Nat} {z d : Nat} (hi : S[i]? = some (.own j)) (hM : M[j]? = some (some (oList rNat xs))) (hn : Ev rs tb S M rNat n) (hx : xs[n]? = some z) (he : Ev rs te S M rNat d) (k : Go rs H0 G0 D.nx S (M.set j (some (oList rNat (xs.set n (z + d)))))) :
    Go rs H0 G0 (tAugS (tVar i) tb te (rIxL K) (ipI fun i j => i + j) rSetL D) S M := fun H G as σ Z => by
  obtain ⟨a, _, hv, ha, _⟩ := Z.read hi hM
  refine ⟨.ref a, hv, hn H0 G0 H G as σ Z _ fun w H1 G1 Z1 e1 r1 => ?_⟩
  obtain ⟨ga, o, ho, vs, rfl, r⟩ := Z1.own j a _ ha hM
  obtain ⟨u, hu, ru⟩ := pr_get r hx
  refine ⟨a, vs, (n : Int), u, rfl, r1, .inl (.inl ho), atI_nat hu, he H0 G0 H1 G1 as σ Z1 _ fun y H2 G2 Z2 e2 r2 => ⟨(z : Int), (d : Int), ru, r2, ?_⟩⟩
  obtain ⟨ga', o', ho', vs', rfl, r'⟩ := Z2.own j a _ ha hM
  have hlen : vs'.length = xs.length := r'.length
  have hlt := (List.getElem?_eq_some_iff.mp hx).1
  refine ⟨a, vs', (n : Int), n, rfl, r1, ho', ?_, k _ G2 as σ (Z2.mut ha hM ⟨_, rfl, pr_set (F := rNat.rel G2) (x := V.int ((z : Int) + d)) (y := z + d) (by show V.int _ = V.int _; congr 1) n r'⟩)⟩
  unfold ixN
  rw [if_pos (by omega), if_pos (by omega)] <;> simp
theorem ev_optN : Ev rs (tC .non) S M (rOpt R) none := fun H0 G0 H G as σ Z Q q => q _ H G Z (Same.refl G) rfl
theorem ev_optS (hn : ∀ G v x, R.rel G v x → v ≠ .non) (h : Ev rs te S M R x) : Ev rs te S M (rOpt R) (some x) := ev_rel h fun G v r => ⟨hn G v x r, r⟩
theorem nn_nat : ∀ G v x, rNat.rel G v x → v ≠ .non := fun G v x r e => by
  rw [show v = _ from r] at e
  cases e
theorem nn_pr : ∀ G v x, (rPr R T).rel G v x → v ≠ .non := fun G v x ⟨a, u, w, e, _⟩ e2 => by
  rw [e] at e2
  cases e2
theorem ev_someI {p : α → Prop} (h : Ev rs te S M R x) (hp : p x) : Ev rs te S M (rSome R p) () := ev_rel h fun G v r => ⟨x, hp, r⟩
theorem ev_someE {p : α → Prop} (h : Ev rs te S M (rSome R p) ()) (hu : ∀ a b, p a → p b → a = b) (hx : p x) : Ev rs te S M R x := ev_rel h fun G v ⟨z, hz, r⟩ => by
  rw [hu x z hx hz]
  exact r
end
end B
namespace B
open PySem L2
def ownLt (n : Nat) : SS → Bool
  | .own j => decide (j < n)
  | _ => true
theorem go_forget {rs : RS} {H0 G0 : Hp} {P : L2.St → Hp → Prop} {S : Sl} {M : Mo} {m : Option OS} (hS : S.all (ownLt M.length) = true) (k : Go rs H0 G0 P S M) : Go rs H0 G0 P S (M ++ [m]) := fun H G as σ Z => by
  have hl := Z.len
  rw [List.length_append, List.length_singleton] at hl
  obtain ⟨as', a, e⟩ : ∃ as' a, as = as' ++ [a] := by
    have hne : as ≠ [] := fun e => by rw [e] at hl; simp at hl
    exact ⟨as.dropLast, as.getLast hne, (List.dropLast_concat_getLast hne).symm⟩
  subst e
  have hl' : as'.length = M.length := by simpa using hl
  refine k H G as' σ (Z.pop ⟨Z.sat.len, fun i s v h1 h2 => ?_⟩)
  have h3 := Z.sat.at_ i s v h1 h2
  cases s with
  | no => exact h3
  | is R x => exact h3
  | own j =>
    have hj : j < M.length := of_decide_eq_true (List.all_eq_true.mp hS _ (List.mem_of_getElem? h1))
    obtain ⟨b, hb, e⟩ := h3
    rw [List.getElem?_append_left (by omega)] at hb
    exact ⟨b, hb, e⟩
end B
namespace B
open PySem PySem.Spec PyProof.Rows L2
section
variable {P : Program} {w : World}
def bKey (b : Bool) : Leaf := .num (if b = true then 1 else 0)
theorem bKey_inj : ∀ a b, bKey a = bKey b → a = b := by decide
theorem bKey_is {b : Bool} {u : Value} (r : RelV (.bl b) u) : (leafKind P w).is (bKey b) u = true := by
  cases (show u = Value.bool b from r)
  cases b <;> rfl
def dL (P : Program) (w : World) (a : Addr) (kvs : List (Leaf × V)) : HO := .ext fun h => kvs.length ≤ sizeLine ∧ (a == sysModules) = false ∧ ∃ vs, KV kvs vs ∧ h.DictOf (leafKind P w) a vs
theorem dL_ok {H : Hp} {h : Heap} {a : Addr} {kvs : List (Leaf × V)} {vs : List (Leaf × Value)} (h1 : kvs.length ≤ sizeLine) (h2 : (a == sysModules) = false) (r : KV kvs vs) (d : h.DictOf (leafKind P w) a vs) : ObjOk P w H h a (dL P w a kvs) := by
  refine ⟨⟨h1, h2, vs, r, d⟩, let ⟨o, _, _, e, _⟩ := d; ⟨o, e⟩, fun g1 g2 ⟨z1, z2, ws, z3, z4⟩ k => ⟨z1, z2, ws, z3, ?_⟩⟩
  obtain ⟨o, es, ep, e, c⟩ := z4
  exact ⟨o, es, ep, k _ e, c⟩
theorem dL_of {H : Hp} {h : Heap} {a : Addr} {kvs : List (Leaf × V)} (ok : HOk P w H h) (e : H a = some (dL P w a kvs)) : kvs.length ≤ sizeLine ∧ (a == sysModules) = false ∧ ∃ vs, KV kvs vs ∧ h.DictOf (leafKind P w) a vs :=
  (show ObjOk P w H h a (dL P w a kvs) from ok a _ e).1
def numK (js : List Int) : List NestedKey := js.map .num
theorem numK_depth : ∀ js, NestedKey.depthAll (numK js) = 0
  | [] => rfl
  | j :: js => by
    show max (NestedKey.depth (.num j)) (NestedKey.depthAll (numK js)) = 0
    rw [numK_depth js]
    rfl
theorem numK_all {h : Heap} : ∀ {js : List Int} {us : List Value}, Vals (js.map V.int) us → NestedAll h (numK js) us
  | [], _, r => by
    rw [List.map_nil] at r
    cases r
    exact .nil
  | j :: js, _, r => by
    rw [List.map_cons] at r
    cases r with
    | cons r1 t =>
      obtain ⟨t1, e⟩ := (show ∃ t, _ = Value.int j t from r1)
      subst e
      exact .cons (.int _ _) (numK_all t)
def nKey (p : Int × List Int) : NestedKey := .tup [.num p.1, .tup (numK p.2)]
def NAt (H : Hp) (p : Int × List Int) (b : Addr) : Prop := ∃ c, H b = some (.tup [.int p.1, .ref c]) ∧ H c = some (.tup (p.2.map V.int))
theorem NAt.mono {H H' : Hp} {p : Int × List Int} {b : Addr} (e : Same H H') : NAt H p b → NAt H' p b := fun ⟨c, h1, h2⟩ => ⟨c, e _ _ h1, e _ _ h2⟩
theorem nKey_is {H : Hp} {h : Heap} {p : Int × List Int} {b : Addr} (ok : HOk P w H h) (n : NAt H p b) : (nestedKind P w).is h (nKey p) b := by
  obtain ⟨c, h1, h2⟩ := n
  obtain ⟨_, its, r, o, e1, e2, m, e3⟩ := (show ObjOk P w H h b (.tup [.int p.1, .ref c]) from ok b _ h1)
  obtain ⟨_, its', r', o', f1, f2, m', f3⟩ := (show ObjOk P w H h c (.tup (p.2.map V.int)) from ok c _ h2)
  refine ⟨.tup e1 e2 e3 ?_, ?_⟩
  · cases r with
    | cons r1 t =>
      cases t with
      | cons r2 t =>
        cases t
        obtain ⟨t1, e⟩ := (show ∃ t, _ = Value.int p.1 t from r1)
        cases (show _ = Value.ref c from r2)
        subst e
        exact .cons (.int _ _) (.cons (.tup f1 f2 f3 (numK_all r')) .nil)
  · show max (NestedKey.depth (.num p.1)) (max (NestedKey.depthAll (numK p.2) + 1) 0) + 1 ≤ 8
    rw [numK_depth]
    show max 0 (max (0 + 1) 0) + 1 ≤ 8
    decide
theorem numK_inj : ∀ {a b : List Int}, numK a = numK b → a = b
  | [], [], _ => rfl
  | [], _ :: _, e => by simp [numK] at e
  | _ :: _, [], e => by simp [numK] at e
  | x :: xs, y :: ys, e => by
    have e : NestedKey.num x :: numK xs = NestedKey.num y :: numK ys := e
    injection e with e1 e2
    injection e1 with e1
    rw [e1, numK_inj e2]
theorem nKey_inj (a b : Int × List Int) (e : nKey a = nKey b) : a = b := by
  unfold nKey at e
  injection e with e
  injection e with e1 e2
  injection e1 with e1
  injection e2 with e2 _
  injection e2 with e2
  exact Prod.ext e1 (numK_inj e2)
abbrev XN := List (NestedKey × Addr × V)
def XNR : XN → List (NestedKey × Addr × Value) → Prop := Paired fun p q => p.1 = q.1 ∧ p.2.1 = q.2.1 ∧ RelV p.2.2 q.2.2
def dN (P : Program) (w : World) (a : Addr) (xs : XN) : HO := .ext fun h => xs.length ≤ sizeLine ∧ (a == sysModules) = false ∧ ∃ ys o es ep, XNR xs ys ∧ h.get? a = some o ∧ o.ExactDict ∧ o.data = .dict es ep ∧ es.toList = ys.map (entryOfKey (nestedKind P w)) ∧ (ys.map (·.1)).Nodup
theorem dN_ok {H : Hp} {h : Heap} {a : Addr} {xs : XN} {ys : List (NestedKey × Addr × Value)} (h1 : xs.length ≤ sizeLine) (h2 : (a == sysModules) = false) (r : XNR xs ys) (d : h.DictOfH (nestedKind P w) a ys) : ObjOk P w H h a (dN P w a xs) := by
  obtain ⟨o, es, ep, e1, e2, e3, e4, _, e6⟩ := d
  refine ⟨⟨h1, h2, ys, o, es, ep, r, e1, e2, e3, e4, e6⟩, ⟨o, e1⟩, fun g1 g2 ⟨z1, z2, ws, o', es', ep', z3, z4, z5⟩ k => ⟨z1, z2, ws, o', es', ep', z3, k _ z4, z5⟩⟩
def NAll (H : Hp) (xs : XN) : Prop := ∀ x ∈ xs, ∃ p, x.1 = nKey p ∧ NAt H p x.2.1
theorem xnr_mem {xs : XN} {ys : List (NestedKey × Addr × Value)} (r : XNR xs ys) : ∀ y ∈ ys, ∃ x ∈ xs, x.1 = y.1 ∧ x.2.1 = y.2.1 := by
  unfold XNR at r
  induction r with
  | nil => intro y hy; cases hy
  | cons h t ih =>
    intro y hy
    rcases List.mem_cons.mp hy with rfl | hy
    · exact ⟨_, List.mem_cons_self, h.1, h.2.1⟩
    · obtain ⟨x, hx, e⟩ := ih y hy
      exact ⟨x, List.mem_cons_of_mem _ hx, e⟩
theorem dN_of {H : Hp} {h : Heap} {a : Addr} {xs : XN} (ok : HOk P w H h) (e : H a = some (dN P w a xs)) (n : NAll H xs) : xs.length ≤ sizeLine ∧ (a == sysModules) = false ∧ ∃ ys, XNR xs ys ∧ h.DictOfH (nestedKind P w) a ys := by
  obtain ⟨h1, h2, ys, o, es, ep, r, e1, e2, e3, e4, e6⟩ := (show ObjOk P w H h a (dN P w a xs) from ok a _ e).1
  refine ⟨h1, h2, ys, r, o, es, ep, e1, e2, e3, e4, fun y hy => ?_, e6⟩
  obtain ⟨x, hx, q1, q2⟩ := xnr_mem r y hy
  obtain ⟨p, hp, hn⟩ := n x hx
  rw [← q1, ← q2, hp]
  exact nKey_is ok hn
def valN (xs : XN) (k : NestedKey) : Option V := valV (xs.map fun x => (x.1, x.2.2)) k
theorem xnr_val {xs : XN} {ys : List (NestedKey × Addr × Value)} (r : XNR xs ys) (k : NestedKey) : RelO (valN xs k) ((atKey ys k).map (·.2)) := by
  unfold XNR at r
  unfold valN
  induction r with
  | nil => exact True.intro
  | @cons p q ps qs h t ih =>
    obtain ⟨h1, _, h2⟩ := h
    rw [List.map_cons]
    by_cases e : p.1 = k
    · have e' : q.1 = k := h1.symm.trans e
      have b : atKey (q :: qs) k = some q.2 := by simp [atKey, List.find?_cons, e']
      rw [valV_pos (p := (p.1, p.2.2)) e, b]
      exact h2
    · have e' : ¬ q.1 = k := fun z => e (h1.trans z)
      have b : atKey (q :: qs) k = atKey qs k := by simp [atKey, List.find?_cons, e']
      rw [valV_neg (p := (p.1, p.2.2)) e, b]
      exact ih
theorem xnr_put {xs : XN} {ys : List (NestedKey × Addr × Value)} (r : XNR xs ys) {k : NestedKey} {b : Addr} {y : V} {u : Value} (ry : RelV y u) (hn : valN xs k = none) : XNR (xs ++ [(k, b, y)]) (storedH ys k b u) := by
  have e : (atKey ys k).isSome = false := by
    have := (xnr_val r k).isSome_eq
    rw [hn, Option.isSome_map] at this
    exact this.symm
  unfold storedH
  rw [e]
  exact Paired.snoc r ⟨rfl, rfl, ry⟩
def XGet (P : Program) (w : World) (H : Hp) (a : Addr) (y : V) (r : Option V) : Prop :=
  (∃ kvs b, H a = some (dL P w a kvs) ∧ y = .bl b ∧ r = valV kvs (bKey b)) ∨ ∃ xs p b, H a = some (dN P w a xs) ∧ NAll H xs ∧ y = .ref b ∧ NAt H p b ∧ r = valN xs (nKey p)
def XPut (P : Program) (w : World) (H : Hp) (a : Addr) (y v : V) (H' : Hp) : Prop :=
  (∃ kvs b, H a = some (dL P w a kvs) ∧ y = .bl b ∧ kvs.length < sizeLine ∧ H' = upd H a (dL P w a (putK kvs (bKey b) v))) ∨
  ∃ xs p b, H a = some (dN P w a xs) ∧ NAll H xs ∧ y = .ref b ∧ NAt H p b ∧ valN xs (nKey p) = none ∧ xs.length < sizeLine ∧ H' = upd H a (dN P w a (xs ++ [(nKey p, b, v)]))
def XLen (P : Program) (w : World) (H : Hp) (a : Addr) (n : Nat) : Prop := (∃ kvs, H a = some (dL P w a kvs) ∧ n = kvs.length) ∨ ∃ xs, H a = some (dN P w a xs) ∧ NAll H xs ∧ n = xs.length
end
section
variable {X : Cx} {pins : List (Addr × Obj)} {σ : L2.St} {H : Hp} {s : Shared} {a : Addr} {y v : V} {u r : Value} {o : Option V} {A : Around} {E : Value → Shared → Prop}
theorem x_getItem {Q : Value → Shared → Prop} (hu : A.units + 64 < cLine) (I : Inv X pins σ H s) (g : XGet X.prog X.w H a y (some v)) (ry : RelV y u) (h : ∀ w' s', Inv X pins σ H s' → RelV v w' → Q w' s') :
    wpAny (model X.prog X.w) A (getItem (.ref a) u) Q E s := by
  rcases g with ⟨kvs, b, e, ey, l⟩ | ⟨xs, p, b, e, n, ey, eb, l⟩
  · subst ey
    obtain ⟨z, hd, vs, rel, dd⟩ := dL_of I.hok e
    obtain ⟨w', hw, rw'⟩ := RelO.some_of (v := v) (o := valueAt vs (bKey b)) (by rw [l]; exact rel.val _)
    exact wpAny_getItem_of (bKey_is ry) dd.mapOf hw (h w' _ (I.tok _) rw')
  · subst ey
    cases (show u = Value.ref b from ry)
    obtain ⟨z, hd, ys, rel, dd⟩ := dN_of I.hok e n
    obtain ⟨w', hw, rw'⟩ := RelO.some_of (v := v) (o := (atKey ys (nKey p)).map (·.2)) (by rw [l]; exact xnr_val rel _)
    obtain ⟨q, hp, hp2⟩ := Option.map_eq_some_iff.mp hw
    refine wpAny_getItem_heap (knd := nestedKind X.prog X.w) (show A.in1.units + 8 < cLine by rw [show A.in1.units = A.units + 1 from rfl]; omega) (nKey_is I.hok eb) dd hp ?_
    rw [hp2]
    exact h w' _ (I.tok _) rw'
theorem x_notIn {Q : Value → Shared → Prop} (hu : A.units + 64 < cLine) (I : Inv X pins σ H s) (g : XGet X.prog X.w H a y o) (ry : RelV y u) (h : ∀ s', Inv X pins σ H s' → Q (.bool (!o.isSome)) s') :
    wpAny (model X.prog X.w) A (compareOp .NotIn u (.ref a)) Q E s := by
  rcases g with ⟨kvs, b, e, ey, l⟩ | ⟨xs, p, b, e, n, ey, eb, l⟩
  · subst ey
    obtain ⟨z, hd, vs, rel, dd⟩ := dL_of I.hok e
    refine wpAny_notIn_of (bKey_is ry) hd dd.mapOf ?_
    rw [← (rel.val (bKey b)).isSome_eq, ← l]
    exact h _ (I.tok _)
  · subst ey
    cases (show u = Value.ref b from ry)
    obtain ⟨z, hd, ys, rel, dd⟩ := dN_of I.hok e n
    refine wpAny_notIn_heap (knd := nestedKind X.prog X.w) (show A.in1.units + 8 < cLine by rw [show A.in1.units = A.units + 1 from rfl]; omega) (nKey_is I.hok eb) hd dd ?_
    have q := (xnr_val rel (nKey p)).isSome_eq
    rw [Option.isSome_map] at q
    rw [← q, ← l]
    exact h _ (I.tok _)
theorem x_setItem {H' : Hp} {Q : Unit → Shared → Prop} (hu : A.units + 64 < cLine) (I : Inv X pins σ H s) (g : XPut X.prog X.w H a y v H') (ry : RelV y u) (rv : RelV v r) (h : ∀ s', Inv X pins σ H' s' → Q () s') :
    wpAny (model X.prog X.w) A (setItem (.ref a) u r) Q E s := by
  rcases g with ⟨kvs, b, e, ey, l, eH⟩ | ⟨xs, p, b, e, n, ey, eb, hn, l, eH⟩
  · subst ey eH
    obtain ⟨z, hd, vs, rel, dd⟩ := dL_of I.hok e
    have hz : vs.length ≤ sizeLine := by rw [← rel.length]; exact z
    have hl : (putK kvs (bKey b) v).length ≤ sizeLine := by have := length_putK kvs (bKey b) v; omega
    refine wpAny_setItem_pairs (hsz := hz) (bKey_is ry) dd fun h' dd' hs => h _ ?_
    have he : ∃ q, h'.get? a = some q := let ⟨q, _, _, hq, _⟩ := dd'; ⟨q, hq⟩
    exact d_write I (by rw [e]; exact True.intro) hs he (dL_ok hl hd (rel.put (bKey b) rv) dd')
  · subst ey eH
    cases (show u = Value.ref b from ry)
    obtain ⟨z, hd, ys, rel, dd⟩ := dN_of I.hok e n
    have hz : ys.length ≤ sizeLine := by rw [← Paired.length rel]; exact z
    refine wpAny_setItem_heap (knd := nestedKind X.prog X.w) (hsz := hz) (show A.in1.units + 8 < cLine by rw [show A.in1.units = A.units + 1 from rfl]; omega) (nKey_is I.hok eb) dd fun h' dd' hs => h _ ?_
    have he : ∃ q, h'.get? a = some q := let ⟨q, _, _, hq, _⟩ := dd'; ⟨q, hq⟩
    exact d_write I (by rw [e]; exact True.intro) hs he (dN_ok (by rw [List.length_append, List.length_singleton]; omega) hd (xnr_put rel rv hn) dd')
theorem x_len {n : Nat} {Q : Value → Shared → Prop} (I : Inv X pins σ H s) (g : XLen X.prog X.w H a n) (h : ∀ t s', Inv X pins σ H s' → Q (.int n t) s') : wpAny (model X.prog X.w) A (call (.builtin "len") [.ref a]) Q E s := by
  rcases g with ⟨kvs, e, l⟩ | ⟨xs, e, nn, l⟩
  · subst l
    obtain ⟨z, hd, vs, rel, dd⟩ := dL_of I.hok e
    refine call_len_dict hd dd (by rw [← rel.length]; rw [sizeLine_eq] at z; omega) ?_
    rw [← rel.length]
    exact h _ _ (I.tok _)
  · subst l
    obtain ⟨z, hd, ys, rel, dd⟩ := dN_of I.hok e nn
    have hl : xs.length = ys.length := Paired.length rel
    refine call_len_dictH hd dd (by rw [← hl]; rw [sizeLine_eq] at z; omega) ?_
    rw [← hl]
    exact h _ _ (I.tok _)
theorem x_typeIs (I : Inv X pins σ H s) (g : XGet X.prog X.w H a y o) : s.TypeIs (.ref a) "dict" := by
  rcases g with ⟨kvs, b, e, _, _⟩ | ⟨xs, p, b, e, n, _, _, _⟩
  · obtain ⟨_, _, vs, _, dd⟩ := dL_of I.hok e
    exact dd.typeIs
  · obtain ⟨_, _, ys, _, dd⟩ := dN_of I.hok e n
    exact dd.typeIs
end
def tXGet (P : Program) (w : World) (td ty : TE) : TE := fun σ H Q => td σ H fun x H1 => ty σ H1 fun y H2 => ∃ a v, x = .ref a ∧ XGet P w H2 a y (some v) ∧ Q v H2
def tXNotIn (P : Program) (w : World) (ty td : TE) : TE := fun σ H Q => ty σ H fun y H1 => td σ H1 fun x H2 => ∃ a o, x = .ref a ∧ XGet P w H2 a y o ∧ Q (.bl (!o.isSome)) H2
def sXPut (P : Program) (w : World) (td ty tv : TE) : TS := fun D σ H => tv σ H fun v H1 => td σ H1 fun x H2 => ty σ H2 fun y H3 => ∃ a H4, x = .ref a ∧ XPut P w H3 a y v H4 ∧ D.nx σ H4
def rXLen (P : Program) (w : World) : List V → Hp → VK → Prop := fun xs H Q => ∃ (a : Addr) (n : Nat), xs = [.ref a] ∧ XLen P w H a n ∧ Q (.int (n : Int)) H
def tXNewL (P : Program) (w : World) : TE := fun _ H Q => ∀ p, H p = none → Q (.ref p) (upd H p (dL P w p []))
def tXNewN (P : Program) (w : World) : TE := fun _ H Q => ∀ p, H p = none → Q (.ref p) (upd H p (dN P w p []))
section
variable {X : Cx} {o i e value : Expr} {pos pos' : Pos} {td ty tv : TE} {P : Program} {w : World}
theorem pe_xget (hP : X.prog = P) (hw : X.w = w) (hu : X.A.units + 64 < cLine) (ho : PE X o td) (hi : PE X i ty) (hs : NoSl i) : PE X (.Subscript o i pos) (tXGet P w td ty) := by
  subst hP hw
  refine ⟨fun pins s σ H Q I h => ?_⟩
  refine subD_of PySem.F.slot_dict_getitem.lookup hs (thn (ho.run pins s σ H _ I h) fun u s1 ⟨x, H1, I1, rx, q1⟩ => thn (hi.run pins s1 σ H1 _ I1 q1) fun iv s2 ⟨y, H2, I2, ry, a, v, ex, g, q2⟩ => ?_)
  subst ex
  obtain rfl : u = Value.ref a := rx
  exact ⟨x_typeIs I2 g, x_getItem hu I2 g ry fun w' s3 I3 rw' => ⟨v, H2, I3, rw', q2⟩⟩
theorem pc_xnotin (hP : X.prog = P) (hw : X.w = w) (hu : X.A.units + 64 < cLine) (hi : PE X i ty) (ho : PE X o td) : PC X .NotIn i o (tXNotIn P w ty td) := by
  subst hP hw
  refine ⟨fun pins s σ H Q I h => ?_⟩
  refine thn (hi.run pins s σ H _ I h) fun iv s1 ⟨y, H1, I1, ry, q1⟩ => thn (ho.run pins s1 σ H1 _ I1 q1) fun u s2 ⟨x, H2, I2, rx, a, ov, ex, g, q2⟩ => ?_
  subst ex
  obtain rfl : u = Value.ref a := rx
  exact x_notIn hu I2 g ry fun s3 I3 => ⟨.bl (!ov.isSome), H2, I3, rfl, q2⟩
theorem ps_xput (hP : X.prog = P) (hw : X.w = w) (hu : X.A.units + 64 < cLine) (ho : PE X o td) (hi : PE X i ty) (hv : PE X value tv) (hs : swapsWith value (some (.Subscript o i pos')) pos.line X.env = pure false) :
    PS X (.Assign [.Subscript o i pos'] value pos) (sXPut P w td ty tv) := by
  subst hP hw
  refine ⟨fun pins s σ H D I h => ?_⟩
  refine wpAny_Assign_Subscript (thn (hv.run pins s σ H _ I h) fun r s1 ⟨v, H1, I1, rv, q1⟩ => thn (ho.run pins s1 σ H1 _ I1 q1) fun u s2 ⟨x, H2, I2, rx, q2⟩ => thn (hi.run pins s2 σ H2 _ I2 q2) fun iv s3 ⟨y, H3, I3, ry, a, H4, ex, g, q3⟩ => ?_) hs
  subst ex
  obtain rfl : u = Value.ref a := rx
  exact x_setItem hu I3 g ry rv fun s4 I4 => ⟨σ, H4, I4, q3⟩
theorem cr_xlen (hP : X.prog = P) (hw : X.w = w) : CallR X (.builtin "len") (rXLen P w) := by
  subst hP hw
  intro pins s σ H xs us Q I r h
  obtain ⟨a, n, rfl, g, q⟩ := h
  obtain ⟨u, rfl, rx⟩ := vals1 r
  obtain rfl : u = .ref a := rx
  exact x_len I g fun t s' I' => ⟨.int (n : Int), H, I', ⟨_, rfl⟩, q⟩
theorem pe_xnewL (hP : X.prog = P) (hw : X.w = w) : PE X (.Dict [] [] pos) (tXNewL P w) := by
  subst hP hw
  exact ⟨fun pins s σ H Q I h => wpAny_Dict_empty ⟨.ref s.heap.objs.size, _, I.laid (a := s.heap.objs.size) (o := dL X.prog X.w s.heap.objs.size []) (t' := s.toks) (fun _ _ q => Heap.get?_push_of_some _ q) (Nat.le_refl _)
    (dL_ok (Nat.zero_le _) (beq_eq_false_iff_ne.mpr (Ne.symm (Nat.ne_of_lt I.big))) .nil (Heap.DictOf.new s.heap)), rfl, h _ (I.hok.fresh (Nat.le_refl _))⟩⟩
theorem pe_xnewN (hP : X.prog = P) (hw : X.w = w) : PE X (.Dict [] [] pos) (tXNewN P w) := by
  subst hP hw
  exact ⟨fun pins s σ H Q I h => wpAny_Dict_empty ⟨.ref s.heap.objs.size, _, I.laid (a := s.heap.objs.size) (o := dN X.prog X.w s.heap.objs.size []) (t' := s.toks) (fun _ _ q => Heap.get?_push_of_some _ q) (Nat.le_refl _)
    (dN_ok (Nat.zero_le _) (beq_eq_false_iff_ne.mpr (Ne.symm (Nat.ne_of_lt I.big))) .nil (Heap.DictOfH.new s.heap)), rfl, h _ (I.hok.fresh (Nat.le_refl _))⟩⟩
end
end B
namespace B
abbrev Pr := Nat × Nat
abbrev Mc := List (List Nat) × List Nat
def unl (m1 m2 : Mc) (p : Pr) : Bool := decide (p.1 ∈ m1.2) != decide (p.2 ∈ m2.2)
def row (m : Mc) (s : Nat) : List Nat := m.1.getD s []
def goals (m1 m2 : Mc) (p : Pr) : List Pr := (row m1 p.1).zip (row m2 p.2)
structure OkM (L : Nat) (m : Mc) : Prop where
  pos : 1 ≤ m.1.length
  le8 : m.1.length ≤ 8
  len : ∀ r ∈ m.1, r.length = L
  lt : ∀ r ∈ m.1, ∀ g ∈ r, g < m.1.length
structure OkG (n : Nat) (g : List Nat) : Prop where
  inc : g.Pairwise (· < ·)
  lt : ∀ x ∈ g, x < n
structure OkW (L : Nat) (m : Mc) : Prop where
  ok : OkM L m
  l1 : 1 ≤ L
  l3 : L ≤ 3
  g : OkG m.1.length m.2
def inM (m1 m2 : Mc) (p : Pr) : Prop := p.1 < m1.1.length ∧ p.2 < m2.1.length
theorem row_at {m : Mc} {s : Nat} (h : s < m.1.length) : m.1[s]? = some (row m s) := by
  unfold row
  rw [List.getD_eq_getElem?_getD, List.getElem?_eq_getElem h]
  rfl
theorem row_mem {m : Mc} {s : Nat} (h : s < m.1.length) : row m s ∈ m.1 := List.mem_of_getElem? (row_at h)
theorem OkM.row_len {L : Nat} {m : Mc} (o : OkM L m) {s : Nat} (h : s < m.1.length) : (row m s).length = L := o.len _ (row_mem h)
theorem OkM.row_lt {L : Nat} {m : Mc} (o : OkM L m) {s g : Nat} (h : s < m.1.length) (hg : g ∈ row m s) : g < m.1.length := o.lt _ (row_mem h) g hg
theorem goals_in {L : Nat} {m1 m2 : Mc} (o1 : OkM L m1) (o2 : OkM L m2) {p g : Pr} (h : inM m1 m2 p) (hg : g ∈ goals m1 m2 p) : inM m1 m2 g := by
  unfold goals at hg
  have := List.of_mem_zip hg
  exact ⟨o1.row_lt h.1 this.1, o2.row_lt h.2 this.2⟩

section
variable {α : Type} [DecidableEq α]
def addNew (line : List α) (gs : List α) : List α := gs.foldl (fun l g => if g ∈ l then l else l ++ [g]) line
def bfs (nx : α → List α) : Nat → List α → Nat → List α
  | 0, line, _ => line
  | f + 1, line, k => match line[k]? with
    | none => line
    | some p => bfs nx f (addNew line (nx p)) (k + 1)
theorem addNew_cons (line : List α) (g : α) (gs : List α) : addNew line (g :: gs) = addNew (if g ∈ line then line else line ++ [g]) gs := rfl
theorem addNew_one (line : List α) (g : α) : addNew line [g] = if g ∈ line then line else line ++ [g] := rfl
theorem addNew_snoc (line : List α) (g : α) (gs : List α) : addNew line (gs ++ [g]) = if g ∈ addNew line gs then addNew line gs else addNew line gs ++ [g] := by
  unfold addNew
  rw [List.foldl_append]
  rfl
theorem addNew_nodup : ∀ (gs line : List α), line.Nodup → (addNew line gs).Nodup
  | [], _, h => h
  | g :: gs, line, h => by
    rw [addNew_cons]
    refine addNew_nodup gs _ ?_
    by_cases hg : g ∈ line
    · rw [if_pos hg]
      exact h
    · rw [if_neg hg, List.nodup_append]
      exact ⟨h, by simp, fun a ha b hb => by
        rw [List.mem_singleton] at hb
        rw [hb]
        exact fun e => hg (e ▸ ha)⟩
theorem mem_addNew {x : α} : ∀ (gs line : List α), x ∈ addNew line gs ↔ x ∈ line ∨ x ∈ gs
  | [], line => by
    show x ∈ line ↔ _
    simp
  | g :: gs, line => by
    rw [addNew_cons, mem_addNew gs]
    by_cases hg : g ∈ line
    · rw [if_pos hg, List.mem_cons]
      constructor
      · rintro (h | h)
        · exact .inl h
        · exact .inr (.inr h)
      · rintro (h | rfl | h)
        · exact .inl h
        · exact .inl hg
        · exact .inr h
    · rw [if_neg hg, List.mem_append, List.mem_singleton, List.mem_cons, or_assoc]
theorem addNew_pre : ∀ (gs line : List α), ∃ more, addNew line gs = line ++ more
  | [], line => ⟨[], by rw [List.append_nil]; rfl⟩
  | g :: gs, line => by
    rw [addNew_cons]
    obtain ⟨more, h⟩ := addNew_pre gs (if g ∈ line then line else line ++ [g])
    rw [h]
    by_cases hg : g ∈ line
    · rw [if_pos hg]
      exact ⟨more, rfl⟩
    · rw [if_neg hg]
      exact ⟨g :: more, by rw [List.append_assoc]; rfl⟩
end
end B
namespace B
section
variable {α : Type} [DecidableEq α]
theorem bfs_step {nx : α → List α} {f k : Nat} {line : List α} {p : α} (h : line[k]? = some p) : bfs nx (f + 1) line k = bfs nx f (addNew line (nx p)) (k + 1) := by
  show (match line[k]? with
    | none => line
    | some p => bfs nx f (addNew line (nx p)) (k + 1)) = _
  rw [h]
theorem bfs_end {nx : α → List α} {f k : Nat} {line : List α} (h : line.length ≤ k) : bfs nx f line k = line := by
  cases f with
  | zero => rfl
  | succ f =>
    show (match line[k]? with
      | none => line
      | some p => bfs nx f (addNew line (nx p)) (k + 1)) = _
    rw [List.getElem?_eq_none h]
theorem nodup_le {n : Nat} : ∀ {l : List α} {all : List α}, l.Nodup → (∀ x ∈ l, x ∈ all) → all.length ≤ n → l.length ≤ n
  | [], _, _, _, _ => Nat.zero_le _
  | x :: l, all, hn, hs, hl => by
    have hx := hs x List.mem_cons_self
    have hn' := List.nodup_cons.mp hn
    have h1 : ∀ y ∈ l, y ∈ all.erase x := fun y hy => (List.mem_erase_of_ne (fun e => hn'.1 (by rw [← e]; exact hy))).mpr (hs y (List.mem_cons_of_mem _ hy))
    have h2 : (all.erase x).length = all.length - 1 := List.length_erase_of_mem hx
    have h3 : 0 < all.length := List.length_pos_of_mem hx
    have := nodup_le (n := n - 1) hn'.2 h1 (by omega)
    simp only [List.length_cons]
    omega
end
def allP (n m : Nat) : List Pr := (List.range n).flatMap fun i => (List.range m).map fun j => (i, j)
theorem mem_allP {n m : Nat} {p : Pr} : p ∈ allP n m ↔ p.1 < n ∧ p.2 < m := by
  obtain ⟨i, j⟩ := p
  simp [allP]
theorem allP_len (n m : Nat) : (allP n m).length = n * m := by
  unfold allP
  rw [List.length_flatMap]
  simp only [List.length_map, List.length_range]
  rw [List.map_const', List.length_range, List.sum_replicate_nat]
theorem pairs_le {L : Nat} {m1 m2 : Mc} (o1 : OkM L m1) (o2 : OkM L m2) {l : List Pr} (hn : l.Nodup) (h : ∀ p ∈ l, inM m1 m2 p) : l.length ≤ 64 := by
  refine nodup_le hn (fun p hp => mem_allP.mpr (h p hp)) ?_
  rw [allP_len]
  exact Nat.mul_le_mul o1.le8 o2.le8
end B
namespace B
section
variable {α : Type} [DecidableEq α]
structure BfsR (nx : α → List α) (line r : List α) : Prop where
  nd : r.Nodup
  sub : ∀ x ∈ line, x ∈ r
  cl : ∀ x ∈ r, ∀ g ∈ nx x, g ∈ r
  ind : ∀ P : α → Prop, (∀ x ∈ line, P x) → (∀ x, P x → ∀ g ∈ nx x, P g) → ∀ x ∈ r, P x
  pre : ∃ more, r = line ++ more
theorem bfs_spec {nx : α → List α} {V : α → Prop} {B : Nat} (hV : ∀ x, V x → ∀ g ∈ nx x, V g) (hB : ∀ l : List α, l.Nodup → (∀ x ∈ l, V x) → l.length ≤ B) : ∀ (f : Nat) (line : List α) (k : Nat), line.Nodup → (∀ x ∈ line, V x) →
    (∀ (i : Nat) x, i < k → line[i]? = some x → ∀ g ∈ nx x, g ∈ line) → B < k + f → BfsR nx line (bfs nx f line k)
  | 0, line, k, h1, h2, h3, h4 => by
    have hl := hB line h1 h2
    refine ⟨h1, fun x h => h, fun x hx g hg => ?_, fun P hP _ x hx => hP x hx, [], by rw [List.append_nil]; rfl⟩
    have hx : x ∈ line := hx
    obtain ⟨i, hi⟩ := List.mem_iff_getElem?.mp hx
    exact h3 i x (by have := (List.getElem?_eq_some_iff.mp hi).1; omega) hi g hg
  | f + 1, line, k, h1, h2, h3, h4 => by
    cases hk : line[k]? with
    | none =>
      have hl : line.length ≤ k := List.getElem?_eq_none_iff.mp hk
      rw [bfs_end hl]
      refine ⟨h1, fun x h => h, fun x hx g hg => ?_, fun P hP _ x hx => hP x hx, [], by rw [List.append_nil]⟩
      obtain ⟨i, hi⟩ := List.mem_iff_getElem?.mp hx
      exact h3 i x (by have := (List.getElem?_eq_some_iff.mp hi).1; omega) hi g hg
    | some p =>
      rw [bfs_step hk]
      have hp : p ∈ line := List.mem_of_getElem? hk
      obtain ⟨more, hm⟩ := addNew_pre (nx p) line
      have ih := bfs_spec hV hB f (addNew line (nx p)) (k + 1) (addNew_nodup _ _ h1) (fun x hx => by
        rcases (mem_addNew _ _).mp hx with h | h
        · exact h2 x h
        · exact hV p (h2 p hp) x h) (fun i x hi hx g hg => by
        have hkl := (List.getElem?_eq_some_iff.mp hk).1
        rw [hm, List.getElem?_append_left (by omega)] at hx
        by_cases hik : i = k
        · subst hik
          rw [hk] at hx
          cases hx
          exact (mem_addNew _ _).mpr (.inr hg)
        · exact (mem_addNew _ _).mpr (.inl (h3 i x (by omega) hx g hg))) (by omega)
      refine ⟨ih.nd, fun x hx => ih.sub x ((mem_addNew _ _).mpr (.inl hx)), ih.cl, fun P hP hc => ih.ind P (fun x hx => ?_) hc, ?_⟩
      · rcases (mem_addNew _ _).mp hx with h | h
        · exact hP x h
        · exact hc p (hP p hp) x h
      · obtain ⟨more2, hm2⟩ := ih.pre
        exact ⟨more ++ more2, by rw [hm2, hm, List.append_assoc]⟩
end
def bfsP (m1 m2 : Mc) (b : Pr) : List Pr := bfs (goals m1 m2) 65 [b] 0
theorem bfsP_spec {L : Nat} {m1 m2 : Mc} {b : Pr} (o1 : OkM L m1) (o2 : OkM L m2) (h : inM m1 m2 b) : BfsR (goals m1 m2) [b] (bfsP m1 m2 b) :=
  bfs_spec (V := inM m1 m2) (B := 64) (fun x hx g hg => goals_in o1 o2 hx hg) (fun l h1 h2 => pairs_le o1 o2 h1 h2) 65 [b] 0 (by simp) (fun x hx => by rw [List.mem_singleton.mp hx]; exact h) (fun i x hi => absurd hi (Nat.not_lt_zero i)) (by omega)
theorem bfsP_in {L : Nat} {m1 m2 : Mc} {b : Pr} (o1 : OkM L m1) (o2 : OkM L m2) (h : inM m1 m2 b) : ∀ p ∈ bfsP m1 m2 b, inM m1 m2 p :=
  (bfsP_spec o1 o2 h).ind _ (fun x hx => by rw [List.mem_singleton.mp hx]; exact h) fun x hx g hg => goals_in o1 o2 hx hg
end B
namespace B
open PySem L2
section
variable {κ : Type} [DecidableEq κ]
theorem look_tab0 (k : κ) : ∀ (ks : List κ) (n : Nat), look (ks.zipIdx n) k = if k ∈ ks then some (n + ks.idxOf k) else none
  | [], n => rfl
  | x :: ks, n => by
    rw [List.zipIdx_cons, look_cons, look_tab0 k ks]
    by_cases h : x = k
    · subst h
      rw [if_pos rfl, if_pos List.mem_cons_self]
      simp
    · have h2 : ¬ k = x := fun e => h e.symm
      have e1 : (k ∈ x :: ks) ↔ k ∈ ks := by
        rw [List.mem_cons]
        exact ⟨fun q => q.resolve_left h2, .inr⟩
      show (if x = k then some n else _) = _
      rw [if_neg h]
      by_cases hm : k ∈ ks
      · rw [if_pos hm, if_pos (e1.mpr hm), List.idxOf_cons]
        have : (x == k) = false := by simpa using h
        rw [this]
        show some _ = some (n + (List.idxOf k ks + 1))
        congr 1
        omega
      · rw [if_neg hm, if_neg fun q => hm (e1.mp q)]
theorem look_tab (ks : List κ) (k : κ) : look ks.zipIdx k = if k ∈ ks then some (ks.idxOf k) else none := by
  rw [look_tab0, Nat.zero_add]
theorem look_tab_in {ks : List κ} {k : κ} (h : k ∈ ks) : look ks.zipIdx k = some (ks.idxOf k) := by rw [look_tab, if_pos h]
theorem look_tab_none (ks : List κ) (k : κ) : (look ks.zipIdx k).isNone = !decide (k ∈ ks) := by
  rw [look_tab]
  by_cases h : k ∈ ks <;> simp [h]
theorem tab_snoc (ks : List κ) (k : κ) : (ks ++ [k]).zipIdx = ks.zipIdx ++ [(k, ks.length)] := by
  rw [List.zipIdx_append]
  simp
theorem tab_put {ks : List κ} {k : κ} (h : k ∉ ks) : put ks.zipIdx k ks.length = (ks ++ [k]).zipIdx := by
  rw [put_new _ (by rw [look_tab, if_neg h]), tab_snoc]
def ixOf (l : List κ) (x : κ) : Nat := l.idxOf x
def inB (l : List κ) (x : κ) : Bool := decide (x ∈ l)
theorem inB_iff {l : List κ} {x : κ} : inB l x = true ↔ x ∈ l := decide_eq_true_iff
theorem inB_not {l : List κ} {x : κ} (h : (!inB l x) = true) : x ∉ l := by
  unfold inB at h
  simpa using h
theorem inB_is {l : List κ} {x : κ} (h : (!inB l x) = false) : x ∈ l := by
  unfold inB at h
  simpa using h
theorem look_tab_none' (ks : List κ) (k : κ) : (look ks.zipIdx k).isNone = !inB ks k := look_tab_none ks k
theorem look_tab_in' {ks : List κ} {k : κ} (h : k ∈ ks) : look ks.zipIdx k = some (ixOf ks k) := look_tab_in h
theorem ix_app {l more : List κ} {x : κ} (h : x ∈ l) : ixOf (l ++ more) x = ixOf l x := by
  unfold ixOf
  rw [List.idxOf_append, if_pos h]
def numF (xs : List κ) : List Nat := xs.map fun x => (addNew [] xs).idxOf x
end
structure XD (P : Program) (w : World) (κ : Type) [DecidableEq κ] where
  Rk : MR κ
  O : List (κ × Nat) → OS
  get : ∀ {H G : Hp} {v : V} {k : κ} {a : Addr} {o : HO} {kv : List (κ × Nat)}, Same G H → Rk.rel G v k → (O kv).rel a G o → H a = some o → XGet P w H a v ((look kv k).map fun n => V.int ((n : Nat) : Int))
  put : ∀ {H G : Hp} {v : V} {k : κ} {a : Addr} {o : HO} {kv : List (κ × Nat)} {n : Nat}, Same G H → Rk.rel G v k → (O kv).rel a G o → H a = some o → look kv k = none → kv.length < 1000000 → ∃ o', XPut P w H a v (.int (n : Int)) (upd H a o') ∧ (O (kv ++ [(k, n)])).rel a G o'
  len : ∀ {H G : Hp} {a : Addr} {o : HO} {kv : List (κ × Nat)}, Same G H → (O kv).rel a G o → H a = some o → XLen P w H a kv.length
theorem valV_enc {κ ι : Type} [DecidableEq κ] [DecidableEq ι] {f : κ → ι} (hf : ∀ a b, f a = f b → a = b) (k : κ) : ∀ kv : List (κ × Nat), valV (kv.map fun e => (f e.1, V.int ((e.2 : Nat) : Int))) (f k) = (look kv k).map fun n => V.int ((n : Nat) : Int)
  | [] => rfl
  | e :: r => by
    rw [List.map_cons, look_cons]
    by_cases h : e.1 = k
    · rw [if_pos h, valV_pos (p := (f e.1, V.int ((e.2 : Nat) : Int))) (congrArg f h)]
      rfl
    · rw [if_neg h, valV_neg (p := (f e.1, V.int ((e.2 : Nat) : Int))) fun z => h (hf _ _ z), valV_enc hf k r]
def oL (P : Program) (w : World) (kv : List (Bool × Nat)) : OS := ⟨fun a _ o => o = dL P w a (kv.map fun e => (bKey e.1, V.int ((e.2 : Nat) : Int))), fun _ h => h, fun h xs e => by rw [h] at e; cases e⟩
def xdL (P : Program) (w : World) : XD P w Bool where
  Rk := rBool
  O := oL P w
  get := fun {H G v k a o kv} _ r ho e => by
    cases (show v = .bl k from r)
    have ho : o = _ := ho
    subst ho
    exact .inl ⟨_, k, e, rfl, (valV_enc bKey_inj k kv).symm⟩
  put := fun {H G v k a o kv n} _ r ho e hn hl => by
    cases (show v = .bl k from r)
    have ho : o = _ := ho
    subst ho
    refine ⟨_, .inl ⟨_, k, e, rfl, by rw [List.length_map]; exact Nat.lt_trans hl (by decide), rfl⟩, ?_⟩
    show _ = dL P w a _
    rw [putK_new _ (by rw [valV_enc bKey_inj k kv, hn]; rfl), List.map_append]
    rfl
  len := fun {H G a o kv} _ ho e => by
    have ho : o = _ := ho
    subst ho
    exact .inl ⟨_, e, by rw [List.length_map]⟩
abbrev KN := Nat × List Nat
def castN (k : KN) : Int × List Int := ((k.1 : Int), k.2.map fun n : Nat => (n : Int))
theorem cast_inj : ∀ {a b : List Nat}, (a.map fun n : Nat => (n : Int)) = b.map (fun n : Nat => (n : Int)) → a = b
  | [], [], _ => rfl
  | [], _ :: _, e => by simp at e
  | _ :: _, [], e => by simp at e
  | x :: xs, y :: ys, e => by
    rw [List.map_cons, List.map_cons] at e
    injection e with e1 e2
    rw [cast_inj e2, Int.ofNat.inj e1]
theorem castN_inj (a b : KN) (h : castN a = castN b) : a = b := by
  unfold castN at h
  injection h with h1 h2
  exact Prod.ext (Int.ofNat.inj h1) (cast_inj h2)
def XNK (G : Hp) (xs : XN) (kv : List (KN × Nat)) : Prop := Paired (fun (x : NestedKey × Addr × V) (e : KN × Nat) => x.1 = nKey (castN e.1) ∧ NAt G (castN e.1) x.2.1 ∧ x.2.2 = V.int ((e.2 : Nat) : Int)) xs kv
def oN (P : Program) (w : World) (kv : List (KN × Nat)) : OS := ⟨fun a G o => ∃ xs, o = dN P w a xs ∧ XNK G xs kv, fun e ⟨xs, h1, h2⟩ => ⟨xs, h1, pr_imp (fun _ _ r => ⟨r.1, r.2.1.mono e, r.2.2⟩) h2⟩, fun ⟨xs, h, _⟩ ys e => by rw [h] at e; cases e⟩
theorem xnk_all {G H : Hp} {xs : XN} {kv : List (KN × Nat)} (s : Same G H) (h : XNK G xs kv) : NAll H xs := fun x hx => by
  obtain ⟨i, hi⟩ := List.mem_iff_getElem?.mp hx
  obtain ⟨e, _, h1, h2, _⟩ := pr_get' h hi
  exact ⟨_, h1, h2.mono s⟩
theorem xnk_val {G : Hp} {xs : XN} {kv : List (KN × Nat)} (h : XNK G xs kv) (k : KN) : valN xs (nKey (castN k)) = (look kv k).map fun n => V.int ((n : Nat) : Int) := by
  unfold valN
  rw [← valV_enc (f := fun k : KN => nKey (castN k)) (fun a b e => castN_inj a b (nKey_inj _ _ e)) k kv]
  congr 1
  exact pr_map_eq (fun x e r => by rw [r.1, r.2.2]) h
theorem rk_nat {G : Hp} {v : V} {k : KN} (r : (rPr rNat (rTup rNat)).rel G v k) : ∃ b, v = .ref b ∧ NAt G (castN k) b := by
  obtain ⟨a, u, w, e, g, r1, c, vs, e2, g2, r2⟩ := r
  subst e2
  have e1 : u = .int (k.1 : Int) := r1
  subst e1
  refine ⟨a, e, c, g, ?_⟩
  rw [g2, vals_nat r2]
  rfl
def xdN (P : Program) (w : World) : XD P w KN where
  Rk := rPr rNat (rTup rNat)
  O := oN P w
  get := fun {H G v k a o kv} s r ho e => by
    obtain ⟨b, rfl, hn⟩ := rk_nat r
    obtain ⟨xs, rfl, hx⟩ := ho
    exact .inr ⟨xs, castN k, b, e, xnk_all s hx, rfl, hn.mono s, (xnk_val hx k).symm⟩
  put := fun {H G v k a o kv n} s r ho e hl hz => by
    obtain ⟨b, rfl, hn⟩ := rk_nat r
    obtain ⟨xs, rfl, hx⟩ := ho
    refine ⟨_, .inr ⟨xs, castN k, b, e, xnk_all s hx, rfl, hn.mono s, by rw [xnk_val hx k, hl]; rfl, by rw [hx.length]; exact Nat.lt_trans hz (by decide), rfl⟩, _, rfl, pr_app hx (.cons ⟨rfl, hn, rfl⟩ .nil)⟩
  len := fun {H G a o kv} s ho e => by
    obtain ⟨xs, rfl, hx⟩ := ho
    exact .inr ⟨xs, e, xnk_all s hx, hx.length.symm⟩
section
variable {κ α : Type} [DecidableEq κ] {P : Program} {w : World} {D : XD P w κ} {rs : RS} {S : Sl} {M : Mo} {ty te : TE} {k : κ} {kv : List (κ × Nat)} {i j n x : Nat} {H0 G0 : Hp} {E : Ends} {u : TS} {R : MR α}
theorem ev_xnin (hi : S[i]? = some (.own j)) (hM : M[j]? = some (some (D.O kv))) (hy : Ev rs ty S M D.Rk k) : Ev rs (tXNotIn P w ty (tVar i)) S M rBool (look kv k).isNone := fun H0 G0 H G as σ Z Q q =>
  hy H0 G0 H G as σ Z _ fun v H1 G1 Z1 e1 r1 => by
  obtain ⟨a, o, hv, ha, ho, ga, hO⟩ := Z1.read hi hM
  exact ⟨.ref a, hv, a, _, rfl, D.get Z1.sub r1 hO ho, q _ H1 G1 Z1 e1 (by rw [Option.isSome_map, Option.not_isSome]; rfl)⟩
theorem ev_xget (hi : S[i]? = some (.own j)) (hM : M[j]? = some (some (D.O kv))) (hy : Ev rs ty S M D.Rk k) (hx : look kv k = some x) : Ev rs (tXGet P w (tVar i) ty) S M rNat x := fun H0 G0 H G as σ Z Q q => by
  obtain ⟨a, _, hv, ha, _⟩ := Z.read hi hM
  refine ⟨.ref a, hv, hy H0 G0 H G as σ Z _ fun v H1 G1 Z1 e1 r1 => ?_⟩
  obtain ⟨ga, o, ho, hO⟩ := Z1.own j a _ ha hM
  have := D.get Z1.sub r1 hO ho
  rw [hx] at this
  exact ⟨a, _, rfl, this, q _ H1 G1 Z1 e1 rfl⟩
theorem ev_xlen (hi : S[i]? = some (.own j)) (hM : M[j]? = some (some (D.O kv))) : Ev rs (tCB (rXLen P w) (tCons (tVar i) tNil)) S M rNat kv.length := fun H0 G0 H G as σ Z Q q => by
  obtain ⟨a, o, hv, ha, ho, ga, hO⟩ := Z.read hi hM
  exact ⟨.ref a, hv, a, _, rfl, D.len Z.sub hO ho, q _ H G Z (Same.refl G) rfl⟩
theorem go_xput (hi : S[i]? = some (.own j)) (hM : M[j]? = some (some (D.O kv))) (hv : Ev rs te S M rNat n) (hy : Ev rs ty S M D.Rk k) (hn : look kv k = none) (hl : kv.length < 1000000) (c : Go rs H0 G0 E.nx S (M.set j (some (D.O (kv ++ [(k, n)]))))) :
    Go rs H0 G0 (sXPut P w (tVar i) ty te E) S M := fun H G as σ Z => hv H0 G0 H G as σ Z _ fun v H1 G1 Z1 e1 r1 => by
  obtain ⟨a, _, hσ, ha, _⟩ := Z1.read hi hM
  refine ⟨.ref a, hσ, hy H0 G0 H1 G1 as σ Z1 _ fun y H2 G2 Z2 e2 r2 => ?_⟩
  obtain ⟨ga, o, ho, hO⟩ := Z2.own j a _ ha hM
  obtain ⟨o', hp, hO'⟩ := D.put (n := n) Z2.sub r2 hO ho hn hl
  cases (show v = .int (n : Int) from r1)
  exact ⟨a, _, rfl, hp, c _ G2 as σ (Z2.mut ha hM hO')⟩
def spOr (A B : Sp) : Sp := fun vs H Q E => A vs H Q E ∨ B vs H Q E
theorem ev_callL {A : Type} {sig : A → List SS} {Pre : A → Prop} {R : A → MR α} {f : A → α} {tr : TA} {E : XK} {sp2 : Sp} (a : A) (h : EvA rs tr S M (sig a)) (hp : Pre a) : Ev rs (tCall (spOr (prm sig Pre R f) sp2) [] E tr) S M (R a) (f a) := fun H0 G0 H G as σ Z Q q =>
  h H0 G0 H G as σ Z _ fun vs H1 G1 Z1 e1 r1 => .inl ⟨G1, a, Z1.sub, hp, by rw [List.append_nil]; exact r1, fun v H' ⟨G', h1, h2, h3, h4⟩ => q v H' G' (Z1.step h1 h3.g h2 h3.new) (e1.trans h3.g) h4⟩
theorem ev_callR {A : Type} {sig : A → List SS} {Pre : A → Prop} {R : A → MR α} {f : A → α} {tr : TA} {E : XK} {sp2 : Sp} (a : A) (h : EvA rs tr S M (sig a)) (hp : Pre a) : Ev rs (tCall (spOr sp2 (prm sig Pre R f)) [] E tr) S M (R a) (f a) := fun H0 G0 H G as σ Z Q q =>
  h H0 G0 H G as σ Z _ fun vs H1 G1 Z1 e1 r1 => .inr ⟨G1, a, Z1.sub, hp, by rw [List.append_nil]; exact r1, fun v H' ⟨G', h1, h2, h3, h4⟩ => q v H' G' (Z1.step h1 h3.g h2 h3.new) (e1.trans h3.g) h4⟩
end
end B
namespace B
open PySem L2
section
variable {α β : Type} {rs : RS} {S : Sl} {M : Mo} {R : MR α} {xs : List α} {i j : Nat} {K : PySem.W.Frag}
theorem ev_tupOfO (hi : S[i]? = some (.own j)) (hM : M[j]? = some (some (oList R xs))) : Ev rs (tCB (rTupF K) (tCons (tVar i) tNil)) S M (rTup R) xs := fun H0 G0 H G as σ Z Q q => by
  obtain ⟨a, o, hσ, ha, ho, ga, vs, rfl, r⟩ := Z.read hi hM
  exact ⟨.ref a, hσ, a, vs, rfl, .inl ⟨.inl (.inl ho), fun l hl => by
    obtain ⟨Z2, e2⟩ := Z.new_ (o := .tup vs) hl
    exact q _ _ _ Z2 e2 ⟨l, vs, rfl, upd_same, allR_mono e2 r⟩⟩⟩
end
end B
namespace B
open PySem L2
section
variable {α β γ : Type} {rs : RS} {S : Sl} {M : Mo} {R : MR α} {T : MR β} {U : MR γ} {x : α} {H0 G0 : Hp} {D : Ends} {u : TS} {te : TE} {g : TG} {ts : List Nat} {f : Sl → α → Sl} {K : PySem.W.Frag}
theorem go_asgT (hg : TgOk g R ts f) (he : Ev rs te S M R x) (k : Go rs H0 G0 D.nx (f S x) M) : Go rs H0 G0 (tAsg te g D) S M := fun H G as σ Z =>
  he H0 G0 H G as σ Z _ fun v H' G' Z' e r => hg rs H0 G0 H' G' as M S σ v x _ Z' r fun σ' Z2 _ => k H' G' as σ' Z2
theorem q_asgT (hg : TgOk g R ts f) (he : Ev rs te S M R x) (k : Go rs H0 G0 (u D) (f S x) M) : Go rs H0 G0 (tSeq (tAsg te g) u D) S M := go_asgT (D := { D with nx := u D }) hg he k
theorem q_asgTP {p : α → Prop} (hg : TgOk g R ts f) (he : Ev rs te S M (rSome R p) ()) (k : ∀ x, p x → Go rs H0 G0 (u D) (f S x) M) : Go rs H0 G0 (tSeq (tAsg te g) u D) S M := fun H G as σ Z =>
  he H0 G0 H G as σ Z _ fun v H' G' Z' e ⟨x, hx, r⟩ => hg rs H0 G0 H' G' as M S σ v x _ Z' r fun σ' Z2 _ => k x hx H' G' as σ' Z2
def rTri (R : MR α) (T : MR β) (U : MR γ) : MR (α × β × γ) := ⟨fun G v x => ∃ a u w z, v = .ref a ∧ G a = some (.tup [u, w, z]) ∧ R.rel G u x.1 ∧ T.rel G w x.2.1 ∧ U.rel G z x.2.2, fun e ⟨a, u, w, z, h1, h2, h3, h4, h5⟩ => ⟨a, u, w, z, h1, e _ _ h2, R.mono e h3, T.mono e h4, U.mono e h5⟩⟩
theorem tg_tri (i j l : Nat) : TgOk (gTup K 3 (gCons (gName i) (gCons (gName j) (gCons (gName l) gNil)))) (rTri R T U) [i, j, l] (fun S x => ((S.set i (.is R x.1)).set j (.is T x.2.1)).set l (.is U x.2.2)) := fun rs H0 G0 H G as M S σ v x Q Z ⟨a, u, w, z, ea, ga, r1, r2, r3⟩ q =>
  ⟨a, [u, w, z], ea, .inl (.inl (Z.sub _ _ ga)), rfl, u, [w, z], rfl, w, [z], rfl, z, [], rfl, rfl, q _ (Z.slots (((Z.sat.set (i := i) (s := .is R x.1) (v := some u) ⟨u, rfl, r1⟩).set (i := j) (s := .is T x.2.1) (v := some w) ⟨w, rfl, r2⟩).set (i := l) (s := .is U x.2.2) (v := some z) ⟨z, rfl, r3⟩)) fun vs h => by
    rw [wipe_set (h l (by simp)), wipe_set (h j (by simp)), wipe_set (h i (by simp))]⟩
theorem ev_tri {ta tb tc : TE} {y : β} {z : γ} (ha : Ev rs ta S M R x) (hb : Ev rs tb S M T y) (hc : Ev rs tc S M U z) : Ev rs (tTup (tCons ta (tCons tb (tCons tc tNil)))) S M (rTri R T U) (x, y, z) := fun H0 G0 H G as σ Z Q q =>
  ha H0 G0 H G as σ Z _ fun v H1 G1 Z1 e1 r1 => hb H0 G0 H1 G1 as σ Z1 _ fun w H2 G2 Z2 e2 r2 => hc H0 G0 H2 G2 as σ Z2 _ fun s H3 G3 Z3 e3 r3 => ⟨by show 3 ≤ sizeLine; decide, fun p hp => by
    obtain ⟨Z4, e4⟩ := Z3.new_ (o := .tup [v, w, s]) hp
    exact q _ _ _ Z4 (((e1.trans e2).trans e3).trans e4) ⟨p, v, w, s, rfl, upd_same, R.mono ((e2.trans e3).trans e4) r1, T.mono (e3.trans e4) r2, U.mono e4 r3⟩⟩
theorem ev_tri1 {ta : TE} {p : α × β × γ} (ha : Ev rs ta S M (rTri R T U) p) : Ev rs (tOp (rIxT K) ta (tC (.int 0))) S M R p.1 := fun H0 G0 H G as σ Z Q q =>
  ha H0 G0 H G as σ Z _ fun v H1 G1 Z1 e1 ⟨a, u, w, z, ea, ga, r1, r2, r3⟩ => ⟨a, [u, w, z], 0, u, ea, rfl, .inl (.inl (Z1.sub _ _ ga)), rfl, q _ _ _ Z1 e1 r1⟩
theorem ev_some1 {te : TE} {p : α × β × γ → Prop} {a : α} (h : Ev rs te S M (rSome (rTri R T U) p) ()) (ha : ∀ x, p x → x.1 = a) : Ev rs (tOp (rIxT K) te (tC (.int 0))) S M R a := fun H0 G0 H G as σ Z Q q =>
  h H0 G0 H G as σ Z _ fun v H1 G1 Z1 e1 ⟨x, hx, a', u, w, z, ea, ga, r1, r2, r3⟩ => ⟨a', [u, w, z], 0, u, ea, rfl, .inl (.inl (Z1.sub _ _ ga)), rfl, q _ _ _ Z1 e1 (by rw [← ha x hx]; exact r1)⟩
theorem ev_someP1 {te : TE} {p : α × β → Prop} {q' : α → Prop} (h : Ev rs te S M (rSome (rPr R T) p) ()) (ha : ∀ x, p x → q' x.1) : Ev rs (tOp (rIxT K) te (tC (.int 0))) S M (rSome R q') () := fun H0 G0 H G as σ Z Q q =>
  h H0 G0 H G as σ Z _ fun v H1 G1 Z1 e1 ⟨x, hx, a', u, w, ea, ga, r1, r2⟩ => ⟨a', [u, w], 0, u, ea, rfl, .inl (.inl (Z1.sub _ _ ga)), rfl, q _ _ _ Z1 e1 ⟨x.1, ha x hx, r1⟩⟩
end
end B
namespace B
open PySem L2
theorem q_par3 {rs : RS} {H0 G0 : Hp} {S : Sl} {M M' : Mo} {tr : TA} {u : TS} {D : Ends} {i j l : Nat} {s1 s2 s3 : SS} (h : EvGs rs tr S M M' [s1, s2, s3]) (c : Go rs H0 G0 (u D) (((S.set i s1).set j s2).set l s3) M') : Go rs H0 G0 (tSeq (tPar3 i j l tr) u D) S M := fun H G as σ Z =>
  h H0 G0 H G as σ Z _ fun vs H1 G1 bs Z1 e1 x1 r1 => by
  match vs, r1 with
  | [v, w, z], ⟨r1, r2, r3, _⟩ => exact ⟨v, w, z, rfl, c H1 G1 bs _ (Z1.slots (((Z1.sat.set r1).set r2).set r3))⟩
  | [], h => exact h.elim
  | [_], h => exact h.2.elim
  | [_, _], h => exact h.2.2.elim
  | _ :: _ :: _ :: _ :: _, h => exact h.2.2.2.elim
end B
namespace B
open PySem L2
theorem ev_lenP {α : Type} {rs : RS} {S : Sl} {M : Mo} {R : MR α} {te : TE} {K : PySem.W.Frag} {p : List α → Prop} {n : Nat} (h : Ev rs te S M (rSome (rTup R) p) ()) (hn : ∀ x, p x → x.length = n) : Ev rs (tCB (rLenQ K) (tCons te tNil)) S M rNat n := fun H0 G0 H G as σ Z Q q =>
  h H0 G0 H G as σ Z _ fun v H1 G1 Z1 e1 ⟨x, hx, a, vs, ea, ga, r⟩ => ⟨a, vs, by rw [ea], .inr (.inl (.inl (Z1.sub _ _ ga))), q _ _ _ Z1 e1 (by rw [r.length, hn x hx]; rfl)⟩
end B
namespace B
open PySem L2
def oAt (p : Addr) (O : OS) : OS := ⟨fun a G o => a = p ∧ O.rel a G o, fun e h => ⟨h.1, O.mono e h.2⟩, fun h => O.nt h.2⟩
def rAt (p : Addr) : MR Unit := ⟨fun _ v _ => v = .ref p, fun _ h => h⟩
section
variable {α β : Type} {rs : RS} {S : Sl} {M : Mo} {te ta tb td tv ty tx : TE} {R : MR α} {T : MR β} {K : PySem.W.Frag} {H0 G0 : Hp} {D : Ends} {u : TS} {P : L2.St → Hp → Prop} {i j l n k : Nat} {x d : α} {C p dx q : Addr} {fl : Fl} {f : Str} {kvs : List (Nat × α)}
theorem q_fldNew (cl : Cls K C) (na : NoAttr K C f) (hi : S[i]? = some (.own j)) (hM : M[j]? = some (some (oIns C p dx fl))) (hn : f ∉ fl.map (·.1)) (hl : fl.length < 1000)
    (c : ∀ q, Go rs H0 G0 (u D) S (M.set j (some (oIns C p dx (fl ++ [(f, .is (rAt q) ())]))) ++ [some (oAt q (oDK R []))])) : Go rs H0 G0 (tSeq (sFld K (tVar i) tDNewK f) u D) S M := fun H G as σ Z => by
  refine fun q hq => ?_
  have Z1 := Z.owned (O := oAt q (oDK R [])) (o := .dK []) hq ⟨rfl, [], rfl, .nil⟩
  have hjl := (List.getElem?_eq_some_iff.mp hM).1
  have hM1 : (M ++ [some (oAt q (oDK R []))])[j]? = some (some (oIns C p dx fl)) := by rw [List.getElem?_append_left hjl]; exact hM
  obtain ⟨a, o, hσ, ha, ho, ga, ea, fs, rfl, hr⟩ := Z1.read hi hM1
  refine ⟨.ref a, hσ, a, C, dx, fs, rfl, ho, cl, na, by rw [hr.length]; exact hl, ?_⟩
  have Z2 := Z1.mut ha hM1 (O' := oIns C p dx (fl ++ [(f, .is (rAt q) ())])) (o := .ins C dx (putF f (.ref q) fs)) ⟨ea, _, rfl, flr_put (s := .is (rAt q) ()) (v := .ref q) ⟨.ref q, rfl, rfl⟩ hr hn⟩
  rw [List.set_append_left _ _ hjl] at Z2
  exact c q _ G _ σ Z2
theorem ev_kget2At (hd : Ev rs td S M (rAt q) ()) (hM : M[j]? = some (some (oAt q (oDK R kvs)))) (hy : Ev rs ty S M rNat k) (hz : Ev rs tx S M R d) : Ev rs (tDGet2 td ty tx) S M R ((look kvs k).getD d) := fun H0 G0 H G as σ Z Q qq =>
  hd H0 G0 H G as σ Z _ fun v H1 G1 Z1 e1 ev => by
  have ev : v = .ref q := ev
  subst ev
  have hjl := (List.getElem?_eq_some_iff.mp hM).1
  have ha : as[j]? = some (as[j]'(by rw [Z1.len]; exact hjl)) := List.getElem?_eq_getElem _
  obtain ⟨_, o1, ho1, ea1, es1, rfl, _⟩ := Z1.own j _ _ ha hM
  rw [ea1] at ho1
  refine ⟨q, rfl, .inl ⟨es1, .inl ho1⟩, hy H0 G0 H1 G1 as σ Z1 _ fun w H2 G2 Z2 e2 r2 => hz H0 G0 H2 G2 as σ Z2 _ fun z H3 G3 Z3 e3 r3 => ?_⟩
  obtain ⟨_, o3, ho3, ea3, es3, rfl, hr⟩ := Z3.own j _ _ ha hM
  rw [ea3] at ho3
  refine ⟨valV es3 (encN k), .inl ⟨es3, encN k, .inl ho3, r2, rfl⟩, qq _ H3 G3 Z3 ((e1.trans e2).trans e3) ?_⟩
  cases hl : look kvs k with
  | none =>
    rw [(ent_look encN_inj hr k).1 hl]
    exact r3
  | some x =>
    obtain ⟨w', hw, rw'⟩ := (ent_look encN_inj hr k).2 x hl
    rw [hw]
    exact rw'
theorem go_kputAt (hd : Ev rs td S M (rAt q) ()) (hM : M[j]? = some (some (oAt q (oDK R kvs)))) (hv : Ev rs tv S M R x) (hy : Ev rs ty S M rNat k) (hl : kvs.length < 1000000) (c : Go rs H0 G0 D.nx S (M.set j (some (oAt q (oDK R (put kvs k x)))))) :
    Go rs H0 G0 (sDPut td ty tv D) S M := fun H G as σ Z => hv H0 G0 H G as σ Z _ fun v H1 G1 Z1 e1 r1 => hd H0 G0 H1 G1 as σ Z1 _ fun w H2 G2 Z2 e2 ew => hy H0 G0 H2 G2 as σ Z2 _ fun y H3 G3 Z3 e3 r3 => by
  have ew : w = .ref q := ew
  subst ew
  have hjl := (List.getElem?_eq_some_iff.mp hM).1
  have ha : as[j]? = some (as[j]'(by rw [Z3.len]; exact hjl)) := List.getElem?_eq_getElem _
  obtain ⟨_, o, ho, ea, es, rfl, hr⟩ := Z3.own j _ _ ha hM
  rw [ea] at ho
  have Z4 := Z3.mut ha hM (O' := oAt q (oDK R (put kvs k x))) (o := .dK (putK es (encN k) v)) ⟨ea, _, rfl, ent_put encN_inj hr k (R.mono (e2.trans e3) r1)⟩
  rw [ea] at Z4
  exact ⟨q, _, rfl, .inl ⟨es, encN k, ho, r3, by rw [hr.length]; exact Nat.lt_trans hl (by decide), rfl⟩, c _ G3 as σ Z4⟩
theorem ev_kget2 (hi : S[i]? = some (.own j)) (hM : M[j]? = some (some (oDK R kvs))) (hy : Ev rs ty S M rNat k) (hz : Ev rs tx S M R d) : Ev rs (tDGet2 (tVar i) ty tx) S M R ((look kvs k).getD d) := fun H0 G0 H G as σ Z Q qq => by
  obtain ⟨a, o, hσ, ha, ho, ga, es1, rfl, _⟩ := Z.read hi hM
  refine ⟨.ref a, hσ, a, rfl, .inl ⟨es1, .inl ho⟩, hy H0 G0 H G as σ Z _ fun w H2 G2 Z2 e2 r2 => hz H0 G0 H2 G2 as σ Z2 _ fun z H3 G3 Z3 e3 r3 => ?_⟩
  obtain ⟨_, o3, ho3, es3, rfl, hr⟩ := Z3.own j _ _ ha hM
  refine ⟨valV es3 (encN k), .inl ⟨es3, encN k, .inl ho3, r2, rfl⟩, qq _ H3 G3 Z3 (e2.trans e3) ?_⟩
  cases hl : look kvs k with
  | none =>
    rw [(ent_look encN_inj hr k).1 hl]
    exact r3
  | some x =>
    obtain ⟨w', hw, rw'⟩ := (ent_look encN_inj hr k).2 x hl
    rw [hw]
    exact rw'
theorem flr_last {G : Hp} {s : SS} : ∀ {fs : List (Str × V)} {fl : Fl}, FlR G fs (fl ++ [(f, s)]) → ∃ v, s.ok [] G (some v) ∧ ∀ (G' : Hp) (s' : SS), Same G G' → s'.ok [] G' (some v) → FlR G' fs (fl ++ [(f, s')])
  | [(g, v)], [], h => ⟨v, h.1.2, fun G' s' e hs => ⟨⟨h.1.1, hs⟩, trivial⟩⟩
  | (g, w) :: fs, (g', t) :: fl, h => by
    obtain ⟨v, h1, h2⟩ := flr_last (fs := fs) (fl := fl) h.2
    exact ⟨v, h1, fun G' s' e hs => ⟨⟨h.1.1, SS.ok_mono e h.1.2⟩, h2 G' s' e hs⟩⟩
  | [], [], h => h.elim
  | [], _ :: _, h => h.elim
  | _ :: _ :: _, [], h => h.2.elim
theorem go_frzFld (hM : M[j]? = some (some (oIns C p dx (fl ++ [(f, .is (rAt q) ())])))) (hM2 : M[l]? = some (some (oAt q (oDK R kvs)))) (hne : j ≠ l) (c : Go rs H0 G0 P S ((M.set l none).set j (some (oIns C p dx (fl ++ [(f, .is (rDK R) kvs)]))))) : Go rs H0 G0 P S M := fun H G as σ Z => by
  have hll := (List.getElem?_eq_some_iff.mp hM2).1
  have ha2 : as[l]? = some (as[l]'(by rw [Z.len]; exact hll)) := List.getElem?_eq_getElem _
  obtain ⟨o, ho, ⟨ea2, es, rfl, hr⟩, Z1, e1⟩ := Z.freeze ha2 hM2
  have hjl := (List.getElem?_eq_some_iff.mp hM).1
  have ha : as[j]? = some (as[j]'(by rw [Z.len]; exact hjl)) := List.getElem?_eq_getElem _
  have hM1 : (M.set l none)[j]? = some (some (oIns C p dx (fl ++ [(f, .is (rAt q) ())]))) := by rw [List.getElem?_set_ne (fun e => hne e.symm)]; exact hM
  obtain ⟨_, o1, ho1, ea1, fs, rfl, hr1⟩ := Z1.own j _ _ ha hM1
  obtain ⟨v, ⟨w, ew, hv⟩, hf⟩ := flr_last hr1
  have hv : w = .ref q := hv
  subst hv
  cases ew
  have hG : upd G (as[l]'(by rw [Z.len]; exact hll)) (.dK es) q = some (.dK es) := by rw [ea2]; exact upd_same
  have Z2 := Z1.mut ha hM1 (O' := oIns C p dx (fl ++ [(f, .is (rDK R) kvs)])) (o := .ins C dx fs) ⟨ea1, fs, rfl, hf _ (.is (rDK R) kvs) (Same.refl _) ⟨.ref q, rfl, q, es, rfl, hG, entR_mono e1 hr⟩⟩
  have eH : upd H (as[j]'(by rw [Z.len]; exact hjl)) (.ins C dx fs) = H := by
    funext b
    unfold upd
    by_cases hb : b = as[j]'(by rw [Z.len]; exact hjl)
    · rw [if_pos hb, hb, ho1]
    · rw [if_neg hb]
  rw [eH] at Z2
  exact c H _ as σ Z2
def leN (x y : Nat × Nat) : Prop := x.1 < y.1 ∨ (x.1 = y.1 ∧ x.2 ≤ y.2)
theorem ev_minP {xs : List (Nat × Nat)} {b : Nat × Nat} (ha : Ev rs ta S M (rList (rPr rNat rNat)) xs) (hb : b ∈ xs) (hle : ∀ y ∈ xs, leN b y) : Ev rs (tCB (rMinP K) (tCons ta tNil)) S M (rPr rNat rNat) b := fun H0 G0 H G as σ Z Q q =>
  ha H0 G0 H G as σ Z _ fun v H1 G1 Z1 e1 ⟨a, vs, ea, ga, r⟩ => by
  have hex : ∀ {vs : List V} {xs : List (Nat × Nat)}, AllR (rPr rNat rNat) G1 vs xs → ∃ ts : List Addr, vs = ts.map V.ref ∧ Paired (fun t (p : Int × Int) => SqT K H1 t [.int p.1, .int p.2]) ts (xs.map fun p => ((p.1 : Int), (p.2 : Int))) := fun {vs xs} r => by
    induction r with
    | nil => exact ⟨[], rfl, .nil⟩
    | cons h t ih =>
      obtain ⟨ts, e, hp⟩ := ih
      obtain ⟨t', u, w, e2, g, r1, r2⟩ := h
      refine ⟨t' :: ts, by rw [e2, e]; rfl, .cons ?_ hp⟩
      rw [show u = _ from r1, show w = _ from r2] at g
      exact .inl (.inl (Z1.sub _ _ g))
  obtain ⟨ts, et, hp⟩ := hex r
  subst et
  refine ⟨a, ts, _, by rw [ea], .inl (.inl (Z1.sub _ _ ga)), hp, by rw [List.length_map]; exact List.length_pos_of_mem hb, fun jj t pp ht hpp hall => ?_⟩
  rw [List.getElem?_map] at hpp
  cases hy : xs[jj]? with
  | none =>
    rw [hy] at hpp
    cases hpp
  | some y =>
    rw [hy] at hpp
    cases hpp
    have h1 := hall ((b.1 : Int), (b.2 : Int)) (List.mem_map_of_mem (f := fun p : Nat × Nat => ((p.1 : Int), (p.2 : Int))) hb)
    have h2 := hle y (List.mem_of_getElem? hy)
    have eb : y = b := by
      unfold leP at h1
      unfold leN at h2
      dsimp only at h1
      refine Prod.ext ?_ ?_ <;> omega
    subst eb
    obtain ⟨v', hv', rv⟩ := pr_get r hy
    rw [List.getElem?_map, ht] at hv'
    cases hv'
    exact q _ H1 G1 Z1 e1 rv
theorem ev_cnt0 {pp : Option (α × β) → Prop} {x : α} (h : Ev rs te S M (rSome (rOpt (rPr R T)) pp) ()) (hx : ∀ r, pp r → ∃ y, r = some (x, y)) : Ev rs (tOp (rIxT K) te (tC (.int 0))) S M R x := fun H0 G0 H G as σ Z Q q =>
  h H0 G0 H G as σ Z _ fun v H1 G1 Z1 e1 ⟨r, hr, r1⟩ => by
  obtain ⟨y, rfl⟩ := hx r hr
  obtain ⟨_, a, uu, w, ea, ga, r1, r2⟩ := r1
  exact ⟨a, [uu, w], 0, uu, ea, rfl, .inl (.inl (Z1.sub _ _ ga)), rfl, q _ _ _ Z1 e1 r1⟩
theorem ev_knin' {R : MR α} (hi : S[i]? = some (.own j)) (hM : M[j]? = some (some (oDK R kvs))) (hy : Ev rs ty S M rNat k) : Ev rs (tDNotIn ty (tVar i)) S M rBool (look kvs k).isNone := ev_knin hi hM hy
end
end B
namespace B
open PySem L2
theorem ev_meth {A α : Type} {rs : RS} {S : Sl} {M : Mo} {C : Addr} {m : Str} {sig : A → List SS} {Pre : A → Prop} {R : A → MR α} {f : A → α} {ta : TE} {tr : TA} {E : XK} {fl : Fl} {ss : List SS} (a : A) (hs : sig a = .is (rIns C fl) () :: ss) (hn : fl.lookup m = none) (h : Ev rs ta S M (rIns C fl) ()) (hr : EvA rs tr S M ss) (hp : Pre a) :
    Ev rs (tMeth C m (prm sig Pre R f) [] E ta tr) S M (R a) (f a) := fun H0 G0 H G as σ Z Q q =>
  h H0 G0 H G as σ Z _ fun v H1 G1 Z1 e1 r => by
  obtain ⟨p, dx, fs, ev, g, hf⟩ := id r
  subst ev
  exact ⟨p, dx, fs, rfl, Z1.sub _ _ g, flr_none hf hn, hr H0 G0 H1 G1 as σ Z1 _ fun vs H2 G2 Z2 e2 r2 => ⟨G2, a, Z2.sub, hp, by rw [hs, List.append_nil]; exact ⟨(rIns C fl).mono e2 r, r2⟩, fun v H' ⟨G', h1, h2, h3, h4⟩ => q v H' G' (Z2.step h1 h3.g h2 h3.new) ((e1.trans e2).trans h3.g) h4⟩⟩
end B
namespace B
open PySem L2
section
variable {β : Type} {rs : RS} {S : Sl} {M : Mo} {H0 G0 : Hp} {D : Ends} {t v u : TS} {tt : TT} {b : Bool} {P : L2.St → Hp → Prop} {i n : Nat}
theorem q_ifJ (Sf : β → Sl) (Mf : β → Mo) (I : β → Prop) (h : EvT rs tt S M b) (h1 : b = true → ∀ P, (∀ s, I s → Go rs H0 G0 P (Sf s) (Mf s)) → Go rs H0 G0 (t { D with nx := P }) S M) (h2 : b = false → ∀ P, (∀ s, I s → Go rs H0 G0 P (Sf s) (Mf s)) → Go rs H0 G0 (v { D with nx := P }) S M)
    (k : ∀ s, I s → Go rs H0 G0 (u D) (Sf s) (Mf s)) : Go rs H0 G0 (tSeq (tIfS tt t v) u D) S M := go_if (D := { D with nx := u D }) h (fun hb => h1 hb _ k) fun hb => h2 hb _ k
theorem go_toI (hi : S[i]? = some (.is rNat n)) (k : Go rs H0 G0 P (S.set i (.is rInt (n : Int))) M) : Go rs H0 G0 P S M := fun H G as σ Z => by
  obtain ⟨v, hv, w, rfl, r⟩ := Z.sat.look hi
  have q := Z.sat.set (i := i) (s := .is rInt (n : Int)) (v := some w) ⟨w, rfl, r⟩
  rw [show σ.set i (some w) = σ from List.ext_getElem? fun m => by
    by_cases hm : i = m
    · subst hm
      rw [List.getElem?_set_self (List.getElem?_eq_some_iff.mp hv).1, hv]
    · rw [List.getElem?_set_ne hm]] at q
  exact k H G as σ (Z.slots q)
end
end B
namespace B
open PySem L2
inductive Rn (js : List Nat) : Sl → Sl → Prop
  | nil : Rn js [] []
  | is {α : Type} {R : MR α} {x : α} {S S' : Sl} : Rn js S S' → Rn js (.is R x :: S) (.is R x :: S')
  | no {s : SS} {S S' : Sl} : Rn js S S' → Rn js (s :: S) (.no :: S')
  | own {k j : Nat} {S S' : Sl} (h : js[k]? = some j) : Rn js S S' → Rn js (.own j :: S) (.own k :: S')
theorem Rn.len {js : List Nat} : ∀ {S S' : Sl}, Rn js S S' → S.length = S'.length
  | _, _, .nil => rfl
  | _, _, .is h => congrArg (· + 1) h.len
  | _, _, .no h => congrArg (· + 1) h.len
  | _, _, .own _ h => congrArg (· + 1) h.len
theorem Rn.at {js : List Nat} : ∀ {S S' : Sl}, Rn js S S' → ∀ {i : Nat} {s' : SS}, S'[i]? = some s' → s' = .no ∨ (∃ (k j : Nat), s' = .own k ∧ js[k]? = some j ∧ S[i]? = some (.own j)) ∨ ((∀ k, s' ≠ .own k) ∧ S[i]? = some s')
  | _, _, .nil, i, s', h => by simp at h
  | _, _, .is _, 0, s', h => by
    cases h
    exact .inr (.inr ⟨fun k e => (by cases e), rfl⟩)
  | _, _, .no _, 0, s', h => .inl (Option.some.inj h).symm
  | _, _, .own (k := k) (j := j) e _, 0, s', h => by
    cases h
    exact .inr (.inl ⟨k, j, rfl, e, rfl⟩)
  | _, _, .is r, i + 1, s', h => Rn.at r (i := i) h
  | _, _, .no r, i + 1, s', h => Rn.at r (i := i) h
  | _, _, .own _ r, i + 1, s', h => Rn.at r (i := i) h
theorem Zt.perm {rs : RS} {H0 G0 H G : Hp} {as : List Addr} {M : Mo} {S S' : Sl} {σ : L2.St} (Z : Zt rs H0 G0 H G as M S σ) (js : List Nat) (hn : js.Nodup) (hl : ∀ j ∈ js, j < M.length) (hr : Rn js S S') :
    Zt rs H0 G0 H G (js.map fun j => as.getD j 0) (js.map fun j => M.getD j none) S' σ := by
  have ha : ∀ j ∈ js, as[j]? = some (as.getD j 0) := fun j hj => by
    rw [List.getD_eq_getElem?_getD, List.getElem?_eq_getElem (by rw [Z.len]; exact hl j hj)]
    rfl
  have hM : ∀ j ∈ js, M[j]? = some (M.getD j none) := fun j hj => by
    rw [List.getD_eq_getElem?_getD, List.getElem?_eq_getElem (hl j hj)]
    rfl
  have sub : ∀ a ∈ js.map (fun j => as.getD j 0), a ∈ as := fun a h => by
    obtain ⟨j, hj, rfl⟩ := List.mem_map.mp h
    exact List.mem_of_getElem? (ha j hj)
  refine ⟨Z.h, Z.g, Z.sub, Z.new, by simp, ?_, fun a h => Z.fresh a (sub a h), fun a h => Z.alive a (sub a h), fun k a O h1 h2 => ?_, fun p c e => ?_, hr.len.symm.trans Z.sat.len, fun i s v h1 h2 => ?_⟩
  · have : ∀ l : List Nat, l.Nodup → (∀ j ∈ l, j ∈ js) → (l.map fun j => as.getD j 0).Nodup := by
      intro l
      induction l with
      | nil => intro _ _; exact List.nodup_nil
      | cons x l ih =>
        intro h hs
        have h' := List.nodup_cons.mp h
        rw [List.map_cons, List.nodup_cons]
        refine ⟨fun hm => ?_, ih h'.2 fun j hj => hs j (List.mem_cons_of_mem _ hj)⟩
        obtain ⟨y, hy, e⟩ := List.mem_map.mp hm
        have e1 := ha x (hs x List.mem_cons_self)
        have e2 := ha y (hs y (List.mem_cons_of_mem _ hy))
        rw [← e, ← e2] at e1
        have : x = y := (List.getElem?_inj (List.getElem?_eq_some_iff.mp (ha x (hs x List.mem_cons_self))).1 Z.nd).mp e1
        rw [this] at h'
        exact h'.1 hy
    exact this js hn fun j hj => hj
  · rw [List.getElem?_map] at h1 h2
    cases hk : js[k]? with
    | none =>
      rw [hk] at h1
      cases h1
    | some j =>
      rw [hk] at h1 h2
      have hj := List.mem_of_getElem? hk
      have e1 : as.getD j 0 = a := Option.some.inj h1
      have e2 : M.getD j none = some O := Option.some.inj h2
      exact Z.own j a O (by rw [ha j hj, e1]) (by rw [hM j hj, e2])
  · obtain ⟨r1, r2, r3, r⟩ := Z.rsok p c e
    exact ⟨r1, fun h => r2 (sub _ h), fun h => r3 (sub _ h), r⟩
  · rcases hr.at h1 with e | ⟨k, j, e, hk, hs⟩ | ⟨hne, hs⟩
    · subst e
      trivial
    · subst e
      obtain ⟨a, h3, h4⟩ := Z.sat.at_ i _ v hs h2
      have hj := List.mem_of_getElem? hk
      refine ⟨a, ?_, h4⟩
      rw [List.getElem?_map, hk]
      show some (as.getD j 0) = some a
      rw [← ha j hj, h3]
    · have h3 := Z.sat.at_ i s v hs h2
      cases s with
      | no => exact h3
      | is R x => exact h3
      | own k => exact absurd rfl (hne k)
theorem go_perm {rs : RS} {H0 G0 : Hp} {P : L2.St → Hp → Prop} {S : Sl} {M : Mo} {S' : Sl} (js : List Nat) (hn : js.Nodup) (hl : ∀ j ∈ js, j < M.length) (hr : Rn js S S') (k : Go rs H0 G0 P S' (js.map fun j => M.getD j none)) : Go rs H0 G0 P S M := fun H G as σ Z => k H G _ σ (Z.perm js hn hl hr)
section
variable {α : Type} {rs : RS} {S : Sl} {M : Mo} {R : MR α} {xs : List α} {i j : Nat} {K : PySem.W.Frag}
theorem ev_neNilO {d : α → PyData} {n : Nat} (h : Dat R d n) (hn : n ≤ 63) (hi : S[i]? = some (.own j)) (hM : M[j]? = some (some (oList R xs))) : Ev rs (tOp (rNeD K) (tVar i) (tLst tNil)) S M rBool (!xs.isEmpty) := fun H0 G0 H G as σ Z Q q => by
  obtain ⟨a, o, hσ, ha, ho, ga, vs, rfl, r⟩ := Z.read hi hM
  have hd := dat_list h
  refine ⟨.ref a, hσ, ⟨by show 0 ≤ sizeLine; exact Nat.zero_le _, fun p hp => ?_⟩⟩
  obtain ⟨Z2, e2⟩ := Z.new_ (o := .lst []) hp
  have hpa : a ≠ p := ne_of_none ho hp
  refine ⟨.list (xs.map d), .list [], .lst (.inl (.inl (by rw [upd_ne hpa]; exact ho))) (datAll h (Z.sub.trans (same_new hp)) r), .lst (.inl (.inl upd_same)) .nil, ?_, ?_, q _ _ _ Z2 e2 ?_⟩
  · exact shaped_of hd (by omega) xs
  · decide
  · show rBool.rel _ _ _
    cases xs with
    | nil => rfl
    | cons x xs => rfl
end
end B
namespace B
section
variable {κ β : Type} [DecidableEq κ]
theorem put_keys (kv : List (κ × β)) (k : κ) (x : β) : (put kv k x).map (·.1) = if k ∈ kv.map (·.1) then kv.map (·.1) else kv.map (·.1) ++ [k] := by
  unfold put
  rw [look_any]
  by_cases h : (look kv k).isSome = true
  · rw [if_pos h, if_pos (look_isSome.mp h), List.map_map]
    refine List.map_congr_left fun e _ => ?_
    show (if e.1 = k then (e.1, x) else e).1 = e.1
    split <;> rfl
  · rw [if_neg h, if_neg fun q => h (look_isSome.mpr q), List.map_append]
    rfl
theorem put_nodup {kv : List (κ × β)} (h : (kv.map (·.1)).Nodup) (k : κ) (x : β) : ((put kv k x).map (·.1)).Nodup := by
  rw [put_keys]
  split
  · exact h
  · next hn =>
    rw [List.nodup_append]
    exact ⟨h, by simp, fun a ha c hc => by
      rw [List.mem_singleton] at hc
      rw [hc]
      exact fun e => hn (e ▸ ha)⟩
theorem put_mem {kv : List (κ × β)} {k : κ} {x : β} {y : κ} (h : y ∈ (put kv k x).map (·.1)) : y ∈ kv.map (·.1) ∨ y = k := by
  rw [put_keys] at h
  split at h
  · exact .inl h
  · rcases List.mem_append.mp h with q | q
    · exact .inl q
    · exact .inr (List.mem_singleton.mp q)
theorem look_at {kv : List (κ × β)} (hn : (kv.map (·.1)).Nodup) {e : κ × β} (h : e ∈ kv) : look kv e.1 = some e.2 := by
  induction kv with
  | nil => cases h
  | cons x kv ih =>
    rw [List.map_cons, List.nodup_cons] at hn
    rw [look_cons]
    rcases List.mem_cons.mp h with rfl | h
    · rw [if_pos rfl]
    · have : ¬ x.1 = e.1 := fun z => hn.1 (by rw [z]; exact List.mem_map_of_mem h)
      rw [if_neg this]
      exact ih hn.2 h
theorem wsum_map {kv : List (κ × Nat)} (hn : (kv.map (·.1)).Nodup) {k : κ} {x c : Nat} (h : look kv k = some x) (f : κ → Nat) : ((kv.map fun e => if e.1 = k then (e.1, x + c) else e).map fun e => e.2 * f e.1).sum = (kv.map fun e => e.2 * f e.1).sum + c * f k := by
  induction kv with
  | nil => cases h
  | cons y kv ih =>
    rw [List.map_cons, List.nodup_cons] at hn
    rw [look_cons] at h
    simp only [List.map_cons, List.sum_cons]
    by_cases hy : y.1 = k
    · rw [if_pos hy] at h
      cases h
      have hno : (kv.map fun e => if e.1 = k then (e.1, y.2 + c) else e) = kv := by
        have : (kv.map fun e => if e.1 = k then (e.1, y.2 + c) else e) = kv.map id := List.map_congr_left fun e he => if_neg fun z => hn.1 (by rw [hy, ← z]; exact List.mem_map_of_mem he)
        rw [this, List.map_id]
      rw [hno, if_pos hy]
      show (y.2 + c) * f y.1 + _ = _
      rw [hy, Nat.add_mul]
      omega
    · rw [if_neg hy] at h
      rw [if_neg hy, ih hn.2 h]
      omega
theorem wsum_put {kv : List (κ × Nat)} (hn : (kv.map (·.1)).Nodup) (k : κ) (c : Nat) (f : κ → Nat) : ((put kv k ((look kv k).getD 0 + c)).map fun e => e.2 * f e.1).sum = (kv.map fun e => e.2 * f e.1).sum + c * f k := by
  cases h : look kv k with
  | none =>
    rw [put_new _ h, List.map_append, List.sum_append]
    show _ + ((0 + c) * f k + 0) = _
    rw [Nat.zero_add, Nat.add_zero]
  | some x =>
    have hs : (look kv k).isSome = true := by rw [h]; rfl
    unfold put
    rw [look_any, if_pos hs]
    exact wsum_map hn h f
end
end B
namespace B
open PySem L2
section
variable {α : Type} {rs : RS} {S : Sl} {M : Mo} {R : MR α} {K : PySem.W.Frag} {te : TE} {g : TG} {t u : TS} {H0 G0 : Hp} {D : Ends} {ts : List Nat} {f : Sl → α → Sl}
theorem go_forS {σt : Type} {p : List α → Prop} (Sf : σt → Sl) (Mf : σt → Mo) (I : List α → Nat → σt → Prop) (s0 : σt) (hi : Ev rs te S M (rSome (rList R) p) ()) (hg : TgOk g R ts f)
    (h0 : ∀ xs, p xs → I xs 0 s0) (hS : Wk S (Sf s0)) (hM : M = Mf s0)
    (hb : ∀ xs, p xs → ∀ G1, Bs H0 G0 G1 → ∀ i s x, xs[i]? = some x → I xs i s → Go rs H0 G1 (t { D with nx := fun σ H => ∃ s', I xs (i + 1) s' ∧ ∃ G as, Zt rs H0 G1 H G as (Mf s') (Sf s') σ, ct := fun σ H => ∃ s', I xs (i + 1) s' ∧ ∃ G as, Zt rs H0 G1 H G as (Mf s') (Sf s') σ, bk := D.nx }) (f (Sf s) x) (Mf s))
    (hd : ∀ xs, p xs → ∀ s, I xs xs.length s → Go rs H0 G0 D.nx (Sf s) (Mf s)) : Go rs H0 G0 (tFor (iList K te) g t D) S M := fun H G as σ Z => by
  subst hM
  refine hi H0 G0 H G as σ Z _ fun v H1 G1 Z1 e1 ⟨xs, hp, a, vs, ea, ga, r⟩ => ?_
  refine ⟨a, ea, ⟨vs, .inl (.inl (Z1.sub _ _ ga))⟩, ?_⟩
  have bs1 := Z1.bs
  have yld : ∀ i H' G' (v : V) H'' x, Same G1 G' → Same G' H' → xs[i]? = some x → (Itl K a).yld i H' v H'' → H'' = H' ∧ R.rel G' v x := fun i H' G' v H'' x s1 s2 hx ⟨e, hv⟩ => by
    obtain ⟨u, hu, ru⟩ := pr_get r hx
    have := hv vs (.inl (.inl (s2 _ _ (s1 _ _ ga))))
    rw [hu] at this
    cases this
    exact ⟨e, R.mono s1 ru⟩
  refine ⟨fun i m σ H => m = xs.length - i ∧ i ≤ xs.length ∧ ∃ s, I xs i s ∧ ∃ G as, Zt rs H0 G1 H G as (Mf s) (Sf s) σ, ⟨xs.length, by omega, Nat.zero_le _, s0, h0 xs hp, G1, as, (Z1.slots (Z1.sat.wk hS)).rebase bs1 (Same.refl G1)⟩, ?_⟩
  rintro i m σ' H' ⟨rfl, hle, s, hI, G', as', Z'⟩
  by_cases hlt : i < xs.length
  · refine .inr ⟨⟨vs, vs[i]'(by rw [r.length]; exact hlt), .inl (.inl ((Z'.g.trans Z'.sub) _ _ ga)), List.getElem?_eq_getElem _⟩, fun σ H => ∃ s', I xs (i + 1) s' ∧ ∃ G as, Zt rs H0 G1 H G as (Mf s') (Sf s') σ, fun σ2 H2 ⟨s', hI', G2, as2, Z2⟩ => ⟨xs.length - (i + 1), by omega, rfl, by omega, s', hI', G2, as2, Z2⟩, fun v H'' hy => ?_⟩
    have hx : xs[i]? = some xs[i] := List.getElem?_eq_getElem hlt
    obtain ⟨rfl, r'⟩ := yld i H' G' v H'' xs[i] Z'.g Z'.sub hx hy
    exact hg rs H0 G1 _ G' as' (Mf s) (Sf s) σ' v xs[i] _ Z' r' fun σ2 Z2 _ => hb xs hp G1 bs1 i s xs[i] hx hI _ G' as' σ2 Z2
  · have e : i = xs.length := by omega
    subst e
    exact .inl ⟨⟨vs, .inl (.inl ((Z'.g.trans Z'.sub) _ _ ga)), by rw [r.length]; exact Nat.le_refl _⟩, hd xs hp s hI H' G' as' σ' (Z'.unbase bs1)⟩
theorem q_forS {σt : Type} {p : List α → Prop} (Sf : σt → Sl) (Mf : σt → Mo) (I : List α → Nat → σt → Prop) (s0 : σt) (hi : Ev rs te S M (rSome (rList R) p) ()) (hg : TgOk g R ts f)
    (h0 : ∀ xs, p xs → I xs 0 s0) (hS : Wk S (Sf s0)) (hM : M = Mf s0)
    (hb : ∀ xs, p xs → ∀ G1, Bs H0 G0 G1 → ∀ i s x, xs[i]? = some x → I xs i s → Go rs H0 G1 (t { D with nx := fun σ H => ∃ s', I xs (i + 1) s' ∧ ∃ G as, Zt rs H0 G1 H G as (Mf s') (Sf s') σ, ct := fun σ H => ∃ s', I xs (i + 1) s' ∧ ∃ G as, Zt rs H0 G1 H G as (Mf s') (Sf s') σ, bk := u D }) (f (Sf s) x) (Mf s))
    (hd : ∀ xs, p xs → ∀ s, I xs xs.length s → Go rs H0 G0 (u D) (Sf s) (Mf s)) : Go rs H0 G0 (tSeq (tFor (iList K te) g t) u D) S M := go_forS (D := { D with nx := u D }) Sf Mf I s0 hi hg h0 hS hM hb hd
end
end B
namespace B
open PySem L2
def RsHp (H G : Hp) (h c : Addr) : Prop := h ≠ c ∧ G h = none ∧ G c = none ∧ ∃ (st ix : Int) (cells : List Int), 0 ≤ ix ∧ cells.length ≤ 63 ∧ H h = some (.lst [.int st, .ref c, .int ix]) ∧ H c = some (.lst (cells.map V.int))
def hid (H : Hp) (h c : Addr) : Hp := fun b => if b = h ∨ b = c then none else H b
theorem hid_some {H : Hp} {h c b : Addr} {o : HO} (e : hid H h c b = some o) : H b = some o ∧ b ≠ h ∧ b ≠ c := by
  unfold hid at e
  by_cases hb : b = h ∨ b = c
  · rw [if_pos hb] at e
    cases e
  · rw [if_neg hb] at e
    exact ⟨e, fun z => hb (.inl z), fun z => hb (.inr z)⟩
theorem hid_of {H : Hp} {h c b : Addr} {o : HO} (e : H b = some o) (h1 : b ≠ h) (h2 : b ≠ c) : hid H h c b = some o := by
  unfold hid
  rw [if_neg (fun z => z.elim h1 h2)]
  exact e
section
variable {α β : Type} {H0 G0 H G H' G' : Hp} {h c : Addr} {as : List Addr} {M : Mo} {S : Sl} {σ : L2.St} {R : MR α} {x : α}
theorem Zt.rsHp (Z : Zt (some (h, c)) H0 G0 H G as M S σ) : RsHp H G h c ∧ h ∉ as ∧ c ∉ as ∧ H0 h = none ∧ H0 c = none := by
  obtain ⟨r1, r2, r3, r4, r5, r6, r7, r⟩ := Z.rsok h c rfl
  exact ⟨⟨r1, r6, r7, r⟩, r2, r3, r4, r5⟩
theorem Zt.stepH (Z : Zt (some (h, c)) H0 G0 H G as M S σ) (s1 : Same (hid H h c) H') (s2 : Same G' H') (b : Bs (hid H h c) G G') (r : RsHp H' G' h c) : Zt (some (h, c)) H0 G0 H' G' as M S σ := by
  obtain ⟨⟨z1, z2, z3, z4⟩, z5, z6, z7, z8⟩ := Z.rsHp
  have keep : ∀ a o, H a = some o → a ≠ h → a ≠ c → H' a = some o := fun a o e h1 h2 => s1 a o (hid_of e h1 h2)
  have ash : ∀ a ∈ as, a ≠ h ∧ a ≠ c := fun a ha => ⟨fun e => z5 (e ▸ ha), fun e => z6 (e ▸ ha)⟩
  have h0h : ∀ a o, H0 a = some o → a ≠ h ∧ a ≠ c := fun a o e => ⟨fun z => (by rw [z, z7] at e; cases e), fun z => (by rw [z, z8] at e; cases e)⟩
  refine ⟨fun a o e => keep a o (Z.h a o e) (h0h a o e).1 (h0h a o e).2, Z.g.trans b.g, s2, fun a h1 h2 => ?_, Z.len, Z.nd, Z.fresh, fun a ha e => ?_, fun j a O h1 h2 => ?_, fun p q e => ?_, ⟨Z.sat.len, fun i s v h1 h2 => SS.ok_mono b.g (Z.sat.at_ i s v h1 h2)⟩⟩
  · by_cases hg : G a = none
    · intro o e
      have n := b.new a hg h2
      exact n o (hid_of (Z.h a o e) (h0h a o e).1 (h0h a o e).2)
    · exact Z.new a h1 hg
  · cases ho : H a with
    | none => exact Z.alive a ha ho
    | some o =>
      rw [keep a o ho (ash a ha).1 (ash a ha).2] at e
      cases e
  · obtain ⟨ga, o, ho, hr⟩ := Z.own j a O h1 h2
    have ham := List.mem_of_getElem? h1
    refine ⟨Classical.byContradiction fun hn => ?_, o, keep a o ho (ash a ham).1 (ash a ham).2, O.mono b.g hr⟩
    obtain ⟨xs, e⟩ := b.new a ga hn o (hid_of ho (ash a ham).1 (ash a ham).2)
    exact O.nt hr xs e
  · cases e
    obtain ⟨r1, r2, r3, r4⟩ := r
    exact ⟨r1, z5, z6, z7, z8, r2, r3, r4⟩
def RetH (H0 G0 : Hp) (h c : Addr) (R : MR α) (Post : α → Prop) (v : V) (H' : Hp) : Prop := ∃ x G', Post x ∧ Same H0 H' ∧ Same G' H' ∧ Bs H0 G0 G' ∧ RsHp H' G' h c ∧ R.rel G' v x
def prmH {A β : Type} (sig : A → List SS) (Pre : A → Prop) (R : MR β) (Post : A → β → Prop) : Sp := fun vs H Q _ => ∃ (G : Hp) (h c : Addr) (a : A) (ws : List V), vs = .ref h :: ws ∧ RsHp H G h c ∧ Same G H ∧ Pre a ∧ ArgsOk G ws (sig a) ∧ ∀ v H', RetH (hid H h c) G h c R (Post a) v H' → Q v H'
theorem prmH_len {A β : Type} {sig : A → List SS} {Pre : A → Prop} {R : MR β} {Post : A → β → Prop} {ps : List Str} (hn : ∀ a, (sig a).length + 1 = ps.length) {vs : List V} {H : Hp} {Q : VK} {E : XK} (h : prmH sig Pre R Post vs H Q E) : vs.length = ps.length := by
  obtain ⟨G, h, c, a, ws, rfl, _, _, _, ha, _⟩ := h
  rw [List.length_cons, argsOk_len ha, hn]
theorem ev_callH {A β : Type} {sig : A → List SS} {Pre : A → Prop} {R : MR β} {Post : A → β → Prop} {tr : TA} {E : XK} {i : Nat} (a : A) (hi : S[i]? = some (.is (rAt h) ())) (hr : EvA (some (h, c)) tr S M (sig a)) (hp : Pre a) :
    Ev (some (h, c)) (tCall (prmH sig Pre R Post) [] E (tCons (tVar i) tr)) S M (rSome R (Post a)) () := fun H0 G0 H G as σ Z Q q => by
  obtain ⟨v, hv, w, rfl, e⟩ := Z.sat.look hi
  have e : w = .ref h := e
  subst e
  refine ⟨.ref h, hv, hr H0 G0 H G as σ Z _ fun vs H1 G1 Z1 e1 r1 => ⟨G1, h, c, a, vs, by rw [List.append_nil], Z1.rsHp.1, Z1.sub, hp, r1, fun v H' ⟨x, G', hx, h1, h2, h3, h4, h5⟩ => ?_⟩⟩
  exact q v H' G' (Z1.stepH h1 h2 h3 h4) (e1.trans h3.g) ⟨x, hx, h5⟩
end
end B
namespace B
open PySem L2
section
variable {α β : Type} {S : Sl} {M : Mo} {R : MR α} {x : α} {te : TE} {D : Ends}
theorem sat_startH {G : Hp} {h : Addr} {vs : List V} {ss : List SS} {N : List Str} (ha : ArgsOk G vs ss) : Sat [] G (.is (rAt h) () :: (ss ++ List.replicate (N.length - (ss.length + 1)) .no)) (L2.start N (.ref h :: vs)) := by
  have := sat_start (N := N) (vs := .ref h :: vs) (ss := .is (rAt h) () :: ss) (G := G) ⟨rfl, ha⟩
  exact this
theorem go_startH {A β : Type} {sig : A → List SS} {Pre : A → Prop} {R : MR β} {Post : A → β → Prop} {N : List Str} {vs : List V} {H : Hp} {Q : VK} {E : XK} {P : L2.St → Hp → Prop} (hh : prmH sig Pre R Post vs H Q E)
    (k : ∀ (a : A) (h c : Addr) (H0 G0 : Hp), Pre a → (∀ v H', RetH H0 G0 h c R (Post a) v H' → Q v H') → Go (some (h, c)) H0 G0 P (.is (rAt h) () :: (sig a ++ List.replicate (N.length - ((sig a).length + 1)) .no)) []) : P (L2.start N vs) H := by
  obtain ⟨G, h, c, a, ws, rfl, hr, hs, hp, ha, q⟩ := hh
  obtain ⟨r1, r2, r3, r4⟩ := id hr
  have e1 : Same G (hid H h c) := fun b o e => hid_of (hs b o e) (fun z => by rw [z, r2] at e; cases e) (fun z => by rw [z, r3] at e; cases e)
  refine k a h c (hid H h c) G hp q H G [] _ ⟨fun b o e => (hid_some e).1, Same.refl G, hs, fun b h1 h2 => absurd h1 h2, rfl, List.nodup_nil, fun b hb => (List.not_mem_nil hb).elim, fun b hb => (List.not_mem_nil hb).elim, fun j b O hb => by simp at hb, fun p q' e => ?_, sat_startH ha⟩
  cases e
  exact ⟨r1, by simp, by simp, by unfold hid; rw [if_pos (.inl rfl)], by unfold hid; rw [if_pos (.inr rfl)], r2, r3, r4⟩
theorem go_retH {H0 G0 : Hp} {h c : Addr} {Post : α → Prop} (hq : ∀ v H', RetH H0 G0 h c R Post v H' → D.rt v H') (he : Ev (some (h, c)) te S M (rSome R Post) ()) : Go (some (h, c)) H0 G0 (tRet te D) S M := fun H G as σ Z =>
  he H0 G0 H G as σ Z _ fun v H' G' Z' e ⟨x, hx, r⟩ => hq v H' ⟨x, G', hx, Z'.h, Z'.sub, Z'.bs, Z'.rsHp.1, r⟩
end
end B
namespace B
open PySem L2
section
variable {α β γ δ : Type} {rs : RS} {S : Sl} {M : Mo} {te ta tb : TE} {tt tu : TT} {R : MR α} {T : MR β} {U : MR γ} {x : α} {y : β} {p : α → Prop} {K : PySem.W.Frag} {H0 G0 : Hp} {D : Ends} {t u v : TS} {P : L2.St → Hp → Prop} {i j n : Nat} {b : Bool} {h c : Addr}
theorem ev_imp {q : α → Prop} (h : Ev rs te S M (rSome R p) ()) (hq : ∀ x, p x → q x) : Ev rs te S M (rSome R q) () := ev_rel h fun G v ⟨x, hx, r⟩ => ⟨x, hq x hx, r⟩
theorem ev_opS {r : R2} {pb : β → Prop} {q : γ → Prop} (z : β → γ) (ho : ∀ y, pb y → Op2 r R T U x y (z y)) (ha : Ev rs ta S M R x) (hb : Ev rs tb S M (rSome T pb) ()) (hq : ∀ y, pb y → q (z y)) : Ev rs (tOp r ta tb) S M (rSome U q) () := fun H0 G0 H G as σ Z Q k =>
  ha H0 G0 H G as σ Z _ fun v H1 G1 Z1 e1 r1 => hb H0 G0 H1 G1 as σ Z1 _ fun w H2 G2 Z2 e2 ⟨y, hy, r2⟩ => ho y hy G2 v w (R.mono e2 r1) r2 H2 Q Z2.sub fun u ru => k u H2 G2 Z2 (e1.trans e2) ⟨_, hq y hy, ru⟩
theorem ev_opL {r : R2} {q : γ → Prop} (z : α → γ) (ho : ∀ x, p x → Op2 r R T U x y (z x)) (ha : Ev rs ta S M (rSome R p) ()) (hb : Ev rs tb S M T y) (hq : ∀ x, p x → q (z x)) : Ev rs (tOp r ta tb) S M (rSome U q) () := fun H0 G0 H G as σ Z Q k =>
  ha H0 G0 H G as σ Z _ fun v H1 G1 Z1 e1 ⟨x, hx, r1⟩ => hb H0 G0 H1 G1 as σ Z1 _ fun w H2 G2 Z2 e2 r2 => ho x hx G2 v w (R.mono e2 r1) r2 H2 Q Z2.sub fun u ru => k u H2 G2 Z2 (e1.trans e2) ⟨_, hq x hx, ru⟩
theorem ev_addS {k : Nat} {pb q : Nat → Prop} (ha : Ev rs ta S M rNat k) (hb : Ev rs tb S M (rSome rNat pb) ()) (hq : ∀ y, pb y → q (k + y)) : Ev rs (tOp (rI0 fun i j => .int (i + j)) ta tb) S M (rSome rNat q) () :=
  ev_opS (U := rNat) (fun y => k + y) (fun y hy G v w h1 h2 H Q _ q => ⟨k, y, h1, h2, q _ (show V.int _ = V.int _ from congrArg V.int (by omega))⟩) ha hb hq
theorem ev_ixLS {xs : List α} (ha : Ev rs ta S M (rList R) xs) (hb : Ev rs tb S M (rSome rNat fun k => k < xs.length) ()) : Ev rs (tOp (rIxL K) ta tb) S M (rSome R (· ∈ xs)) () := fun H0 G0 H G as σ Z Q k =>
  ha H0 G0 H G as σ Z _ fun v H1 G1 Z1 e1 r1 => hb H0 G0 H1 G1 as σ Z1 _ fun w H2 G2 Z2 e2 ⟨n, hn, r2⟩ => by
  obtain ⟨a, vs, ev, ga, r⟩ := (rList R).mono e2 r1
  obtain ⟨u, hu, ru⟩ := pr_get r (List.getElem?_eq_getElem hn)
  exact ⟨a, vs, n, u, ev, r2, .inl (.inl (Z2.sub _ _ ga)), atI_nat hu, k u H2 G2 Z2 (e1.trans e2) ⟨_, List.getElem_mem hn, ru⟩⟩
theorem ev_callHS {A : Type} {RA : MR A} {Pre : A → Prop} {R : MR β} {Post : A → β → Prop} {E : XK} {pa : A → Prop} {q : β → Prop} (hi : S[i]? = some (.is (rAt h) ())) (hr : Ev (some (h, c)) te S M (rSome RA pa) ()) (hp : ∀ a, pa a → Pre a) (ht : ∀ a x, pa a → Post a x → q x) :
    Ev (some (h, c)) (tCall (prmH (fun a : A => [.is RA a]) Pre R Post) [] E (tCons (tVar i) (tCons te tNil))) S M (rSome R q) () := fun H0 G0 H G as σ Z Q k => by
  obtain ⟨v, hv, w, rfl, e⟩ := Z.sat.look hi
  have e : w = .ref h := e
  subst e
  refine ⟨.ref h, hv, hr H0 G0 H G as σ Z _ fun v H1 G1 Z1 e1 ⟨a, ha, r1⟩ => ⟨G1, h, c, a, [v], by rw [List.append_nil], Z1.rsHp.1, Z1.sub, hp a ha, ⟨r1, trivial⟩, fun v H' ⟨x, G', hx, h1, h2, h3, h4, h5⟩ => ?_⟩⟩
  exact k v H' G' (Z1.stepH h1 h2 h3 h4) (e1.trans h3.g) ⟨x, ht a x ha hx, h5⟩
theorem ev_callS2 {A B : Type} {RA : MR A} {RB : MR B} {Pre : A × B → Prop} {R : A × B → MR γ} {f : A × B → γ} {E : XK} (a : A) {pb : B → Prop} {q : δ → Prop} {R' : MR δ} (ha : Ev rs ta S M RA a) (hb : Ev rs tb S M (rSome RB pb) ()) (hp : ∀ b, pb b → Pre (a, b)) (hr : ∀ b, pb b → ∀ G v, (R (a, b)).rel G v (f (a, b)) → ∃ y, q y ∧ R'.rel G v y) :
    Ev rs (tCall (prm (fun a : A × B => [.is RA a.1, .is RB a.2]) Pre R f) [] E (tCons ta (tCons tb tNil))) S M (rSome R' q) () := fun H0 G0 H G as σ Z Q k =>
  ha H0 G0 H G as σ Z _ fun v H1 G1 Z1 e1 r1 => hb H0 G0 H1 G1 as σ Z1 _ fun w H2 G2 Z2 e2 ⟨b, hb, r2⟩ => ⟨G2, (a, b), Z2.sub, hp b hb, by rw [List.append_nil]; exact ⟨RA.mono e2 r1, r2, trivial⟩, fun v H' ⟨G', h1, h2, h3, h4⟩ => k v H' G' (Z2.step h1 h3.g h2 h3.new) ((e1.trans e2).trans h3.g) (hr b hb G' v h4)⟩
theorem ev_minS {p : List Nat → Prop} {m : Nat} (ha : Ev rs ta S M (rSome (rList rNat) p) ()) (hm : ∀ xs, p xs → m ∈ xs ∧ ∀ z ∈ xs, m ≤ z) : Ev rs (tCB (rMin K) (tCons ta tNil)) S M rNat m := fun H0 G0 H G as σ Z Q q =>
  ha H0 G0 H G as σ Z _ fun v H1 G1 Z1 e1 ⟨xs, hx, a, vs, ea, ga, r⟩ => by
  obtain ⟨h1, h2⟩ := hm xs hx
  have e : vs = (xs.map fun n : Nat => (n : Int)).map V.int := by
    rw [List.map_map]
    have : ∀ {vs : List V} {xs : List Nat}, AllR rNat G1 vs xs → vs = xs.map (V.int ∘ fun n : Nat => (n : Int)) := fun {vs xs} r => by
      induction r with
      | nil => rfl
      | cons h t ih => rw [ih, show _ = _ from h]; rfl
    exact this r
  subst e
  refine ⟨a, _, by rw [ea], .inl (.inl (Z1.sub _ _ ga)), by rw [List.length_map]; exact List.length_pos_of_mem h1, fun z hz hle => ?_⟩
  obtain ⟨z', hz', rfl⟩ := List.mem_map.mp hz
  have q1 := hle (m : Int) (List.mem_map_of_mem (f := fun n : Nat => (n : Int)) h1)
  have q2 := h2 z' hz'
  have : z' = m := by omega
  subst this
  exact q _ H1 G1 Z1 e1 rfl
theorem go_openS (hi : S[i]? = some (.is (rSome R p) ())) (k : ∀ x, p x → Go rs H0 G0 P (S.set i (.is R x)) M) : Go rs H0 G0 P S M := fun H G as σ Z => by
  obtain ⟨v, hv, w, rfl, x, hx, r⟩ := Z.sat.look hi
  have q := Z.sat.set (i := i) (s := .is R x) (v := some w) ⟨w, rfl, r⟩
  rw [show σ.set i (some w) = σ from List.ext_getElem? fun m => by
    by_cases hm : i = m
    · subst hm
      rw [List.getElem?_set_self (List.getElem?_eq_some_iff.mp hv).1, hv]
    · rw [List.getElem?_set_ne hm]] at q
  exact k x hx H G as σ (Z.slots q)
theorem allR_some {G : Hp} {vs : List V} {us : List Unit} (r : AllR (rSome R p) G vs us) : ∃ xs, xs.length = us.length ∧ (∀ x ∈ xs, p x) ∧ AllR R G vs xs := by
  induction r with
  | nil => exact ⟨[], rfl, (fun x hx => (by cases hx)), .nil⟩
  | cons h t ih =>
    obtain ⟨xs, h1, h2, h3⟩ := ih
    obtain ⟨x, hx, r⟩ := h
    exact ⟨x :: xs, congrArg (· + 1) h1, fun z hz => by
      rcases List.mem_cons.mp hz with rfl | hz
      · exact hx
      · exact h2 z hz, .cons r h3⟩
theorem tup_some {G : Hp} {v : V} {us : List Unit} (r : (rTup (rSome R p)).rel G v us) : ∃ xs, xs.length = us.length ∧ (∀ x ∈ xs, p x) ∧ (rTup R).rel G v xs := by
  obtain ⟨a, vs, e, g, r⟩ := r
  obtain ⟨xs, h1, h2, h3⟩ := allR_some r
  exact ⟨xs, h1, h2, a, vs, e, g, h3⟩
theorem ev_tupS {us : List Unit} (h : Ev rs te S M (rTup (rSome R p)) us) : Ev rs te S M (rSome (rTup R) fun xs => xs.length = us.length ∧ ∀ x ∈ xs, p x) () := ev_rel h fun G v r => by
  obtain ⟨xs, h1, h2, h3⟩ := tup_some r
  exact ⟨xs, ⟨h1, h2⟩, h3⟩
def EvTP (rs : RS) (tt : TT) (S : Sl) (M : Mo) (p : Bool → Prop) : Prop := ∀ H0 G0 H G as σ, Zt rs H0 G0 H G as M S σ → ∀ Q : Bool → Hp → Prop, (∀ b H' G', p b → Zt rs H0 G0 H' G' as M S σ → Same G G' → Q b H') → tt σ H Q
theorem go_ifP {p : Bool → Prop} (h : EvTP rs tt S M p) (h1 : p true → Go rs H0 G0 (t D) S M) (h2 : p false → Go rs H0 G0 (u D) S M) : Go rs H0 G0 (tIfS tt t u D) S M := fun H G as σ Z =>
  h H0 G0 H G as σ Z _ fun b H1 G1 hb Z1 e1 => by
  cases b with
  | true => exact h1 hb H1 G1 as σ Z1
  | false => exact h2 hb H1 G1 as σ Z1
theorem ep_test {p : Bool → Prop} (h : Ev rs te S M (rSome rBool p) ()) : EvTP rs (tTest te) S M p := fun H0 G0 H G as σ Z Q q => h H0 G0 H G as σ Z _ fun v H1 G1 Z1 e1 ⟨b, hb, r1⟩ => ⟨b, r1, q b H1 G1 hb Z1 e1⟩
theorem ep_and {C : Prop} (h : EvT rs tt S M b) (h2 : b = true → EvTP rs tu S M (fun r => r = true → C)) : EvTP rs (tAnd tt tu) S M (fun r => r = true → (b = true ∧ C)) := fun H0 G0 H G as σ Z Q q => h H0 G0 H G as σ Z _ fun H1 G1 Z1 e1 => by
  cases b with
  | true =>
    show tu σ H1 Q
    exact h2 rfl H0 G0 H1 G1 as σ Z1 Q fun b H2 G2 hb Z2 e2 => q b H2 G2 (fun e => ⟨rfl, hb e⟩) Z2 (e1.trans e2)
  | false =>
    show Q false H1
    exact q false H1 G1 (fun e => by cases e) Z1 e1
theorem ep_eqS {p : Nat → Prop} {k : Nat} (ha : Ev rs ta S M (rSome rNat p) ()) (hb : Ev rs tb S M rNat k) : EvTP rs (tTest (tOp rEq ta tb)) S M (fun r => r = true → True) := ep_test (p := fun r => r = true → True) (ev_opL (U := rBool) (fun x : Nat => decide ((x : Int) = (k : Int))) (fun x hx G v w h1 h2 H Q _ q => by
  cases h1
  cases h2
  exact ⟨rfl, q _ (by simp [rBool])⟩) ha hb fun _ _ _ => trivial)
theorem ev_prop {C : Addr} {m : Pm} {f : Pm → α} {Pre : Pm → Prop} {E : XK} (hp : Pre m) (h : Ev rs ta S M (rMach C) m) : Ev rs (tProp C (prm (fun m : Pm => [.is (rMach C) m]) Pre (fun _ => R) f) [] E ta) S M R (f m) := fun H0 G0 H G as σ Z Q q =>
  h H0 G0 H G as σ Z _ fun v H1 G1 Z1 e1 r => by
  obtain ⟨a, dx, t, ea, ga, r'⟩ := id r
  subst ea
  exact ⟨a, dx, _, rfl, Z1.sub _ _ ga, G1, m, Z1.sub, hp, ⟨r, trivial⟩, fun v H' ⟨G', h1, h2, h3, h4⟩ => q v H' G' (Z1.step h1 h3.g h2 h3.new) (e1.trans h3.g) h4⟩
end
end B
namespace B
def sumTo (f : Nat → Nat) : Nat → Nat
  | 0 => 0
  | n + 1 => sumTo f n + f n
def Dies (f : Nat → Nat) : Prop := ∃ N, ∀ k, N ≤ k → f k = 0
open Classical in
noncomputable def fin (f : Nat → Nat) : Option Nat := if h : Dies f then some (sumTo f h.choose) else none
theorem sumTo_past {f : Nat → Nat} {N : Nat} (h : ∀ k, N ≤ k → f k = 0) : ∀ m, sumTo f (N + m) = sumTo f N
  | 0 => rfl
  | m + 1 => by
    show sumTo f (N + m) + f (N + m) = _
    rw [sumTo_past h m, h _ (Nat.le_add_right _ _)]
    rfl
theorem sumTo_same {f : Nat → Nat} {N N' : Nat} (h : ∀ k, N ≤ k → f k = 0) (h' : ∀ k, N' ≤ k → f k = 0) : sumTo f N = sumTo f N' := by
  rcases Nat.le_total N N' with l | l
  · obtain ⟨m, rfl⟩ := Nat.exists_eq_add_of_le l
    exact (sumTo_past h m).symm
  · obtain ⟨m, rfl⟩ := Nat.exists_eq_add_of_le l
    exact sumTo_past h' m
theorem fin_of {f : Nat → Nat} {N : Nat} (h : ∀ k, N ≤ k → f k = 0) : fin f = some (sumTo f N) := by
  have hd : Dies f := ⟨N, h⟩
  unfold fin
  rw [dif_pos hd]
  exact congrArg some (sumTo_same hd.choose_spec h)
theorem fin_none {f : Nat → Nat} : fin f = none ↔ ¬ Dies f := by
  unfold fin
  by_cases h : Dies f
  · rw [dif_pos h]
    simp [h]
  · rw [dif_neg h]
    simp [h]
theorem fin_some {f : Nat → Nat} {c : Nat} (h : fin f = some c) : ∃ N, (∀ k, N ≤ k → f k = 0) ∧ c = sumTo f N := by
  by_cases hd : Dies f
  · obtain ⟨N, hN⟩ := hd
    rw [fin_of hN] at h
    exact ⟨N, hN, (Option.some.inj h).symm⟩
  · rw [fin_none.mpr hd] at h
    cases h
theorem fin_isSome {f : Nat → Nat} : (fin f).isSome = true ↔ Dies f := by
  cases h : fin f with
  | none => simp [fin_none.mp h]
  | some c =>
    obtain ⟨N, hN, _⟩ := fin_some h
    simp only [Option.isSome_some, true_iff]
    exact ⟨N, hN⟩
theorem fin_congr {f g : Nat → Nat} (h : ∀ k, f k = g k) : fin f = fin g := by rw [funext h]

def cnt (m1 m2 : Mc) : Nat → Pr → Nat
  | 0, p => if unl m1 m2 p then 1 else 0
  | k + 1, p => ((goals m1 m2 p).map (cnt m1 m2 k)).sum
noncomputable def tot (m1 m2 : Mc) (p : Pr) : Option Nat := fin fun k => cnt m1 m2 k p
def Rch (m1 m2 : Mc) (p : Pr) : Prop := ∃ k, cnt m1 m2 k p ≠ 0
theorem cnt_succ (m1 m2 : Mc) (k : Nat) (p : Pr) : cnt m1 m2 (k + 1) p = ((goals m1 m2 p).map (cnt m1 m2 k)).sum := rfl
theorem sum_pos {l : List Nat} : l.sum ≠ 0 ↔ ∃ x ∈ l, x ≠ 0 := by
  induction l with
  | nil => simp
  | cons x l ih =>
    rw [List.sum_cons]
    constructor
    · intro h
      by_cases hx : x = 0
      · obtain ⟨y, hy, hy0⟩ := ih.mp (by omega)
        exact ⟨y, List.mem_cons_of_mem _ hy, hy0⟩
      · exact ⟨x, List.mem_cons_self, hx⟩
    · rintro ⟨y, hy, hy0⟩
      rcases List.mem_cons.mp hy with rfl | hy
      · omega
      · have := ih.mpr ⟨y, hy, hy0⟩
        omega
theorem cnt_pos {m1 m2 : Mc} {k : Nat} {p : Pr} : cnt m1 m2 (k + 1) p ≠ 0 ↔ ∃ g ∈ goals m1 m2 p, cnt m1 m2 k g ≠ 0 := by
  rw [cnt_succ, sum_pos]
  constructor
  · rintro ⟨x, hx, h0⟩
    obtain ⟨g, hg, rfl⟩ := List.mem_map.mp hx
    exact ⟨g, hg, h0⟩
  · rintro ⟨g, hg, h0⟩
    exact ⟨_, List.mem_map_of_mem hg, h0⟩
theorem rch_goal {m1 m2 : Mc} {p g : Pr} (hg : g ∈ goals m1 m2 p) (h : Rch m1 m2 g) : Rch m1 m2 p := by
  obtain ⟨k, hk⟩ := h
  exact ⟨k + 1, cnt_pos.mpr ⟨g, hg, hk⟩⟩
theorem rch_unl {m1 m2 : Mc} {p : Pr} (h : unl m1 m2 p = true) : Rch m1 m2 p := ⟨0, by show (if unl m1 m2 p = true then 1 else 0) ≠ 0; rw [if_pos h]; decide⟩
theorem sumTo_add (f g : Nat → Nat) : ∀ n, sumTo (fun k => f k + g k) n = sumTo f n + sumTo g n
  | 0 => rfl
  | n + 1 => by
    show sumTo (fun k => f k + g k) n + (f n + g n) = (sumTo f n + f n) + (sumTo g n + g n)
    rw [sumTo_add f g n]
    omega
theorem sumTo_zero {f : Nat → Nat} (h : ∀ k, f k = 0) : ∀ n, sumTo f n = 0
  | 0 => rfl
  | n + 1 => by
    show sumTo f n + f n = 0
    rw [sumTo_zero h n, h]
theorem sumTo_shift (f : Nat → Nat) : ∀ n, sumTo f (n + 1) = f 0 + sumTo (fun k => f (k + 1)) n
  | 0 => by
    show 0 + f 0 = f 0 + 0
    omega
  | n + 1 => by
    show sumTo f (n + 1) + f (n + 1) = f 0 + (sumTo (fun k => f (k + 1)) n + f (n + 1))
    rw [sumTo_shift f n]
    omega
theorem sumTo_map {α : Type} (f : Nat → α → Nat) (n : Nat) : ∀ l : List α, sumTo (fun k => (l.map (f k)).sum) n = (l.map fun x => sumTo (fun k => f k x) n).sum
  | [] => sumTo_zero (fun _ => rfl) n
  | x :: l => by
    rw [List.map_cons, List.sum_cons, ← sumTo_map f n l, ← sumTo_add]
    rfl
theorem common_bound {α : Type} {f : Nat → α → Nat} : ∀ {l : List α}, (∀ x ∈ l, Dies fun k => f k x) → ∃ N, ∀ x ∈ l, ∀ k, N ≤ k → f k x = 0
  | [], _ => ⟨0, fun x h => (List.not_mem_nil h).elim⟩
  | x :: l, h => by
    obtain ⟨N, hN⟩ := common_bound (l := l) fun y hy => h y (List.mem_cons_of_mem _ hy)
    obtain ⟨N', hN'⟩ := h x List.mem_cons_self
    refine ⟨max N N', fun y hy k hk => ?_⟩
    rcases List.mem_cons.mp hy with rfl | hy
    · exact hN' k (by omega)
    · exact hN y hy k (by omega)
theorem tot_step {m1 m2 : Mc} {p : Pr} (h : ∀ g ∈ goals m1 m2 p, (tot m1 m2 g).isSome = true) : tot m1 m2 p = some ((if unl m1 m2 p then 1 else 0) + ((goals m1 m2 p).map fun g => (tot m1 m2 g).getD 0).sum) := by
  obtain ⟨N, hN⟩ := common_bound (f := fun k g => cnt m1 m2 k g) (l := goals m1 m2 p) fun g hg => fin_isSome.mp (h g hg)
  have hz : ∀ k, N + 1 ≤ k → cnt m1 m2 k p = 0 := fun k hk => by
    obtain ⟨j, rfl⟩ : ∃ j, k = j + 1 := ⟨k - 1, by omega⟩
    refine Classical.byContradiction fun hne => ?_
    obtain ⟨g, hg, hg0⟩ := cnt_pos.mp hne
    exact hg0 (hN g hg j (by omega))
  unfold tot
  rw [fin_of hz, sumTo_shift]
  congr 1
  show _ + sumTo (fun k => ((goals m1 m2 p).map (cnt m1 m2 k)).sum) N = _
  rw [sumTo_map]
  show (if unl m1 m2 p = true then 1 else 0) + _ = _
  congr 1
  congr 1
  refine List.map_congr_left fun g hg => ?_
  rw [fin_of (hN g hg)]
  rfl
theorem tot_goal {m1 m2 : Mc} {p g : Pr} (h : (tot m1 m2 p).isSome = true) (hg : g ∈ goals m1 m2 p) : (tot m1 m2 g).isSome = true := by
  obtain ⟨N, hN⟩ := fin_isSome.mp h
  refine fin_isSome.mpr ⟨N, fun k hk => Classical.byContradiction fun hne => ?_⟩
  exact cnt_pos.mpr ⟨g, hg, hne⟩ (hN (k + 1) (by omega))
theorem tot_zero {m1 m2 : Mc} {p : Pr} (h : ¬ Rch m1 m2 p) : tot m1 m2 p = some 0 := by
  have hz : ∀ k, 0 ≤ k → cnt m1 m2 k p = 0 := fun k _ => Classical.byContradiction fun hne => h ⟨k, hne⟩
  exact fin_of hz
end B
namespace B
def Way (m1 m2 : Mc) : Nat → Pr → Pr → Prop
  | 0, p, q => p = q
  | k + 1, p, q => ∃ g ∈ goals m1 m2 p, Way m1 m2 k g q
section
variable {m1 m2 : Mc}
theorem way_add : ∀ (a : Nat) {b : Nat} {p q : Pr}, Way m1 m2 (a + b) p q ↔ ∃ r, Way m1 m2 a p r ∧ Way m1 m2 b r q
  | 0, b, p, q => by
    rw [Nat.zero_add]
    constructor
    · exact fun h => ⟨p, rfl, h⟩
    · rintro ⟨r, rfl, h⟩
      exact h
  | a + 1, b, p, q => by
    rw [show a + 1 + b = (a + b) + 1 by omega]
    constructor
    · rintro ⟨g, hg, h⟩
      obtain ⟨r, h1, h2⟩ := (way_add a).mp h
      exact ⟨r, ⟨g, hg, h1⟩, h2⟩
    · rintro ⟨r, ⟨g, hg, h1⟩, h2⟩
      exact ⟨g, hg, (way_add a).mpr ⟨r, h1, h2⟩⟩
theorem cnt_way : ∀ {k : Nat} {p : Pr}, cnt m1 m2 k p ≠ 0 ↔ ∃ q, Way m1 m2 k p q ∧ unl m1 m2 q = true
  | 0, p => by
    show (if unl m1 m2 p = true then 1 else 0) ≠ 0 ↔ _
    constructor
    · intro h
      refine ⟨p, rfl, Classical.byContradiction fun hn => h ?_⟩
      rw [if_neg hn]
    · rintro ⟨q, rfl, h⟩
      rw [if_pos h]
      decide
  | k + 1, p => by
    rw [cnt_pos]
    constructor
    · rintro ⟨g, hg, h⟩
      obtain ⟨q, h1, h2⟩ := cnt_way.mp h
      exact ⟨q, ⟨g, hg, h1⟩, h2⟩
    · rintro ⟨q, ⟨g, hg, h1⟩, h2⟩
      exact ⟨g, hg, cnt_way.mpr ⟨q, h1, h2⟩⟩
theorem way_fun : ∀ {k : Nat} {p q : Pr}, Way m1 m2 k p q → ∃ f : Nat → Pr, f 0 = p ∧ f k = q ∧ ∀ i, i < k → f (i + 1) ∈ goals m1 m2 (f i)
  | 0, p, q, h => ⟨fun _ => p, rfl, h, fun i hi => absurd hi (Nat.not_lt_zero i)⟩
  | k + 1, p, q, ⟨g, hg, h⟩ => by
    obtain ⟨f, h0, h1, h2⟩ := way_fun h
    refine ⟨fun i => match i with | 0 => p | i + 1 => f i, rfl, h1, fun i hi => ?_⟩
    cases i with
    | zero =>
      show f 0 ∈ goals m1 m2 p
      rw [h0]
      exact hg
    | succ i => exact h2 i (by omega)
theorem fun_way {f : Nat → Pr} {a : Nat} : ∀ {d : Nat}, (∀ i, a ≤ i → i < a + d → f (i + 1) ∈ goals m1 m2 (f i)) → Way m1 m2 d (f a) (f (a + d))
  | 0, _ => rfl
  | d + 1, h => (way_add d).mpr ⟨f (a + d), fun_way fun i h1 h2 => h i h1 (by omega), ⟨f (a + d + 1), h _ (by omega) (by omega), rfl⟩⟩
theorem twice {α : Type} [DecidableEq α] {l : List α} {f : Nat → α} (h : ∀ i, i ≤ l.length → f i ∈ l) : ∃ i j, i < j ∧ j ≤ l.length ∧ f i = f j := by
  refine Classical.byContradiction fun hn => ?_
  have nd : ((List.range (l.length + 1)).map f).Nodup := by
    rw [List.nodup_iff_pairwise_ne, List.pairwise_map]
    refine List.Pairwise.imp_of_mem ?_ List.pairwise_lt_range
    intro i j hi hj hij e
    rw [List.mem_range] at hi hj
    exact hn ⟨i, j, hij, by omega, e⟩
  have := nodup_le (n := l.length) nd (fun x hx => by
    obtain ⟨i, hi, rfl⟩ := List.mem_map.mp hx
    rw [List.mem_range] at hi
    exact h i (by omega)) (Nat.le_refl _)
  simp at this
  omega
variable {l : List Pr} (hc : ∀ x ∈ l, ∀ g ∈ goals m1 m2 x, g ∈ l)
include hc
theorem loop {k : Nat} {p q : Pr} (hp : p ∈ l) (hk : l.length ≤ k) (h : Way m1 m2 k p q) : ∃ i d r, 0 < d ∧ i + d ≤ l.length ∧ Way m1 m2 i p r ∧ Way m1 m2 d r r ∧ Way m1 m2 (k - (i + d)) r q := by
  obtain ⟨f, h0, h1, h2⟩ := way_fun h
  have hin : ∀ i, i ≤ k → f i ∈ l := by
    intro i
    induction i with
    | zero =>
      intro _
      rw [h0]
      exact hp
    | succ i ih => exact fun hi => hc _ (ih (by omega)) _ (h2 i (by omega))
  obtain ⟨i, j, hij, hj, e⟩ := twice (l := l) (f := f) fun i hi => hin i (by omega)
  obtain ⟨d, rfl⟩ : ∃ d, j = i + d := ⟨j - i, by omega⟩
  refine ⟨i, d, f i, by omega, hj, ?_, ?_, ?_⟩
  · have := fun_way (f := f) (a := 0) (d := i) (m1 := m1) (m2 := m2) fun t _ ht => h2 t (by omega)
    rw [h0, Nat.zero_add] at this
    exact this
  · have := fun_way (f := f) (a := i) (d := d) (m1 := m1) (m2 := m2) fun t _ ht => h2 t (by omega)
    rw [← e] at this
    exact this
  · have := fun_way (f := f) (a := i + d) (d := k - (i + d)) (m1 := m1) (m2 := m2) fun t _ ht => h2 t (by omega)
    rw [show i + d + (k - (i + d)) = k by omega, h1, ← e] at this
    exact this
theorem pump_up {k : Nat} {p : Pr} (hp : p ∈ l) (hk : l.length ≤ k) (h : cnt m1 m2 k p ≠ 0) : ¬ Dies fun k => cnt m1 m2 k p := by
  obtain ⟨q, hw, hu⟩ := cnt_way.mp h
  obtain ⟨i, d, r, hd, hid, w1, w2, w3⟩ := loop hc hp hk hw
  have wt : ∀ t, Way m1 m2 (t * d) r r := by
    intro t
    induction t with
    | zero =>
      rw [Nat.zero_mul]
      exact rfl
    | succ t ih =>
      rw [Nat.succ_mul]
      exact (way_add _).mpr ⟨r, ih, w2⟩
  rintro ⟨N, hN⟩
  have hbig : N ≤ i + (N * d + (k - (i + d))) := by
    have := Nat.le_mul_of_pos_right N hd
    omega
  exact cnt_way.mpr ⟨q, (way_add i).mpr ⟨r, w1, (way_add _).mpr ⟨r, wt N, w3⟩⟩, hu⟩ (hN _ hbig)
theorem pump_down {p : Pr} (hp : p ∈ l) : ∀ (k : Nat), l.length ≤ k → cnt m1 m2 k p ≠ 0 → ∃ k', l.length ≤ k' ∧ k' < 2 * l.length ∧ cnt m1 m2 k' p ≠ 0 := by
  intro k
  induction k using Nat.strongRecOn with
  | _ k ih =>
    intro hk h
    by_cases h2 : k < 2 * l.length
    · exact ⟨k, hk, h2, h⟩
    · obtain ⟨q, hw, hu⟩ := cnt_way.mp h
      obtain ⟨i, d, r, hd, hid, w1, w2, w3⟩ := loop hc hp hk hw
      exact ih (i + (k - (i + d))) (by omega) (by omega) (cnt_way.mpr ⟨q, (way_add i).mpr ⟨r, w1, w3⟩, hu⟩)
theorem dies_at {p : Pr} (hp : p ∈ l) (h : Dies fun k => cnt m1 m2 k p) (k : Nat) (hk : l.length ≤ k) : cnt m1 m2 k p = 0 :=
  Classical.byContradiction fun hne => pump_up hc hp hk hne h
theorem window {p : Pr} (hp : p ∈ l) (h : ∀ k, l.length ≤ k → k < 2 * l.length → cnt m1 m2 k p = 0) (k : Nat) (hk : l.length ≤ k) : cnt m1 m2 k p = 0 :=
  Classical.byContradiction fun hne => by
    obtain ⟨k', h1, h2, h3⟩ := pump_down hc hp k hk hne
    exact h3 (h k' h1 h2)
end
theorem zip_tri {f g h : Pr → Nat} : ∀ {la lb lc : List Nat}, la.length = lb.length → lb.length = lc.length → (∀ a b c, a ∈ la → b ∈ lb → c ∈ lc → h (a, c) ≤ f (a, b) + g (b, c)) → ((la.zip lc).map h).sum ≤ ((la.zip lb).map f).sum + ((lb.zip lc).map g).sum
  | [], [], [], _, _, _ => by simp
  | a :: la, b :: lb, c :: lc, h1, h2, hh => by
    have ih := zip_tri (f := f) (g := g) (h := h) (la := la) (lb := lb) (lc := lc) (by simpa using h1) (by simpa using h2) fun a b c ha hb hc => hh a b c (List.mem_cons_of_mem _ ha) (List.mem_cons_of_mem _ hb) (List.mem_cons_of_mem _ hc)
    have h0 := hh a b c List.mem_cons_self List.mem_cons_self List.mem_cons_self
    simp only [List.zip_cons_cons, List.map_cons, List.sum_cons]
    omega
  | [], _ :: _, _, h1, _, _ => by simp at h1
  | _ :: _, [], _, h1, _, _ => by simp at h1
  | _, [], _ :: _, _, h2, _ => by simp at h2
  | _, _ :: _, [], _, h2, _ => by simp at h2
theorem cnt_tri {L : Nat} {m1 m2 m3 : Mc} (o1 : OkM L m1) (o2 : OkM L m2) (o3 : OkM L m3) : ∀ (k : Nat) {a b c : Nat}, a < m1.1.length → b < m2.1.length → c < m3.1.length → cnt m1 m3 k (a, c) ≤ cnt m1 m2 k (a, b) + cnt m2 m3 k (b, c)
  | 0, a, b, c, _, _, _ => by
    show (if unl m1 m3 (a, c) = true then 1 else 0) ≤ (if unl m1 m2 (a, b) = true then 1 else 0) + (if unl m2 m3 (b, c) = true then 1 else 0)
    unfold unl
    cases decide ((a, c).1 ∈ m1.2) <;> cases decide ((b, c).1 ∈ m2.2) <;> cases decide ((a, c).2 ∈ m3.2) <;> simp_all
  | k + 1, a, b, c, ha, hb, hcc => by
    rw [cnt_succ, cnt_succ, cnt_succ]
    refine zip_tri ?_ ?_ fun x y z hx hy hz => cnt_tri o1 o2 o3 k (o1.row_lt ha hx) (o2.row_lt hb hy) (o3.row_lt hcc hz)
    · rw [o1.row_len ha, o2.row_len hb]
    · rw [o2.row_len hb, o3.row_len hcc]
theorem zip_swap {f g : Pr → Nat} (h : ∀ a b, f (a, b) = g (b, a)) : ∀ la lb : List Nat, ((la.zip lb).map f).sum = ((lb.zip la).map g).sum
  | [], _ => by simp
  | _ :: _, [] => by simp
  | a :: la, b :: lb => by
    simp only [List.zip_cons_cons, List.map_cons, List.sum_cons]
    rw [zip_swap h la lb, h]
theorem cnt_swap {m1 m2 : Mc} : ∀ (k : Nat) (a b : Nat), cnt m1 m2 k (a, b) = cnt m2 m1 k (b, a)
  | 0, a, b => by
    show (if unl m1 m2 (a, b) = true then 1 else 0) = (if unl m2 m1 (b, a) = true then 1 else 0)
    unfold unl
    cases decide (a ∈ m1.2) <;> cases decide (b ∈ m2.2) <;> simp_all
  | k + 1, a, b => zip_swap (cnt_swap k) _ _
theorem zip_self {f : Pr → Nat} (h : ∀ a, f (a, a) = 0) : ∀ la : List Nat, ((la.zip la).map f).sum = 0
  | [] => rfl
  | a :: la => by
    simp only [List.zip_cons_cons, List.map_cons, List.sum_cons]
    rw [h, zip_self h la]
theorem cnt_self {m : Mc} : ∀ (k : Nat) (a : Nat), cnt m m k (a, a) = 0
  | 0, a => by
    show (if unl m m (a, a) = true then 1 else 0) = 0
    unfold unl
    simp
  | k + 1, a => zip_self (cnt_self k) _
def Eqv (m1 m2 : Mc) (a b : Nat) : Prop := ∀ k, cnt m1 m2 k (a, b) = 0
def Fq (m1 m2 : Mc) (a b : Nat) : Prop := Dies fun k => cnt m1 m2 k (a, b)
section
variable {L : Nat} {m1 m2 m3 : Mc} {a b c : Nat}
theorem Eqv.refl (m : Mc) (a : Nat) : Eqv m m a a := fun k => cnt_self k a
theorem Eqv.symm (h : Eqv m1 m2 a b) : Eqv m2 m1 b a := fun k => by rw [cnt_swap]; exact h k
theorem Eqv.trans (o1 : OkM L m1) (o2 : OkM L m2) (o3 : OkM L m3) (ha : a < m1.1.length) (hb : b < m2.1.length) (hc : c < m3.1.length) (h1 : Eqv m1 m2 a b) (h2 : Eqv m2 m3 b c) : Eqv m1 m3 a c := fun k => by
  have := cnt_tri o1 o2 o3 k ha hb hc
  rw [h1 k, h2 k] at this
  omega
theorem Fq.refl (m : Mc) (a : Nat) : Fq m m a a := ⟨0, fun k _ => cnt_self k a⟩
theorem Eqv.fq (h : Eqv m1 m2 a b) : Fq m1 m2 a b := ⟨0, fun k _ => h k⟩
theorem Fq.symm (h : Fq m1 m2 a b) : Fq m2 m1 b a := by
  obtain ⟨N, hN⟩ := h
  exact ⟨N, fun k hk => (cnt_swap k b a).trans (hN k hk)⟩
theorem Fq.trans (o1 : OkM L m1) (o2 : OkM L m2) (o3 : OkM L m3) (ha : a < m1.1.length) (hb : b < m2.1.length) (hc : c < m3.1.length) (h1 : Fq m1 m2 a b) (h2 : Fq m2 m3 b c) : Fq m1 m3 a c := by
  obtain ⟨N, hN⟩ := h1
  obtain ⟨N', hN'⟩ := h2
  refine ⟨max N N', fun k hk => ?_⟩
  have := cnt_tri o1 o2 o3 k ha hb hc
  have e1 : cnt m1 m2 k (a, b) = 0 := hN k (by omega)
  have e2 : cnt m2 m3 k (b, c) = 0 := hN' k (by omega)
  show cnt m1 m3 k (a, c) = 0
  omega
theorem cnt_left (o1 : OkM L m1) (o2 : OkM L m2) (o3 : OkM L m3) (ha : a < m1.1.length) (hb : b < m2.1.length) (hc : c < m3.1.length) (h : Eqv m1 m2 a b) (k : Nat) : cnt m1 m3 k (a, c) = cnt m2 m3 k (b, c) := by
  have h1 := cnt_tri o1 o2 o3 k ha hb hc
  have h2 := cnt_tri o2 o1 o3 k hb ha hc
  rw [h k] at h1
  rw [h.symm k] at h2
  omega
theorem cnt_right (o1 : OkM L m1) (o2 : OkM L m2) (o3 : OkM L m3) (ha : a < m1.1.length) (hb : b < m2.1.length) (hc : c < m3.1.length) (h : Eqv m1 m2 a b) (k : Nat) : cnt m3 m1 k (c, a) = cnt m3 m2 k (c, b) := by
  rw [cnt_swap, cnt_swap k c b]
  exact cnt_left o1 o2 o3 ha hb hc h k
theorem goals_at {k : Nat} {x y : Nat} (hx : (row m1 a)[k]? = some x) (hy : (row m2 b)[k]? = some y) : (x, y) ∈ goals m1 m2 (a, b) := List.mem_of_getElem? (i := k) (List.getElem?_zip_eq_some.mpr ⟨hx, hy⟩)
theorem at_goals {g : Pr} (h : g ∈ goals m1 m2 (a, b)) : ∃ k : Nat, (row m1 a)[k]? = some g.1 ∧ (row m2 b)[k]? = some g.2 := by
  obtain ⟨k, hk⟩ := List.mem_iff_getElem?.mp h
  exact ⟨k, List.getElem?_zip_eq_some.mp hk⟩
theorem Eqv.goal {g : Pr} (h : Eqv m1 m2 a b) (hg : g ∈ goals m1 m2 (a, b)) : Eqv m1 m2 g.1 g.2 := fun k => Classical.byContradiction fun hn => cnt_pos.mpr ⟨g, hg, hn⟩ (h (k + 1))
theorem Fq.goal {g : Pr} (h : Fq m1 m2 a b) (hg : g ∈ goals m1 m2 (a, b)) : Fq m1 m2 g.1 g.2 := by
  obtain ⟨N, hN⟩ := h
  exact ⟨N, fun k hk => Classical.byContradiction fun hn => cnt_pos.mpr ⟨g, hg, hn⟩ (hN (k + 1) (by omega))⟩
theorem Eqv.mark (h : Eqv m1 m2 a b) : (a ∈ m1.2 ↔ b ∈ m2.2) := by
  have h0 : (if unl m1 m2 (a, b) = true then 1 else 0) = 0 := h 0
  unfold unl at h0
  by_cases ha : a ∈ m1.2 <;> by_cases hb : b ∈ m2.2 <;> simp_all
theorem fq_tot : (tot m1 m2 (a, b)).isSome = true ↔ Fq m1 m2 a b := fin_isSome
end
end B
namespace B
theorem sum_flatMap {α β : Type} (f : β → Nat) (g : α → List β) : ∀ l : List α, ((l.flatMap g).map f).sum = (l.map fun x => ((g x).map f).sum).sum
  | [] => rfl
  | x :: l => by
    rw [List.flatMap_cons, List.map_append, List.sum_append, List.map_cons, List.sum_cons, sum_flatMap f g l]
def pends (m1 m2 : Mc) (p : Pr) : Nat → List Pr
  | 0 => [p]
  | k + 1 => (pends m1 m2 p k).flatMap (goals m1 m2)
theorem cnt_pends (m1 m2 : Mc) (p : Pr) : ∀ k j : Nat, cnt m1 m2 (k + j) p = ((pends m1 m2 p k).map (cnt m1 m2 j)).sum
  | 0, j => by
    rw [Nat.zero_add]
    show _ = cnt m1 m2 j p + 0
    omega
  | k + 1, j => by
    rw [show k + 1 + j = k + (j + 1) by omega, cnt_pends m1 m2 p k (j + 1)]
    show _ = (((pends m1 m2 p k).flatMap (goals m1 m2)).map (cnt m1 m2 j)).sum
    rw [sum_flatMap]
    rfl
def ends (m : Mc) : Nat → List Nat
  | 0 => [0]
  | k + 1 => (ends m k).flatMap (row m)
def wt (m : Mc) (k s : Nat) : Nat := (ends m k).count s
theorem zip_diag (l : List Nat) : l.zip l = l.map fun x => (x, x) := by
  induction l with
  | nil => rfl
  | cons x l ih => rw [List.zip_cons_cons, List.map_cons, ih]
theorem ends_pends (m : Mc) (g1 g2 : List Nat) : ∀ k, pends (m.1, g1) (m.1, g2) (0, 0) k = (ends m k).map fun s => (s, s)
  | 0 => rfl
  | k + 1 => by
    show (pends (m.1, g1) (m.1, g2) (0, 0) k).flatMap _ = ((ends m k).flatMap (row m)).map _
    rw [ends_pends m g1 g2 k, List.flatMap_map, List.map_flatMap]
    congr 1
    funext s
    exact zip_diag _
theorem count_sum (s : Nat) : ∀ l : List Nat, l.count s = (l.map fun x => if x = s then 1 else 0).sum
  | [] => rfl
  | x :: l => by
    rw [List.count_cons, List.map_cons, List.sum_cons, count_sum s l]
    by_cases h : x = s
    · rw [if_pos h, if_pos (by simp [h])]
      omega
    · rw [if_neg h, if_neg (by simpa using h)]
      omega
theorem wt_cnt (m : Mc) (k s : Nat) : wt m k s = cnt (m.1, [s]) (m.1, []) k (0, 0) := by
  have h := cnt_pends (m.1, [s]) (m.1, []) (0, 0) k 0
  rw [Nat.add_zero] at h
  rw [h, ends_pends, List.map_map]
  unfold wt
  rw [count_sum]
  congr 1
  refine List.map_congr_left fun x _ => ?_
  show _ = if unl (m.1, [s]) (m.1, []) (x, x) = true then 1 else 0
  unfold unl
  simp
theorem ends_lt {L : Nat} {m : Mc} (o : OkM L m) : ∀ k, ∀ s ∈ ends m k, s < m.1.length
  | 0, s, h => by
    rw [List.mem_singleton.mp h]
    exact o.pos
  | k + 1, s, h => by
    obtain ⟨r, hr, hs⟩ := List.mem_flatMap.mp h
    exact o.row_lt (ends_lt o k r hr) hs
theorem sum_count {n : Nat} (f : Nat → Nat) : ∀ l : List Nat, (∀ x ∈ l, x < n) → (l.map f).sum = ((List.range n).map fun s => l.count s * f s).sum
  | [], _ => by
    have : ((List.range n).map fun s => List.count s [] * f s) = (List.range n).map fun _ => 0 := List.map_congr_left fun s _ => by rw [List.count_nil, Nat.zero_mul]
    rw [this, List.map_const', List.sum_replicate_nat, Nat.mul_zero]
    rfl
  | x :: l, h => by
    rw [List.map_cons, List.sum_cons, sum_count f l fun y hy => h y (List.mem_cons_of_mem _ hy)]
    have hx := h x List.mem_cons_self
    have : ∀ k : List Nat, k.Nodup → ((k.map fun s => (x :: l).count s * f s)).sum = (if x ∈ k then f x else 0) + (k.map fun s => l.count s * f s).sum := by
      intro k
      induction k with
      | nil => intro _; rfl
      | cons y k ih =>
        intro hn
        have hn' := List.nodup_cons.mp hn
        rw [List.map_cons, List.sum_cons, List.map_cons, List.sum_cons, ih hn'.2, List.count_cons]
        by_cases hy : x = y
        · subst hy
          rw [if_pos (by simp), if_neg hn'.1, if_pos List.mem_cons_self, Nat.add_mul]
          omega
        · rw [if_neg (by simpa using hy), Nat.add_zero]
          have : (x ∈ y :: k) ↔ x ∈ k := by
            rw [List.mem_cons]
            exact ⟨fun h => h.resolve_left hy, .inr⟩
          by_cases hk : x ∈ k
          · rw [if_pos hk, if_pos (this.mpr hk)]
            omega
          · rw [if_neg hk, if_neg (fun h => hk (this.mp h))]
            omega
    rw [this _ List.nodup_range, if_pos (List.mem_range.mpr hx)]
theorem diag_closed {L : Nat} {m : Mc} (o : OkM L m) (g1 g2 : List Nat) : ∀ x ∈ (List.range m.1.length).map (fun s => (s, s)), ∀ g ∈ goals (m.1, g1) (m.1, g2) x, g ∈ (List.range m.1.length).map fun s => (s, s) := by
  intro x hx g hg
  obtain ⟨s, hs, rfl⟩ := List.mem_map.mp hx
  have hg : g ∈ (row m s).zip (row m s) := hg
  rw [zip_diag] at hg
  obtain ⟨t, ht, rfl⟩ := List.mem_map.mp hg
  exact List.mem_map_of_mem (List.mem_range.mpr (o.row_lt (List.mem_range.mp hs) ht))
theorem wt_window {L : Nat} {m : Mc} (o : OkM L m) {s : Nat} (h : ∀ k, m.1.length ≤ k → k < 2 * m.1.length → wt m k s = 0) (k : Nat) (hk : m.1.length ≤ k) : wt m k s = 0 := by
  rw [wt_cnt]
  have hl : ((List.range m.1.length).map fun s => (s, s)).length = m.1.length := by simp
  refine window (diag_closed o [s] []) (List.mem_map_of_mem (List.mem_range.mpr o.pos)) (fun k h1 h2 => ?_) k (by rw [hl]; exact hk)
  rw [hl] at h1 h2
  rw [← wt_cnt]
  exact h k h1 h2
theorem wt_dies {L : Nat} {m : Mc} (o : OkM L m) {s : Nat} (h : Dies fun k => wt m k s) (k : Nat) (hk : m.1.length ≤ k) : wt m k s = 0 := by
  rw [wt_cnt]
  have hl : ((List.range m.1.length).map fun s => (s, s)).length = m.1.length := by simp
  refine dies_at (diag_closed o [s] []) (List.mem_map_of_mem (List.mem_range.mpr o.pos)) ?_ k (by rw [hl]; exact hk)
  obtain ⟨N, hN⟩ := h
  exact ⟨N, fun k hk => by
    have := hN k hk
    show cnt (m.1, [s]) (m.1, []) k (0, 0) = 0
    rw [← wt_cnt]
    exact this⟩
section
variable {α : Type} [DecidableEq α]
def bfsRows (nx : α → List α) (LN : List α) : List (List Nat) := LN.map fun c => (nx c).map fun g => LN.idxOf g
theorem bfsRows_len (nx : α → List α) (LN : List α) : (bfsRows nx LN).length = LN.length := by simp [bfsRows]
theorem bfsRows_row {nx : α → List α} {LN : List α} {g : List Nat} {k : Nat} {c : α} (h : LN[k]? = some c) : row (bfsRows nx LN, g) k = (nx c).map fun g => LN.idxOf g := by
  unfold row bfsRows
  rw [List.getD_eq_getElem?_getD, List.getElem?_map, h]
  rfl
theorem idx_lt {LN : List α} {x : α} (h : x ∈ LN) : LN.idxOf x < LN.length := List.idxOf_lt_length_of_mem h
theorem idx_at {LN : List α} {x : α} (h : x ∈ LN) : LN[LN.idxOf x]? = some x := by
  rw [List.getElem?_eq_getElem (idx_lt h), List.getElem_idxOf]
theorem at_idx {LN : List α} (hn : LN.Nodup) {k : Nat} {x : α} (h : LN[k]? = some x) : LN.idxOf x = k := by
  obtain ⟨hk, rfl⟩ := List.getElem?_eq_some_iff.mp h
  exact List.Nodup.idxOf_getElem hn k hk
theorem idx_app {l more : List α} {x : α} (h : x ∈ l) : (l ++ more).idxOf x = l.idxOf x := by
  rw [List.idxOf_append, if_pos h]
end
open Classical in
noncomputable def eqB (m : Mc) (a b : Nat) : Bool := decide (Eqv m m a b)
theorem eqB_iff {m : Mc} {a b : Nat} : eqB m a b = true ↔ Eqv m m a b := by
  unfold eqB
  exact @decide_eq_true_iff _ (Classical.propDecidable _)
noncomputable def canon (m : Mc) (s : Nat) : Nat := ((List.range m.1.length).find? fun t => eqB m t s).getD 0
noncomputable def lnx (m : Mc) (c : Nat) : List Nat := (row m c).map (canon m)
noncomputable def lnL (m : Mc) : List Nat := bfs (lnx m) 65 [canon m 0] 0
noncomputable def leastM (m : Mc) : Mc := (bfsRows (lnx m) (lnL m), (List.range' 0 (lnL m).length).filter fun k => decide ((lnL m).getD k 0 ∈ m.2))
section
variable {L : Nat} {m : Mc} (o : OkM L m)
include o
theorem canon_spec {s : Nat} (h : s < m.1.length) : canon m s < m.1.length ∧ Eqv m m (canon m s) s := by
  unfold canon
  cases hf : (List.range m.1.length).find? (fun t => eqB m t s) with
  | none =>
    have := List.find?_eq_none.mp hf s (List.mem_range.mpr h)
    exact absurd (eqB_iff.mpr (Eqv.refl m s)) this
  | some t =>
    exact ⟨List.mem_range.mp (List.mem_of_find?_eq_some hf), eqB_iff.mp (List.find?_some (p := fun t => eqB m t s) hf)⟩
theorem canon_congr {a b : Nat} (ha : a < m.1.length) (hb : b < m.1.length) : canon m a = canon m b ↔ Eqv m m a b := by
  obtain ⟨ca, ea⟩ := canon_spec o ha
  obtain ⟨cb, eb⟩ := canon_spec o hb
  constructor
  · intro h
    rw [h] at ea
    exact Eqv.trans o o o ha cb hb ea.symm eb
  · intro h
    unfold canon
    congr 1
    have : ∀ l : List Nat, (∀ t ∈ l, t < m.1.length) → l.find? (fun t => eqB m t a) = l.find? (fun t => eqB m t b) := by
      intro l
      induction l with
      | nil => intro _; rfl
      | cons t l ih =>
        intro hl
        have ht := hl t List.mem_cons_self
        have : eqB m t a = eqB m t b := by
          rw [Bool.eq_iff_iff, eqB_iff, eqB_iff]
          exact ⟨fun q => Eqv.trans o o o ht ha hb q h, fun q => Eqv.trans o o o ht hb ha q h.symm⟩
        rw [List.find?_cons, List.find?_cons, this, ih fun t ht => hl t (List.mem_cons_of_mem _ ht)]
    exact this _ fun t ht => List.mem_range.mp ht
theorem canon_idem {s : Nat} (h : s < m.1.length) : canon m (canon m s) = canon m s := (canon_congr o (canon_spec o h).1 h).mpr (canon_spec o h).2
theorem lnL_spec : BfsR (lnx m) [canon m 0] (lnL m) :=
  bfs_spec (V := fun s => s < m.1.length) (B := 64) (fun x hx g hg => by
    obtain ⟨t, ht, rfl⟩ := List.mem_map.mp hg
    exact (canon_spec o (o.row_lt hx ht)).1) (fun l h1 h2 => nodup_le h1 (all := List.range m.1.length) (fun x hx => List.mem_range.mpr (h2 x hx)) (by
    have := o.le8
    simp
    omega)) 65 _ 0 (by simp) (fun x hx => by
    rw [List.mem_singleton.mp hx]
    exact (canon_spec o o.pos).1) (fun i x hi => absurd hi (Nat.not_lt_zero i)) (by omega)
theorem lnL_can {c : Nat} (h : c ∈ lnL m) : c < m.1.length ∧ canon m c = c :=
  (lnL_spec o).ind (fun c => c < m.1.length ∧ canon m c = c) (fun x hx => by
    rw [List.mem_singleton.mp hx]
    exact ⟨(canon_spec o o.pos).1, canon_idem o o.pos⟩) (fun x hx g hg => by
    obtain ⟨t, ht, rfl⟩ := List.mem_map.mp hg
    have := o.row_lt hx.1 ht
    exact ⟨(canon_spec o this).1, canon_idem o this⟩) c h
theorem lnL_len : (lnL m).length ≤ 8 := nodup_le (lnL_spec o).nd (all := List.range m.1.length) (fun x hx => List.mem_range.mpr (lnL_can o hx).1) (by
  have := o.le8
  simp
  omega)
theorem lnL_pos : 0 < (lnL m).length := by
  have := (lnL_spec o).sub _ (List.mem_singleton.mpr rfl)
  exact List.length_pos_of_mem this
theorem lnL_zero : (lnL m)[0]? = some (canon m 0) := by
  obtain ⟨more, h⟩ := (lnL_spec o).pre
  rw [h]
  rfl
theorem least_len : (leastM m).1.length = (lnL m).length := bfsRows_len _ _
theorem least_ok : OkM L (leastM m) := by
  refine ⟨?_, ?_, ?_, ?_⟩
  · rw [least_len o]
    exact lnL_pos o
  · rw [least_len o]
    exact lnL_len o
  · intro r hr
    obtain ⟨c, hc, rfl⟩ := List.mem_map.mp hr
    rw [List.length_map]
    unfold lnx
    rw [List.length_map, o.row_len (lnL_can o hc).1]
  · intro r hr g hg
    obtain ⟨c, hc, rfl⟩ := List.mem_map.mp hr
    obtain ⟨d, hd, rfl⟩ := List.mem_map.mp hg
    rw [least_len o]
    exact idx_lt ((lnL_spec o).cl c hc d hd)
theorem least_good : OkG (leastM m).1.length (leastM m).2 := by
  refine ⟨?_, fun x hx => ?_⟩
  · exact List.Pairwise.filter _ (List.pairwise_lt_range' (s := 0) (n := (lnL m).length))
  · have := (List.mem_filter.mp hx).1
    rw [least_len o]
    rw [List.mem_range'_1] at this
    omega
theorem least_mark {k c : Nat} (h : (lnL m)[k]? = some c) : k ∈ (leastM m).2 ↔ c ∈ m.2 := by
  have hk := (List.getElem?_eq_some_iff.mp h).1
  show k ∈ (List.range' 0 (lnL m).length).filter _ ↔ _
  rw [List.mem_filter, List.mem_range'_1, decide_eq_true_iff, List.getD_eq_getElem?_getD, h]
  exact ⟨fun q => q.2, fun q => ⟨⟨Nat.zero_le _, by omega⟩, q⟩⟩
theorem least_row {k c : Nat} (h : (lnL m)[k]? = some c) : row (leastM m) k = (row m c).map fun g => (lnL m).idxOf (canon m g) := by
  show row (bfsRows (lnx m) (lnL m), _) k = _
  rw [bfsRows_row h]
  unfold lnx
  rw [List.map_map]
  rfl
theorem zip_map_self (f : Nat → Nat) (l : List Nat) : (l.map f).zip l = l.map fun g => (f g, g) := by
  induction l with
  | nil => rfl
  | cons x l ih => rw [List.map_cons, List.zip_cons_cons, List.map_cons, ih]
theorem least_eqv {k c : Nat} (h : (lnL m)[k]? = some c) : Eqv (leastM m) m k c := by
  have sp := lnL_spec o
  intro j
  induction j generalizing k c with
  | zero =>
    have := least_mark o h
    show (if unl (leastM m) m (k, c) = true then 1 else 0) = 0
    unfold unl
    by_cases hc : c ∈ m.2
    · simp [hc, this.mpr hc]
    · have hk : k ∉ (leastM m).2 := fun q => hc (this.mp q)
      simp [hc, hk]
  | succ j ih =>
    have hc := lnL_can o (List.mem_of_getElem? h)
    rw [cnt_succ]
    show (((row (leastM m) k).zip (row m c)).map _).sum = 0
    rw [least_row o h, zip_map_self o, List.map_map]
    have : ∀ g ∈ row m c, (cnt (leastM m) m j ∘ fun g => ((lnL m).idxOf (canon m g), g)) g = 0 := fun g hg => by
      have hgl := o.row_lt hc.1 hg
      obtain ⟨c1, c2⟩ := canon_spec o hgl
      have hm : canon m g ∈ lnL m := sp.cl c (List.mem_of_getElem? h) _ (List.mem_map_of_mem hg)
      show cnt (leastM m) m j ((lnL m).idxOf (canon m g), g) = 0
      rw [← cnt_right o o (least_ok o) c1 hgl (by rw [least_len o]; exact idx_lt hm) c2 j]
      exact ih (idx_at hm)
    exact Nat.eq_zero_of_not_pos fun hp => by
      obtain ⟨x, hx, hx0⟩ := sum_pos.mp (Nat.ne_of_gt hp)
      obtain ⟨g, hg, rfl⟩ := List.mem_map.mp hx
      exact hx0 (this g hg)
theorem least_min {a b : Nat} (ha : a < (leastM m).1.length) (hb : b < (leastM m).1.length) (h : Eqv (leastM m) (leastM m) a b) : a = b := by
  have lo := least_ok o
  rw [least_len o] at ha hb
  have h1 : (lnL m)[a]? = some (lnL m)[a] := List.getElem?_eq_getElem ha
  have h2 : (lnL m)[b]? = some (lnL m)[b] := List.getElem?_eq_getElem hb
  obtain ⟨c1, e1⟩ := lnL_can o (List.mem_of_getElem? h1)
  obtain ⟨c2, e2⟩ := lnL_can o (List.mem_of_getElem? h2)
  have ha' : a < (leastM m).1.length := by rw [least_len o]; exact ha
  have hb' : b < (leastM m).1.length := by rw [least_len o]; exact hb
  have h3 : Eqv m m (lnL m)[a] (lnL m)[b] := Eqv.trans o lo o c1 ha' c2 (least_eqv o h1).symm (Eqv.trans lo lo o ha' hb' c2 h (least_eqv o h2))
  have h4 := (canon_congr o c1 c2).mpr h3
  rw [e1, e2] at h4
  rw [← at_idx (lnL_spec o).nd h1, ← at_idx (lnL_spec o).nd h2, h4]
theorem least_zero : Eqv (leastM m) m 0 0 := by
  have h := least_eqv o (lnL_zero o)
  obtain ⟨c1, e1⟩ := canon_spec o o.pos
  exact Eqv.trans (least_ok o) o o (by rw [least_len o]; exact lnL_pos o) c1 o.pos h e1
theorem least_reach {k : Nat} (hk : k < (leastM m).1.length) : ∃ j, k ∈ ends (leastM m) j := by
  have sp := lnL_spec o
  have main : ∀ c ∈ lnL m, ∃ j, (lnL m).idxOf c ∈ ends (leastM m) j := by
    intro c hc
    have := sp.ind (fun c => c ∈ lnL m ∧ ∃ j, (lnL m).idxOf c ∈ ends (leastM m) j) (fun x hx => by
      rw [List.mem_singleton.mp hx]
      refine ⟨sp.sub _ (List.mem_singleton.mpr rfl), 0, ?_⟩
      rw [at_idx sp.nd (lnL_zero o)]
      exact List.mem_singleton.mpr rfl) (fun x ⟨hx, j, hj⟩ g hg => ⟨sp.cl x hx g hg, j + 1, List.mem_flatMap.mpr ⟨_, hj, by
      rw [least_row o (idx_at hx)]
      obtain ⟨t, ht, rfl⟩ := List.mem_map.mp hg
      exact List.mem_map_of_mem ht⟩⟩) c hc
    exact this.2
  rw [least_len o] at hk
  obtain ⟨j, hj⟩ := main _ (List.getElem_mem hk)
  exact ⟨j, by rw [List.Nodup.idxOf_getElem sp.nd k hk] at hj; exact hj⟩
end
end B
namespace B
open PySem
def Kern (M : Mc) (s : Nat) : Prop := ¬ Dies fun k => wt M k s
theorem wt_mem {M : Mc} {k s : Nat} : wt M k s ≠ 0 ↔ s ∈ ends M k := by
  unfold wt
  rw [← List.count_pos_iff]
  omega
theorem kern_iff {M : Mc} {s : Nat} : Kern M s ↔ ∀ N, ∃ k, N ≤ k ∧ s ∈ ends M k := by
  unfold Kern Dies
  constructor
  · intro h N
    refine Classical.byContradiction fun hn => h ⟨N, fun k hk => Classical.byContradiction fun h0 => hn ⟨k, hk, wt_mem.mp h0⟩⟩
  · rintro h ⟨N, hN⟩
    obtain ⟨k, hk, hs⟩ := h N
    exact wt_mem.mpr hs (hN k hk)
theorem kern_goal {M : Mc} {s g : Nat} (h : Kern M s) (hg : g ∈ row M s) : Kern M g := by
  rw [kern_iff] at h ⊢
  intro N
  obtain ⟨k, hk, hs⟩ := h N
  exact ⟨k + 1, by omega, List.mem_flatMap.mpr ⟨s, hs, hg⟩⟩
structure Kd (L : Nat) (M : Mc) (kd : Nat → Nat) : Prop where
  ok : OkM L M
  iff : ∀ a b, a < M.1.length → b < M.1.length → (kd a = kd b ↔ Fq M M a b)
def KK (M : Mc) (kd : Nat → Nat) (c : Nat) : Prop := ∃ t, t < M.1.length ∧ Kern M t ∧ kd t = c
section
variable {L : Nat} {M : Mc} {kd : Nat → Nat} (C : Kd L M kd)
include C
theorem Kd.goal {s t g g' a : Nat} (hs : s < M.1.length) (ht : t < M.1.length) (h : kd s = kd t) (hg : (row M s)[a]? = some g) (hg' : (row M t)[a]? = some g') : kd g = kd g' :=
  (C.iff g g' (C.ok.row_lt hs (List.mem_of_getElem? hg)) (C.ok.row_lt ht (List.mem_of_getElem? hg'))).mpr (Fq.goal ((C.iff s t hs ht).mp h) (goals_at hg hg'))
theorem Kd.letter {s t g a : Nat} (hs : s < M.1.length) (ht : t < M.1.length) (hg : (row M s)[a]? = some g) : ∃ g', (row M t)[a]? = some g' := by
  have h1 := (List.getElem?_eq_some_iff.mp hg).1
  rw [C.ok.row_len hs] at h1
  exact ⟨_, List.getElem?_eq_getElem (by rw [C.ok.row_len ht]; exact h1)⟩
theorem Kd.kk_goal {s g a : Nat} (hs : s < M.1.length) (h : KK M kd (kd s)) (hg : (row M s)[a]? = some g) : KK M kd (kd g) := by
  obtain ⟨t, ht, hk, e⟩ := h
  obtain ⟨g', hg'⟩ := C.letter hs ht hg
  exact ⟨g', C.ok.row_lt ht (List.mem_of_getElem? hg'), kern_goal hk (List.mem_of_getElem? hg'), C.goal ht hs e hg' hg⟩
end
abbrev Nd := Str × Nat
abbrev kn (s : Nat) : Nd := ("kernel", s)
abbrev er (c : Nat) : Nd := ("early", c)
theorem kn_er {s c : Nat} : kn s ≠ er c := fun h => by
  have : ("kernel" : Str) = "early" := congrArg Prod.fst h
  exact absurd this (by decide)
structure Fit (L : Nat) (M : Mc) (kd : Nat → Nat) (X : Mc) (ν : Nat → Nd) : Prop where
  ok : OkM L X
  inj : ∀ x y, x < X.1.length → y < X.1.length → ν x = ν y → x = y
  kern : ∀ x t, x < X.1.length → ν x = kn t → t < M.1.length ∧ Kern M t ∧ (t ∈ M.2 ↔ x ∈ X.2) ∧ ∀ (a g y : Nat), (row M t)[a]? = some g → (row X x)[a]? = some y → ν y = kn g
  early : ∀ x c, x < X.1.length → ν x = er c → ¬ KK M kd c ∧ ∀ (s a g y : Nat), s < M.1.length → kd s = c → (row M s)[a]? = some g → (row X x)[a]? = some y → (KK M kd (kd g) → ∃ t, ν y = kn t ∧ kd t = kd g) ∧ (¬ KK M kd (kd g) → ν y = er (kd g))
  zero : (KK M kd (kd 0) → ∃ t, ν 0 = kn t ∧ kd t = kd 0) ∧ (¬ KK M kd (kd 0) → ν 0 = er (kd 0))
section
variable {L : Nat} {M : Mc} {kd : Nat → Nat} {X : Mc} {ν : Nat → Nd}
theorem Fit.eqv (C : Kd L M kd) (F : Fit L M kd X ν) {x t : Nat} (hx : x < X.1.length) (h : ν x = kn t) : Eqv M X t x := by
  intro k
  induction k generalizing x t with
  | zero =>
    have := (F.kern x t hx h).2.2.1
    show (if unl M X (t, x) = true then 1 else 0) = 0
    unfold unl
    by_cases ht : t ∈ M.2
    · simp [ht, this.mp ht]
    · have hx' : x ∉ X.2 := fun q => ht (this.mpr q)
      simp [ht, hx']
  | succ k ih =>
    refine Classical.byContradiction fun hn => ?_
    obtain ⟨g, hg, h0⟩ := cnt_pos.mp hn
    obtain ⟨a, h1, h2⟩ := at_goals hg
    exact h0 (ih (F.ok.row_lt hx (List.mem_of_getElem? h2)) ((F.kern x t hx h).2.2.2 a _ _ h1 h2))
theorem Fit.kk_fq (C : Kd L M kd) (F : Fit L M kd X ν) {g y t : Nat} (hg : g < M.1.length) (hy : y < X.1.length) (h : ν y = kn t) (e : kd t = kd g) : Fq M X g y := by
  have ht := (F.kern y t hy h).1
  exact Fq.trans C.ok C.ok F.ok hg ht hy ((C.iff g t hg ht).mp e.symm) (F.eqv C hy h).fq
theorem Fit.at (C : Kd L M kd) (F : Fit L M kd X ν) : ∀ (k s : Nat), s ∈ ends M k → ¬ KK M kd (kd s) → ∃ x, x < X.1.length ∧ ν x = er (kd s)
  | 0, s, hs, h => by
    rw [List.mem_singleton.mp hs] at h ⊢
    exact ⟨0, F.ok.pos, F.zero.2 h⟩
  | k + 1, s, hs, h => by
    obtain ⟨r, hr, hg⟩ := List.mem_flatMap.mp hs
    have hrl := ends_lt C.ok k r hr
    obtain ⟨a, ha⟩ := List.mem_iff_getElem?.mp hg
    have hr' : ¬ KK M kd (kd r) := fun q => h (C.kk_goal hrl q ha)
    obtain ⟨x, hx, hν⟩ := Fit.at C F k r hr hr'
    have hal := (List.getElem?_eq_some_iff.mp ha).1
    rw [C.ok.row_len hrl] at hal
    have hy : (row X x)[a]? = some ((row X x)[a]'(by rw [F.ok.row_len hx]; exact hal)) := List.getElem?_eq_getElem _
    exact ⟨_, F.ok.row_lt hx (List.mem_of_getElem? hy), ((F.early x _ hx hν).2 r a s _ hrl rfl ha hy).2 h⟩
open Classical in
theorem early_end (C : Kd L M kd) : ∃ N, ∀ k, N ≤ k → ∀ s ∈ ends M k, KK M kd (kd s) := by
  obtain ⟨N, hN⟩ := common_bound (f := fun k s => if KK M kd (kd s) then 0 else wt M k s) (l := List.range M.1.length) fun s hs => by
    by_cases h : KK M kd (kd s)
    · exact ⟨0, fun k _ => if_pos h⟩
    · have : Dies fun k => wt M k s := Classical.byContradiction fun q => h ⟨s, List.mem_range.mp hs, q, rfl⟩
      obtain ⟨N, hN⟩ := this
      exact ⟨N, fun k hk => (if_neg h).trans (hN k hk)⟩
  refine ⟨N, fun k hk s hs => Classical.byContradiction fun h => ?_⟩
  have := hN s (List.mem_range.mpr (ends_lt C.ok k s hs)) k hk
  rw [if_neg h] at this
  exact wt_mem.mpr hs this
theorem Fit.at2 (C : Kd L M kd) (F : Fit L M kd X ν) : ∀ (k : Nat) (p : Pr), p ∈ pends M X (0, 0) k → p.1 < M.1.length ∧ p.2 < X.1.length ∧ p.1 ∈ ends M k ∧ (¬ KK M kd (kd p.1) → ν p.2 = er (kd p.1))
  | 0, p, hp => by
    rw [List.mem_singleton.mp hp]
    exact ⟨C.ok.pos, F.ok.pos, List.mem_singleton.mpr rfl, F.zero.2⟩
  | k + 1, g, hg => by
    obtain ⟨p, hp, hgp⟩ := List.mem_flatMap.mp hg
    obtain ⟨h1, h2, h3, h4⟩ := Fit.at2 C F k p hp
    obtain ⟨a, ha, hb⟩ := at_goals (a := p.1) (b := p.2) hgp
    refine ⟨C.ok.row_lt h1 (List.mem_of_getElem? ha), F.ok.row_lt h2 (List.mem_of_getElem? hb), List.mem_flatMap.mpr ⟨_, h3, List.mem_of_getElem? ha⟩, fun hn => ?_⟩
    have hr' : ¬ KK M kd (kd p.1) := fun q => hn (C.kk_goal h1 q ha)
    exact ((F.early _ _ h2 (h4 hr')).2 p.1 a _ _ h1 rfl ha hb).2 hn
theorem Fit.fin (C : Kd L M kd) (F : Fit L M kd X ν) {N : Nat} (hN : ∀ k, N ≤ k → ∀ s ∈ ends M k, KK M kd (kd s)) : ∀ (d k : Nat) (p : Pr), N ≤ k + d → p ∈ pends M X (0, 0) k → ¬ KK M kd (kd p.1) → (tot M X p).isSome = true
  | 0, k, p, hd, hp, hk => absurd (hN k hd _ (Fit.at2 C F k p hp).2.2.1) hk
  | d + 1, k, p, hd, hp, hk => by
    obtain ⟨h1, h2, h3, h4⟩ := Fit.at2 C F k p hp
    rw [tot_step]
    · rfl
    · intro g hg
      obtain ⟨a, ha, hb⟩ := at_goals (a := p.1) (b := p.2) hg
      by_cases hgk : KK M kd (kd g.1)
      · obtain ⟨t, ht, e⟩ := ((F.early _ _ h2 (h4 hk)).2 p.1 a _ _ h1 rfl ha hb).1 hgk
        exact fq_tot.mpr (F.kk_fq C (C.ok.row_lt h1 (List.mem_of_getElem? ha)) (F.ok.row_lt h2 (List.mem_of_getElem? hb)) ht e)
      · exact Fit.fin C F hN d (k + 1) g (by omega) (List.mem_flatMap.mpr ⟨p, hp, hg⟩) hgk
open Classical in
noncomputable def own (M X : Mc) (kd : Nat → Nat) (p : Pr) : Nat := (if unl M X p then 1 else 0) + ((goals M X p).map fun g => if KK M kd (kd g.1) then (tot M X g).getD 0 else 0).sum
open Classical in
noncomputable def eSum (M X : Mc) (kd : Nat → Nat) (f : Pr → Nat) (k : Nat) : Nat := ((pends M X (0, 0) k).map fun p => if KK M kd (kd p.1) then 0 else f p).sum
theorem sum_add {α : Type} (f g : α → Nat) : ∀ l : List α, (l.map fun x => f x + g x).sum = (l.map f).sum + (l.map g).sum
  | [] => rfl
  | x :: l => by
    simp only [List.map_cons, List.sum_cons]
    rw [sum_add f g l]
    omega
theorem eSum_step (C : Kd L M kd) (F : Fit L M kd X ν) {N : Nat} (hN : ∀ k, N ≤ k → ∀ s ∈ ends M k, KK M kd (kd s)) (k : Nat) :
    eSum M X kd (fun p => (tot M X p).getD 0) k = eSum M X kd (own M X kd) k + eSum M X kd (fun p => (tot M X p).getD 0) (k + 1) := by
  classical
  unfold eSum
  show _ = _ + (((pends M X (0, 0) k).flatMap (goals M X)).map _).sum
  rw [sum_flatMap, ← sum_add]
  congr 1
  refine List.map_congr_left fun p hp => ?_
  obtain ⟨h1, h2, h3, h4⟩ := Fit.at2 C F k p hp
  by_cases hk : KK M kd (kd p.1)
  · rw [if_pos hk, if_pos hk]
    have : (goals M X p).map (fun g => if KK M kd (kd g.1) then 0 else (tot M X g).getD 0) = (goals M X p).map fun _ => 0 := List.map_congr_left fun g hg => by
      obtain ⟨a, ha, hb⟩ := at_goals (a := p.1) (b := p.2) hg
      exact if_pos (C.kk_goal h1 hk ha)
    rw [this, List.map_const', List.sum_replicate_nat, Nat.mul_zero]
  · rw [if_neg hk, if_neg hk]
    have hall : ∀ g ∈ goals M X p, (tot M X g).isSome = true := fun g hg => by
      obtain ⟨a, ha, hb⟩ := at_goals (a := p.1) (b := p.2) hg
      by_cases hgk : KK M kd (kd g.1)
      · obtain ⟨t, ht, e⟩ := ((F.early _ _ h2 (h4 hk)).2 p.1 a _ _ h1 rfl ha hb).1 hgk
        exact fq_tot.mpr (F.kk_fq C (C.ok.row_lt h1 (List.mem_of_getElem? ha)) (F.ok.row_lt h2 (List.mem_of_getElem? hb)) ht e)
      · exact F.fin C hN N (k + 1) g (by omega) (List.mem_flatMap.mpr ⟨p, hp, hg⟩) hgk
    show (tot M X p).getD 0 = _
    rw [tot_step hall]
    show _ + _ = _ + _
    unfold own
    rw [Nat.add_assoc, ← sum_add]
    congr 2
    refine List.map_congr_left fun g _ => ?_
    by_cases hgk : KK M kd (kd g.1)
    · rw [if_pos hgk, if_pos hgk]
      rfl
    · rw [if_neg hgk, if_neg hgk, Nat.zero_add]
theorem eSum_tele (C : Kd L M kd) (F : Fit L M kd X ν) {N : Nat} (hN : ∀ k, N ≤ k → ∀ s ∈ ends M k, KK M kd (kd s)) : ∀ k, eSum M X kd (fun p => (tot M X p).getD 0) 0 = sumTo (eSum M X kd (own M X kd)) k + eSum M X kd (fun p => (tot M X p).getD 0) k
  | 0 => (Nat.zero_add _).symm
  | k + 1 => by
    rw [eSum_tele C F hN k, eSum_step C F hN k]
    show _ = sumTo _ k + _ + _
    omega
theorem pends_fst (C : Kd L M kd) (oX : OkM L X) : ∀ k, (pends M X (0, 0) k).map (·.1) = ends M k ∧ ∀ p ∈ pends M X (0, 0) k, p.1 < M.1.length ∧ p.2 < X.1.length
  | 0 => ⟨rfl, fun p hp => by
    rw [List.mem_singleton.mp hp]
    exact ⟨C.ok.pos, oX.pos⟩⟩
  | k + 1 => by
    obtain ⟨h1, h2⟩ := pends_fst C oX k
    refine ⟨?_, fun g hg => ?_⟩
    · show ((pends M X (0, 0) k).flatMap (goals M X)).map _ = (ends M k).flatMap (row M)
      rw [← h1, List.map_flatMap, List.flatMap_map]
      have : ∀ l : List Pr, (∀ p ∈ l, p.1 < M.1.length ∧ p.2 < X.1.length) → (l.flatMap fun p => (goals M X p).map (·.1)) = l.flatMap fun p => row M p.1 := by
        intro l
        induction l with
        | nil => intro _; rfl
        | cons p l ih =>
          intro h
          obtain ⟨a, b⟩ := h p List.mem_cons_self
          rw [List.flatMap_cons, List.flatMap_cons, ih fun q hq => h q (List.mem_cons_of_mem _ hq)]
          congr 1
          show ((row M p.1).zip (row X p.2)).map (·.1) = _
          exact List.map_fst_zip (by rw [C.ok.row_len a, oX.row_len b]; exact Nat.le_refl _)
      exact this _ h2
    · obtain ⟨p, hp, hgp⟩ := List.mem_flatMap.mp hg
      obtain ⟨a, b⟩ := h2 p hp
      exact goals_in C.ok oX ⟨a, b⟩ hgp
theorem sumTo_mul (f : Nat → Nat) (c : Nat) : ∀ n, sumTo (fun k => f k * c) n = sumTo f n * c
  | 0 => (Nat.zero_mul c).symm
  | n + 1 => by
    show sumTo (fun k => f k * c) n + f n * c = (sumTo f n + f n) * c
    rw [sumTo_mul f c n, Nat.add_mul]
theorem sumTo_congr {f g : Nat → Nat} (h : ∀ k, f k = g k) (n : Nat) : sumTo f n = sumTo g n := by rw [funext h]
noncomputable def cv (M : Mc) (s : Nat) : Nat := (B.fin fun k => wt M k s).getD 0
def xiOf (X : Mc) (ν : Nat → Nd) (c : Nat) : Nat := ((List.range X.1.length).find? fun x => decide (ν x = er c)).getD 0
theorem xiOf_eq (F : Fit L M kd X ν) {x c : Nat} (hx : x < X.1.length) (h : ν x = er c) : xiOf X ν c = x := by
  unfold xiOf
  cases hf : (List.range X.1.length).find? (fun x => decide (ν x = er c)) with
  | none => exact absurd (decide_eq_true h) (List.find?_eq_none.mp hf x (List.mem_range.mpr hx))
  | some y =>
    have h1 := List.mem_range.mp (List.mem_of_find?_eq_some hf)
    have h2 : ν y = er c := of_decide_eq_true (List.find?_some (p := fun x => decide (ν x = er c)) hf)
    exact F.inj _ _ h1 hx (h2.trans h.symm)
open Classical in
theorem Fit.cost (C : Kd L M kd) (F : Fit L M kd X ν) (h0 : ¬ KK M kd (kd 0)) : tot M X (0, 0) = some (((List.range M.1.length).map fun s => if KK M kd (kd s) then 0 else cv M s * own M X kd (s, xiOf X ν (kd s))).sum) := by
  obtain ⟨N, hN⟩ := early_end C
  have hs : (tot M X (0, 0)).isSome = true := F.fin C hN N 0 (0, 0) (by omega) (List.mem_singleton.mpr rfl) h0
  obtain ⟨T, hT⟩ := Option.isSome_iff_exists.mp hs
  rw [hT]
  congr 1
  have e0 : eSum M X kd (fun p => (tot M X p).getD 0) 0 = T := by
    show (if KK M kd (kd 0) then 0 else (tot M X (0, 0)).getD 0) + 0 = T
    rw [if_neg h0, hT]
    rfl
  have eN : eSum M X kd (fun p => (tot M X p).getD 0) N = 0 := by
    unfold eSum
    have : (pends M X (0, 0) N).map (fun p => if KK M kd (kd p.1) then 0 else (tot M X p).getD 0) = (pends M X (0, 0) N).map fun _ => 0 := List.map_congr_left fun p hp => if_pos (hN N (Nat.le_refl _) _ (F.at2 C N p hp).2.2.1)
    rw [this, List.map_const', List.sum_replicate_nat, Nat.mul_zero]
  have et := eSum_tele C F hN N
  rw [e0, eN, Nat.add_zero] at et
  rw [et]
  have ek : ∀ k, eSum M X kd (own M X kd) k = ((List.range M.1.length).map fun s => wt M k s * if KK M kd (kd s) then 0 else own M X kd (s, xiOf X ν (kd s))).sum := fun k => by
    rw [show (fun s => wt M k s * if KK M kd (kd s) then 0 else own M X kd (s, xiOf X ν (kd s))) = fun s => (ends M k).count s * (fun s => if KK M kd (kd s) then 0 else own M X kd (s, xiOf X ν (kd s))) s from rfl, ← sum_count _ _ (ends_lt C.ok k), ← (pends_fst C F.ok k).1, List.map_map]
    unfold eSum
    congr 1
    refine List.map_congr_left fun p hp => ?_
    obtain ⟨h1, h2, h3, h4⟩ := F.at2 C k p hp
    show _ = if KK M kd (kd p.1) then 0 else own M X kd (p.1, xiOf X ν (kd p.1))
    by_cases hk : KK M kd (kd p.1)
    · rw [if_pos hk, if_pos hk]
    · rw [if_neg hk, if_neg hk, xiOf_eq F h2 (h4 hk)]
  rw [sumTo_congr ek, sumTo_map]
  congr 1
  refine List.map_congr_left fun s hs => ?_
  rw [sumTo_mul]
  by_cases hk : KK M kd (kd s)
  · rw [if_pos hk, if_pos hk, Nat.mul_zero]
  · rw [if_neg hk, if_neg hk]
    congr 1
    unfold cv
    rw [fin_of (N := N) fun k hk' => Classical.byContradiction fun h => hk (hN k hk' s (wt_mem.mp h))]
    rfl
theorem Fit.cost0 (C : Kd L M kd) (F : Fit L M kd X ν) (h0 : KK M kd (kd 0)) : ∃ t, ν 0 = kn t ∧ t < M.1.length ∧ Kern M t ∧ kd t = kd 0 ∧ tot M X (0, 0) = tot M M (0, t) := by
  obtain ⟨t, h1, h2⟩ := F.zero.1 h0
  obtain ⟨ht, hk, _⟩ := F.kern 0 t F.ok.pos h1
  refine ⟨t, h1, ht, hk, h2, fin_congr fun k => ?_⟩
  exact (cnt_right C.ok F.ok C.ok ht F.ok.pos C.ok.pos (F.eqv C F.ok.pos h1) k).symm
end
end B
namespace B
open PySem
def minL : List Nat → Nat
  | [] => 0
  | x :: l => l.foldl min x
theorem foldl_min_mem : ∀ (l : List Nat) (x : Nat), l.foldl min x ∈ x :: l
  | [], x => List.mem_singleton.mpr rfl
  | y :: l, x => by
    have h := foldl_min_mem l (min x y)
    show l.foldl min (min x y) ∈ _
    rcases List.mem_cons.mp h with h | h
    · rw [h]
      by_cases h' : x ≤ y
      · rw [Nat.min_eq_left h']
        exact List.mem_cons_self
      · rw [Nat.min_eq_right (by omega)]
        exact List.mem_cons_of_mem _ List.mem_cons_self
    · exact List.mem_cons_of_mem _ (List.mem_cons_of_mem _ h)
theorem foldl_min_le : ∀ (l : List Nat) (x : Nat), ∀ z ∈ x :: l, l.foldl min x ≤ z
  | [], x, z, h => by
    rw [List.mem_singleton.mp h]
    exact Nat.le_refl _
  | y :: l, x, z, h => by
    show l.foldl min (min x y) ≤ z
    have g := foldl_min_le l (min x y)
    have g0 := g (min x y) List.mem_cons_self
    rcases List.mem_cons.mp h with rfl | h
    · omega
    · rcases List.mem_cons.mp h with rfl | h
      · omega
      · exact g z (List.mem_cons_of_mem _ h)
theorem minL_mem {l : List Nat} (h : l ≠ []) : minL l ∈ l := by
  cases l with
  | nil => exact absurd rfl h
  | cons x l => exact foldl_min_mem l x
theorem minL_le {l : List Nat} {x : Nat} (h : x ∈ l) : minL l ≤ x := by
  cases l with
  | nil => cases h
  | cons y l => exact foldl_min_le l y x h
theorem minL_eq {l : List Nat} {m : Nat} (h : m ∈ l) (hm : ∀ x ∈ l, m ≤ x) : minL l = m := Nat.le_antisymm (minL_le h) (hm _ (minL_mem (List.ne_nil_of_mem h)))
noncomputable def kernB (M : Mc) (s : Nat) : Bool := (fin fun k => wt M k s).isNone
theorem kernB_iff {M : Mc} {s : Nat} : kernB M s = true ↔ Kern M s := by
  unfold kernB Kern
  rw [Option.isNone_iff_eq_none]
  exact fin_none
def cls (M : Mc) (kd : Nat → Nat) (c : Nat) : List Nat := (List.range' 0 M.1.length).filter fun s => decide (kd s = c)
noncomputable def sty (M : Mc) (kd : Nat → Nat) (c : Nat) : List Nat := (List.range' 0 M.1.length).filter fun s => kernB M s && decide (kd s = c)
noncomputable def gap (M : Mc) (s t : Nat) : Nat := (tot M M (s, t)).getD 0
def ltr (M : Mc) (a s : Nat) : Nat := (row M s).getD a 0
noncomputable def costT (M : Mc) (kd : Nat → Nat) (c a t : Nat) : Nat := ((cls M kd c).map fun s => cv M s * gap M (ltr M a s) t).sum
noncomputable def goodC (M : Mc) (kd : Nat → Nat) (c : Nat) : Nat := (((cls M kd c).filter fun s => decide (s ∈ M.2)).map (cv M)).sum
noncomputable def badC (M : Mc) (kd : Nat → Nat) (c : Nat) : Nat := (((cls M kd c).filter fun s => !decide (s ∈ M.2)).map (cv M)).sum
def lat (M : Mc) (kd : Nat → Nat) (c a : Nat) : Nat := kd (ltr M a ((cls M kd c).getD 0 0))
noncomputable def exitC (M : Mc) (kd : Nat → Nat) (c a : Nat) : Nat := if (sty M kd (lat M kd c a)).isEmpty then 0 else minL ((sty M kd (lat M kd c a)).map (costT M kd c a))
noncomputable def eC (L : Nat) (M : Mc) (kd : Nat → Nat) (c : Nat) : Nat := min (goodC M kd c) (badC M kd c) + ((List.range' 0 L).map (exitC M kd c)).sum
noncomputable def begC (M : Mc) (kd : Nat → Nat) : Nat := minL ((sty M kd (kd 0)).map (gap M 0))
noncomputable def WF (L nC : Nat) (M : Mc) (kd : Nat → Nat) : Nat := if (sty M kd (kd 0)).isEmpty then ((((List.range' 0 nC).filter fun c => (sty M kd c).isEmpty)).map (eC L M kd)).sum else begC M kd
theorem mem_cls {M : Mc} {kd : Nat → Nat} {c s : Nat} : s ∈ cls M kd c ↔ s < M.1.length ∧ kd s = c := by
  unfold cls
  rw [List.mem_filter, List.mem_range'_1, decide_eq_true_iff]
  exact ⟨fun h => ⟨by omega, h.2⟩, fun h => ⟨⟨Nat.zero_le _, by omega⟩, h.2⟩⟩
theorem mem_sty {M : Mc} {kd : Nat → Nat} {c s : Nat} : s ∈ sty M kd c ↔ s < M.1.length ∧ Kern M s ∧ kd s = c := by
  unfold sty
  rw [List.mem_filter, List.mem_range'_1, Bool.and_eq_true, decide_eq_true_iff, kernB_iff]
  exact ⟨fun h => ⟨by omega, h.2⟩, fun h => ⟨⟨Nat.zero_le _, by omega⟩, h.2⟩⟩
theorem sty_kk {M : Mc} {kd : Nat → Nat} {c : Nat} : (sty M kd c).isEmpty = false ↔ KK M kd c := by
  unfold KK
  rw [Bool.eq_false_iff, ne_eq, List.isEmpty_iff]
  constructor
  · intro h
    obtain ⟨t, ht⟩ := List.exists_mem_of_ne_nil _ h
    obtain ⟨a, b, c⟩ := mem_sty.mp ht
    exact ⟨t, a, b, c⟩
  · rintro ⟨t, a, b, c⟩ h
    have := mem_sty.mpr ⟨a, b, c⟩
    rw [h] at this
    cases this
theorem sty_nk {M : Mc} {kd : Nat → Nat} {c : Nat} : (sty M kd c).isEmpty = true ↔ ¬ KK M kd c := by
  rw [← sty_kk, Bool.not_eq_false]
structure Kds (L nC : Nat) (M : Mc) (kd : Nat → Nat) : Prop where
  k : Kd L M kd
  lt : ∀ s, s < M.1.length → kd s < nC
  on : ∀ c, c < nC → ∃ s, s < M.1.length ∧ kd s = c
  min : ∀ a b, a < M.1.length → b < M.1.length → Eqv M M a b → a = b
  reach : ∀ s, s < M.1.length → ∃ j, s ∈ ends M j
  gd : ∀ s ∈ M.2, s < M.1.length
theorem sum_kinds (kd : Nat → Nat) (f : Nat → Nat) (nC : Nat) : ∀ l : List Nat, (∀ s ∈ l, kd s < nC) → (l.map f).sum = ((List.range' 0 nC).map fun c => ((l.filter fun s => decide (kd s = c)).map f).sum).sum
  | [], _ => by
    show 0 = _
    have : (List.range' 0 nC).map (fun c => ((([] : List Nat).filter fun s => decide (kd s = c)).map f).sum) = (List.range' 0 nC).map fun _ => 0 := List.map_congr_left fun c _ => rfl
    rw [this, List.map_const', List.sum_replicate_nat, Nat.mul_zero]
  | x :: l, h => by
    rw [List.map_cons, List.sum_cons, sum_kinds kd f nC l fun y hy => h y (List.mem_cons_of_mem _ hy)]
    have hx := h x List.mem_cons_self
    have : ∀ k : List Nat, k.Nodup → (k.map fun c => (((x :: l).filter fun s => decide (kd s = c)).map f).sum).sum = (if kd x ∈ k then f x else 0) + (k.map fun c => ((l.filter fun s => decide (kd s = c)).map f).sum).sum := by
      intro k
      induction k with
      | nil => intro _; rfl
      | cons y k ih =>
        intro hn
        have hn' := List.nodup_cons.mp hn
        rw [List.map_cons, List.sum_cons, List.map_cons, List.sum_cons, ih hn'.2, List.filter_cons]
        by_cases hy : kd x = y
        · subst hy
          rw [if_pos (by simp), if_neg hn'.1, if_pos List.mem_cons_self, List.map_cons, List.sum_cons]
          omega
        · rw [if_neg (by simpa using hy)]
          have : (kd x ∈ y :: k) ↔ kd x ∈ k := by
            rw [List.mem_cons]
            exact ⟨fun h => h.resolve_left hy, .inr⟩
          by_cases hk : kd x ∈ k
          · rw [if_pos hk, if_pos (this.mpr hk)]
            omega
          · rw [if_neg hk, if_neg (fun h => hk (this.mp h))]
            omega
    rw [this _ List.nodup_range', if_pos (by rw [List.mem_range'_1]; omega)]
theorem zip_letters0 (f : Pr → Nat) : ∀ (la lb : List Nat), la.length = lb.length → ((la.zip lb).map f).sum = ((List.range la.length).map fun a => f (la.getD a 0, lb.getD a 0)).sum
  | [], [], _ => rfl
  | x :: la, y :: lb, h => by
    rw [List.zip_cons_cons, List.map_cons, List.sum_cons, zip_letters0 f la lb (by simpa using h), List.length_cons, List.range_succ_eq_map, List.map_cons, List.sum_cons, List.map_map]
    rfl
  | [], _ :: _, h => by simp at h
  | _ :: _, [], h => by simp at h
theorem zip_letters (f : Pr → Nat) (la lb : List Nat) (h : la.length = lb.length) : ((la.zip lb).map f).sum = ((List.range' 0 la.length).map fun a => f (la.getD a 0, lb.getD a 0)).sum := by
  rw [zip_letters0 f la lb h, List.range_eq_range']
theorem sum_swap {α β : Type} (f : α → β → Nat) (w : α → Nat) (l : List α) : ∀ m : List β, (l.map fun s => w s * (m.map (f s)).sum).sum = (m.map fun a => (l.map fun s => w s * f s a).sum).sum
  | [] => by
    have : (l.map fun s => w s * (([] : List β).map (f s)).sum) = l.map fun _ => 0 := List.map_congr_left fun s _ => Nat.mul_zero _
    rw [this, List.map_const', List.sum_replicate_nat, Nat.mul_zero]
    rfl
  | a :: m => by
    rw [List.map_cons, List.sum_cons, ← sum_swap f w l m, ← sum_add]
    congr 1
    refine List.map_congr_left fun s _ => ?_
    rw [List.map_cons, List.sum_cons, Nat.mul_add]
theorem sum_congr {α : Type} {f g : α → Nat} {l : List α} (h : ∀ x ∈ l, f x = g x) : (l.map f).sum = (l.map g).sum := by rw [List.map_congr_left h]
theorem sum_le {α : Type} {f g : α → Nat} : ∀ {l : List α}, (∀ x ∈ l, f x ≤ g x) → (l.map f).sum ≤ (l.map g).sum
  | [], _ => Nat.le_refl _
  | x :: l, h => by
    rw [List.map_cons, List.map_cons, List.sum_cons, List.sum_cons]
    exact Nat.add_le_add (h x List.mem_cons_self) (sum_le fun y hy => h y (List.mem_cons_of_mem _ hy))
section
variable {L nC : Nat} {M : Mc} {kd : Nat → Nat} {X : Mc} {ν : Nat → Nd}
theorem Kds.cls_ne (C : Kds L nC M kd) {c : Nat} (hc : c < nC) : ∃ s0 r, cls M kd c = s0 :: r ∧ s0 < M.1.length ∧ kd s0 = c := by
  obtain ⟨s, h1, h2⟩ := C.on c hc
  have hm := mem_cls.mpr ⟨h1, h2⟩
  cases h : cls M kd c with
  | nil =>
    rw [h] at hm
    cases hm
  | cons s0 r =>
    obtain ⟨a, b⟩ := mem_cls.mp (by rw [h]; exact List.mem_cons_self : s0 ∈ cls M kd c)
    exact ⟨s0, r, rfl, a, b⟩
theorem ltr_at {m : Mc} {s a : Nat} (o : OkM L m) (hs : s < m.1.length) (ha : a < L) : (row m s)[a]? = some (ltr m a s) := by
  unfold ltr
  rw [List.getD_eq_getElem?_getD, List.getElem?_eq_getElem (by rw [o.row_len hs]; exact ha)]
  rfl
theorem ltr_lt {m : Mc} {s a : Nat} (o : OkM L m) (hs : s < m.1.length) (ha : a < L) : ltr m a s < m.1.length := o.row_lt hs (List.mem_of_getElem? (ltr_at o hs ha))
theorem Kds.lat_eq (C : Kds L nC M kd) {c s a : Nat} (hs : s < M.1.length) (e : kd s = c) (ha : a < L) : lat M kd c a = kd (ltr M a s) := by
  obtain ⟨s0, r, h, h1, h2⟩ := C.cls_ne (c := c) (by rw [← e]; exact C.lt s hs)
  unfold lat
  rw [h]
  show kd (ltr M a s0) = _
  exact C.k.goal h1 hs (h2.trans e.symm) (ltr_at C.k.ok h1 ha) (ltr_at C.k.ok hs ha)
def ttOf (X : Mc) (ν : Nat → Nd) (c a : Nat) : Nat := (ν (ltr X a (xiOf X ν c))).2
noncomputable def eX (L : Nat) (M : Mc) (kd : Nat → Nat) (X : Mc) (ν : Nat → Nd) (c : Nat) : Nat := (if xiOf X ν c ∈ X.2 then badC M kd c else goodC M kd c) + ((List.range' 0 L).map fun a => if (sty M kd (lat M kd c a)).isEmpty then 0 else costT M kd c a (ttOf X ν c a)).sum
theorem Fit.xi (C : Kds L nC M kd) (F : Fit L M kd X ν) {c : Nat} (hc : c < nC) (hk : ¬ KK M kd c) : xiOf X ν c < X.1.length ∧ ν (xiOf X ν c) = er c := by
  obtain ⟨s, hs, e⟩ := C.on c hc
  obtain ⟨j, hj⟩ := C.reach s hs
  obtain ⟨x, hx, hν⟩ := F.at C.k j s hj (by rw [e]; exact hk)
  rw [e] at hν
  rw [xiOf_eq F hx hν]
  exact ⟨hx, hν⟩
theorem Fit.tt (C : Kds L nC M kd) (F : Fit L M kd X ν) {c a : Nat} (hc : c < nC) (hk : ¬ KK M kd c) (ha : a < L) (he : KK M kd (lat M kd c a)) : ν (ltr X a (xiOf X ν c)) = kn (ttOf X ν c a) ∧ ttOf X ν c a ∈ sty M kd (lat M kd c a) := by
  obtain ⟨s, hs, e⟩ := C.on c hc
  obtain ⟨hx, hν⟩ := F.xi C hc hk
  have e2 := C.lat_eq hs e ha
  rw [e2] at he ⊢
  obtain ⟨t, h1, h2⟩ := ((F.early _ _ hx hν).2 s a _ _ hs e (ltr_at C.k.ok hs ha) (ltr_at F.ok hx ha)).1 he
  have ht : ttOf X ν c a = t := by
    unfold ttOf
    rw [h1]
  rw [ht]
  obtain ⟨t1, t2, _⟩ := F.kern _ _ (ltr_lt F.ok hx ha) h1
  exact ⟨h1, mem_sty.mpr ⟨t1, t2, h2⟩⟩
theorem Fit.own_eq (C : Kds L nC M kd) (F : Fit L M kd X ν) {c s : Nat} (hs : s < M.1.length) (e : kd s = c) (hk : ¬ KK M kd c) :
    own M X kd (s, xiOf X ν c) = (if decide (s ∈ M.2) != decide (xiOf X ν c ∈ X.2) then 1 else 0) + ((List.range' 0 L).map fun a => if (sty M kd (lat M kd c a)).isEmpty then 0 else gap M (ltr M a s) (ttOf X ν c a)).sum := by
  classical
  have hc : c < nC := by
    rw [← e]
    exact C.lt s hs
  obtain ⟨hx, hν⟩ := F.xi C hc hk
  unfold own
  congr 1
  show (((row M s).zip (row X (xiOf X ν c))).map _).sum = _
  rw [zip_letters _ _ _ (by rw [C.k.ok.row_len hs, F.ok.row_len hx]), C.k.ok.row_len hs]
  refine sum_congr fun a ha => ?_
  have ha : a < L := by
    rw [List.mem_range'_1] at ha
    omega
  have e2 := C.lat_eq hs e ha
  show (if KK M kd (kd (ltr M a s)) then (tot M X (ltr M a s, ltr X a (xiOf X ν c))).getD 0 else 0) = _
  by_cases hke : KK M kd (kd (ltr M a s))
  · rw [if_pos hke, if_neg (by rw [e2, sty_kk.mpr hke]; decide)]
    obtain ⟨h1, h2⟩ := F.tt C hc hk ha (by rw [e2]; exact hke)
    unfold gap
    congr 1
    refine fin_congr fun k => ?_
    exact (cnt_right C.k.ok F.ok C.k.ok (mem_sty.mp h2).1 (ltr_lt F.ok hx ha) (ltr_lt C.k.ok hs ha) (F.eqv C.k (ltr_lt F.ok hx ha) h1) k).symm
  · rw [if_neg hke, if_pos (by rw [e2]; exact sty_nk.mpr hke)]
theorem sum_filter2 {α : Type} (f : α → Nat) (p : α → Bool) : ∀ l : List α, ((l.filter p).map f).sum = (l.map fun x => f x * if p x then 1 else 0).sum
  | [] => rfl
  | x :: l => by
    rw [List.map_cons, List.sum_cons, List.filter_cons, ← sum_filter2 f p l]
    by_cases h : p x = true
    · rw [if_pos h, if_pos h, List.map_cons, List.sum_cons, Nat.mul_one]
    · rw [if_neg h, if_neg h, Nat.mul_zero, Nat.zero_add]
theorem Fit.cost_kinds (C : Kds L nC M kd) (F : Fit L M kd X ν) (h0 : ¬ KK M kd (kd 0)) : tot M X (0, 0) = some ((((List.range' 0 nC).filter fun c => (sty M kd c).isEmpty).map (eX L M kd X ν)).sum) := by
  classical
  rw [F.cost C.k h0]
  congr 1
  rw [sum_kinds kd _ nC _ fun s hs => C.lt s (List.mem_range.mp hs), sum_filter2]
  refine sum_congr fun c hc => ?_
  have hc : c < nC := by
    rw [List.mem_range'_1] at hc
    omega
  rw [show (List.range M.1.length).filter (fun s => decide (kd s = c)) = cls M kd c by rw [List.range_eq_range'] <;> rfl]
  by_cases hk : KK M kd c
  · rw [if_neg (by rw [sty_kk.mpr hk]; decide), Nat.mul_zero]
    have : (cls M kd c).map (fun s => if KK M kd (kd s) then 0 else cv M s * own M X kd (s, xiOf X ν (kd s))) = (cls M kd c).map fun _ => 0 := List.map_congr_left fun s hs => if_pos (by rw [(mem_cls.mp hs).2]; exact hk)
    rw [this, List.map_const', List.sum_replicate_nat, Nat.mul_zero]
  · rw [if_pos (sty_nk.mpr hk), Nat.mul_one]
    have h1 : ((cls M kd c).map fun s => if KK M kd (kd s) then 0 else cv M s * own M X kd (s, xiOf X ν (kd s))).sum =
        ((cls M kd c).map fun s => cv M s * (if decide (s ∈ M.2) != decide (xiOf X ν c ∈ X.2) then 1 else 0) + cv M s * ((List.range' 0 L).map fun a => if (sty M kd (lat M kd c a)).isEmpty then 0 else gap M (ltr M a s) (ttOf X ν c a)).sum).sum := sum_congr fun s hs => by
      obtain ⟨hsn, e⟩ := mem_cls.mp hs
      rw [if_neg (by rw [e]; exact hk), e, F.own_eq C hsn e hk, Nat.mul_add]
    rw [h1, sum_add, sum_swap]
    unfold eX
    congr 1
    · by_cases hm : xiOf X ν c ∈ X.2
      · rw [if_pos hm]
        unfold badC
        rw [sum_filter2]
        refine sum_congr fun s _ => ?_
        by_cases hs : s ∈ M.2 <;> simp [hs, hm]
      · rw [if_neg hm]
        unfold goodC
        rw [sum_filter2]
        refine sum_congr fun s _ => ?_
        by_cases hs : s ∈ M.2 <;> simp [hs, hm]
    · refine sum_congr fun a _ => ?_
      by_cases he : (sty M kd (lat M kd c a)).isEmpty = true
      · simp only [if_pos he]
        have : (cls M kd c).map (fun s => cv M s * 0) = (cls M kd c).map fun _ => 0 := List.map_congr_left fun s _ => Nat.mul_zero _
        rw [this, List.map_const', List.sum_replicate_nat, Nat.mul_zero]
      · simp only [if_neg he]
        rfl
theorem Fit.ge (C : Kds L nC M kd) (F : Fit L M kd X ν) : ∃ w, tot M X (0, 0) = some w ∧ WF L nC M kd ≤ w := by
  unfold WF
  by_cases h0 : KK M kd (kd 0)
  · rw [if_neg (by rw [sty_kk.mpr h0]; decide)]
    obtain ⟨t, h1, h2, h3, h4, h5⟩ := F.cost0 C.k h0
    have hf : (tot M M (0, t)).isSome = true := fq_tot.mpr ((C.k.iff 0 t C.k.ok.pos h2).mp h4.symm)
    obtain ⟨w, hw⟩ := Option.isSome_iff_exists.mp hf
    refine ⟨w, h5.trans hw, minL_le (List.mem_map.mpr ⟨t, mem_sty.mpr ⟨h2, h3, h4⟩, ?_⟩)⟩
    unfold gap
    rw [hw]
    rfl
  · rw [if_pos (sty_nk.mpr h0)]
    refine ⟨_, F.cost_kinds C h0, sum_le fun c hc => ?_⟩
    obtain ⟨h1, h2⟩ := List.mem_filter.mp hc
    have hc : c < nC := by
      rw [List.mem_range'_1] at h1
      omega
    have hk := sty_nk.mp h2
    unfold eC eX
    refine Nat.add_le_add ?_ (sum_le fun a ha => ?_)
    · split <;> omega
    · have ha : a < L := by
        rw [List.mem_range'_1] at ha
        omega
      unfold exitC
      by_cases he : (sty M kd (lat M kd c a)).isEmpty = true
      · rw [if_pos he, if_pos he]
        exact Nat.le_refl _
      · rw [if_neg he, if_neg he]
        exact minL_le (List.mem_map_of_mem (F.tt C hc hk ha (sty_kk.mp (by simpa using he))).2)
end
end B
namespace B
open PySem
noncomputable def NLs (nC : Nat) (M : Mc) (kd : Nat → Nat) : List Nd := ((List.range' 0 M.1.length).filter (kernB M)).map kn ++ ((List.range' 0 nC).filter fun c => (sty M kd c).isEmpty).map er
theorem mem_NLs_kn {nC : Nat} {M : Mc} {kd : Nat → Nat} {s : Nat} : kn s ∈ NLs nC M kd ↔ s < M.1.length ∧ Kern M s := by
  unfold NLs
  rw [List.mem_append]
  constructor
  · rintro (h | h)
    · obtain ⟨t, ht, e⟩ := List.mem_map.mp h
      have : t = s := congrArg Prod.snd e
      subst this
      obtain ⟨h1, h2⟩ := List.mem_filter.mp ht
      rw [List.mem_range'_1] at h1
      exact ⟨by omega, kernB_iff.mp h2⟩
    · obtain ⟨t, ht, e⟩ := List.mem_map.mp h
      exact absurd e.symm kn_er
  · rintro ⟨h1, h2⟩
    exact .inl (List.mem_map.mpr ⟨s, List.mem_filter.mpr ⟨by rw [List.mem_range'_1]; omega, kernB_iff.mpr h2⟩, rfl⟩)
theorem mem_NLs_er {nC : Nat} {M : Mc} {kd : Nat → Nat} {c : Nat} : er c ∈ NLs nC M kd ↔ c < nC ∧ ¬ KK M kd c := by
  unfold NLs
  rw [List.mem_append]
  constructor
  · rintro (h | h)
    · obtain ⟨t, ht, e⟩ := List.mem_map.mp h
      exact absurd e kn_er
    · obtain ⟨t, ht, e⟩ := List.mem_map.mp h
      have : t = c := congrArg Prod.snd e
      subst this
      obtain ⟨h1, h2⟩ := List.mem_filter.mp ht
      rw [List.mem_range'_1] at h1
      exact ⟨by omega, sty_nk.mp h2⟩
  · rintro ⟨h1, h2⟩
    exact .inr (List.mem_map.mpr ⟨c, List.mem_filter.mpr ⟨by rw [List.mem_range'_1]; omega, sty_nk.mpr h2⟩, rfl⟩)
theorem NLs_cases {nC : Nat} {M : Mc} {kd : Nat → Nat} {nd : Nd} (h : nd ∈ NLs nC M kd) : (∃ s, nd = kn s) ∨ ∃ c, nd = er c := by
  rcases List.mem_append.mp h with h | h
  · obtain ⟨t, _, e⟩ := List.mem_map.mp h
    exact .inl ⟨t, e.symm⟩
  · obtain ⟨t, _, e⟩ := List.mem_map.mp h
    exact .inr ⟨t, e.symm⟩
theorem NLs_nodup {nC : Nat} {M : Mc} {kd : Nat → Nat} : (NLs nC M kd).Nodup := by
  unfold NLs
  rw [List.nodup_append]
  refine ⟨?_, ?_, ?_⟩
  · rw [List.nodup_iff_pairwise_ne, List.pairwise_map]
    exact (List.Pairwise.filter _ (List.pairwise_lt_range' (s := 0) (n := M.1.length))).imp fun h e => Nat.ne_of_lt h (congrArg Prod.snd e)
  · rw [List.nodup_iff_pairwise_ne, List.pairwise_map]
    exact (List.Pairwise.filter _ (List.pairwise_lt_range' (s := 0) (n := nC))).imp fun h e => Nat.ne_of_lt h (congrArg Prod.snd e)
  · intro a ha b hb
    obtain ⟨s, _, rfl⟩ := List.mem_map.mp ha
    obtain ⟨c, _, rfl⟩ := List.mem_map.mp hb
    exact kn_er
theorem sum_ge {l : List Nat} {x : Nat} (h : x ∈ l) : x ≤ l.sum := by
  induction l with
  | nil => cases h
  | cons y l ih =>
    rw [List.sum_cons]
    rcases List.mem_cons.mp h with rfl | h
    · omega
    · have := ih h
      omega
theorem cnt_at {m1 m2 : Mc} {p q : Pr} {k : Nat} (h : q ∈ pends m1 m2 p k) (j : Nat) : cnt m1 m2 j q ≤ cnt m1 m2 (k + j) p := by
  rw [cnt_pends]
  exact sum_ge (List.mem_map_of_mem h)
section
variable {L nC : Nat} {M : Mc} {kd : Nat → Nat} {X : Mc} {ν : Nat → Nd}
structure Cop (L nC : Nat) (M : Mc) (kd : Nat → Nat) (X : Mc) (g : Nd → Nat) : Prop where
  lt : ∀ nd ∈ NLs nC M kd, g nd < X.1.length
  kern : ∀ s, s < M.1.length → Kern M s → Eqv M X s (g (kn s))
  early : ∀ c, c < nC → ¬ KK M kd c → ∃ s, s < M.1.length ∧ kd s = c ∧ Fq M X s (g (er c))
theorem cop_of (C : Kds L nC M kd) (oX : OkM L X) (h : Fq M X 0 0) : ∃ g, Cop L nC M kd X g := by
  obtain ⟨N, hN⟩ := h
  have hN : ∀ k, N ≤ k → cnt M X k (0, 0) = 0 := hN
  have pf := pends_fst C.k oX
  have at1 : ∀ k s, s ∈ ends M k → ∃ x, (s, x) ∈ pends M X (0, 0) k ∧ x < X.1.length := fun k s hs => by
    rw [← (pf k).1] at hs
    obtain ⟨p, hp, rfl⟩ := List.mem_map.mp hs
    exact ⟨p.2, hp, ((pf k).2 p hp).2⟩
  have h1 : ∀ s, Kern M s → ∃ x, x < X.1.length ∧ Eqv M X s x := fun s hs => by
    obtain ⟨k, hk, hm⟩ := kern_iff.mp hs N
    obtain ⟨x, hx, hl⟩ := at1 k s hm
    refine ⟨x, hl, fun j => ?_⟩
    have := cnt_at hx j
    rw [hN (k + j) (by omega)] at this
    omega
  have h2 : ∀ s, s < M.1.length → ∃ x, x < X.1.length ∧ Fq M X s x := fun s hs => by
    obtain ⟨k, hm⟩ := C.reach s hs
    obtain ⟨x, hx, hl⟩ := at1 k s hm
    refine ⟨x, hl, N, fun j hj => ?_⟩
    have := cnt_at hx j
    rw [hN (k + j) (by omega)] at this
    show cnt M X j (s, x) = 0
    omega
  obtain ⟨g1, hg1⟩ := Classical.axiomOfChoice (r := fun s x => Kern M s → x < X.1.length ∧ Eqv M X s x) fun s => by
    by_cases hk : Kern M s
    · obtain ⟨x, hx⟩ := h1 s hk
      exact ⟨x, fun _ => hx⟩
    · exact ⟨0, fun q => absurd q hk⟩
  obtain ⟨g2, hg2⟩ := Classical.axiomOfChoice (r := fun c x => c < nC → x < X.1.length ∧ ∃ s, s < M.1.length ∧ kd s = c ∧ Fq M X s x) fun c => by
    by_cases hc : c < nC
    · obtain ⟨s, hs, e⟩ := C.on c hc
      obtain ⟨x, hx, hq⟩ := h2 s hs
      exact ⟨x, fun _ => ⟨hx, s, hs, e, hq⟩⟩
    · exact ⟨0, fun q => absurd q hc⟩
  have e1 : ∀ s, (if (kn s).1 = "kernel" then g1 (kn s).2 else g2 (kn s).2) = g1 s := fun s => if_pos rfl
  have e2 : ∀ c, (if (er c).1 = "kernel" then g1 (er c).2 else g2 (er c).2) = g2 c := fun c => if_neg (show ¬ ("early" : Str) = "kernel" by decide)
  refine ⟨fun nd => if nd.1 = "kernel" then g1 nd.2 else g2 nd.2, ?_, ?_, ?_⟩
  · intro nd hnd
    rcases NLs_cases hnd with ⟨s, rfl⟩ | ⟨c, rfl⟩
    · show (if (kn s).1 = "kernel" then g1 (kn s).2 else g2 (kn s).2) < _
      rw [e1]
      exact (hg1 s (mem_NLs_kn.mp hnd).2).1
    · show (if (er c).1 = "kernel" then g1 (er c).2 else g2 (er c).2) < _
      rw [e2]
      exact (hg2 c (mem_NLs_er.mp hnd).1).1
  · intro s hs hk
    show Eqv M X s (if (kn s).1 = "kernel" then g1 (kn s).2 else g2 (kn s).2)
    rw [e1]
    exact (hg1 s hk).2
  · intro c hc hk
    show ∃ s, s < M.1.length ∧ kd s = c ∧ Fq M X s (if (er c).1 = "kernel" then g1 (er c).2 else g2 (er c).2)
    rw [e2]
    exact (hg2 c hc).2
theorem Cop.inj {g : Nd → Nat} (C : Kds L nC M kd) (oX : OkM L X) (G : Cop L nC M kd X g) {a b : Nd} (ha : a ∈ NLs nC M kd) (hb : b ∈ NLs nC M kd) (e : g a = g b) : a = b := by
  have ko := C.k.ok
  have fq : ∀ {s t x : Nat}, s < M.1.length → t < M.1.length → x < X.1.length → Fq M X s x → Fq M X t x → kd s = kd t := fun hs ht hx h1 h2 => (C.k.iff _ _ hs ht).mpr (Fq.trans ko oX ko hs hx ht h1 h2.symm)
  rcases NLs_cases ha with ⟨s, rfl⟩ | ⟨c, rfl⟩ <;> rcases NLs_cases hb with ⟨t, rfl⟩ | ⟨d, rfl⟩
  · obtain ⟨hs, ks⟩ := mem_NLs_kn.mp ha
    obtain ⟨ht, kt⟩ := mem_NLs_kn.mp hb
    have h1 := G.kern s hs ks
    have h2 := G.kern t ht kt
    rw [← e] at h2
    rw [C.min s t hs ht (Eqv.trans ko oX ko hs (G.lt _ ha) ht h1 h2.symm)]
  · obtain ⟨hs, ks⟩ := mem_NLs_kn.mp ha
    obtain ⟨hd, kk⟩ := mem_NLs_er.mp hb
    obtain ⟨t, ht, et, h2⟩ := G.early d hd kk
    rw [← e] at h2
    exact absurd ⟨s, hs, ks, (fq hs ht (G.lt _ ha) (G.kern s hs ks).fq h2).trans et⟩ kk
  · obtain ⟨hs, ks⟩ := mem_NLs_kn.mp hb
    obtain ⟨hd, kk⟩ := mem_NLs_er.mp ha
    obtain ⟨s', ht, et, h2⟩ := G.early c hd kk
    rw [e] at h2
    exact absurd ⟨t, hs, ks, (fq hs ht (G.lt _ hb) (G.kern t hs ks).fq h2).trans et⟩ kk
  · obtain ⟨hc, kc⟩ := mem_NLs_er.mp ha
    obtain ⟨hd, kk⟩ := mem_NLs_er.mp hb
    obtain ⟨s, hs, es, h1⟩ := G.early c hc kc
    obtain ⟨t, ht, et, h2⟩ := G.early d hd kk
    rw [← e] at h2
    have := fq hs ht (G.lt _ ha) h1 h2
    rw [es, et] at this
    rw [this]
theorem map_nodup {α β : Type} {f : α → β} : ∀ {l : List α}, l.Nodup → (∀ a ∈ l, ∀ b ∈ l, f a = f b → a = b) → (l.map f).Nodup
  | [], _, _ => List.nodup_nil
  | x :: l, h, hi => by
    have h' := List.nodup_cons.mp h
    rw [List.map_cons, List.nodup_cons]
    refine ⟨fun hm => ?_, map_nodup h'.2 fun a ha b hb => hi a (List.mem_cons_of_mem _ ha) b (List.mem_cons_of_mem _ hb)⟩
    obtain ⟨y, hy, e⟩ := List.mem_map.mp hm
    have := hi y (List.mem_cons_of_mem _ hy) x List.mem_cons_self e
    rw [this] at hy
    exact h'.1 hy
theorem Cop.len {g : Nd → Nat} (C : Kds L nC M kd) (oX : OkM L X) (G : Cop L nC M kd X g) : (NLs nC M kd).length ≤ X.1.length := by
  have := nodup_le (n := X.1.length) (map_nodup (NLs_nodup (nC := nC) (M := M) (kd := kd)) fun a ha b hb e => G.inj C oX ha hb e) (all := List.range X.1.length) (fun x hx => by
    obtain ⟨nd, h, rfl⟩ := List.mem_map.mp hx
    exact List.mem_range.mpr (G.lt nd h)) (by simp)
  rw [List.length_map] at this
  exact this
theorem Cop.onto {g : Nd → Nat} (C : Kds L nC M kd) (oX : OkM L X) (G : Cop L nC M kd X g) (hl : X.1.length = (NLs nC M kd).length) {x : Nat} (hx : x < X.1.length) : ∃ nd ∈ NLs nC M kd, g nd = x := by
  refine Classical.byContradiction fun hn => ?_
  have := nodup_le (n := X.1.length - 1) (map_nodup (NLs_nodup (nC := nC) (M := M) (kd := kd)) fun a ha b hb e => G.inj C oX ha hb e) (all := (List.range X.1.length).erase x) (fun y hy => by
    obtain ⟨nd, h, rfl⟩ := List.mem_map.mp hy
    exact (List.mem_erase_of_ne fun e => hn ⟨nd, h, e⟩).mpr (List.mem_range.mpr (G.lt nd h))) (by
    rw [List.length_erase_of_mem (List.mem_range.mpr hx)]
    simp)
  rw [List.length_map] at this
  omega
theorem fit_of (C : Kds L nC M kd) (oX : OkM L X) (h : Fq M X 0 0) (hl : X.1.length = (NLs nC M kd).length) : ∃ ν, Fit L M kd X ν := by
  obtain ⟨g, G⟩ := cop_of C oX h
  have ko := C.k.ok
  have hν : ∀ x, ∃ nd, x < X.1.length → nd ∈ NLs nC M kd ∧ g nd = x := fun x => by
    by_cases hx : x < X.1.length
    · obtain ⟨nd, h1, h2⟩ := G.onto C oX hl hx
      exact ⟨nd, fun _ => ⟨h1, h2⟩⟩
    · exact ⟨kn 0, fun q => absurd q hx⟩
  refine ⟨fun x => (hν x).choose, ?_⟩
  have nu : ∀ x, x < X.1.length → (hν x).choose ∈ NLs nC M kd ∧ g (hν x).choose = x := fun x hx => (hν x).choose_spec hx
  generalize hf : (fun x => (hν x).choose) = ν
  have nu : ∀ x, x < X.1.length → ν x ∈ NLs nC M kd ∧ g (ν x) = x := fun x hx => by
    rw [← hf]
    exact nu x hx
  have fq : ∀ {s t x : Nat}, s < M.1.length → t < M.1.length → x < X.1.length → Fq M X s x → Fq M X t x → kd s = kd t := fun hs ht hx h1 h2 => (C.k.iff _ _ hs ht).mpr (Fq.trans ko oX ko hs hx ht h1 h2.symm)
  have knu : ∀ x t, x < X.1.length → ν x = kn t → t < M.1.length ∧ Kern M t ∧ Eqv M X t x := fun x t hx e => by
    obtain ⟨h1, h2⟩ := nu x hx
    rw [e] at h1 h2
    obtain ⟨a, b⟩ := mem_NLs_kn.mp h1
    have := G.kern t a b
    rw [h2] at this
    exact ⟨a, b, this⟩
  have enu : ∀ x c, x < X.1.length → ν x = er c → ¬ KK M kd c ∧ ∃ s, s < M.1.length ∧ kd s = c ∧ Fq M X s x := fun x c hx e => by
    obtain ⟨h1, h2⟩ := nu x hx
    rw [e] at h1 h2
    obtain ⟨a, b⟩ := mem_NLs_er.mp h1
    obtain ⟨s, q1, q2, q3⟩ := G.early c a b
    rw [h2] at q3
    exact ⟨b, s, q1, q2, q3⟩
  have id_ : ∀ y s, y < X.1.length → s < M.1.length → Fq M X s y → (KK M kd (kd s) → ∃ t, ν y = kn t ∧ kd t = kd s) ∧ (¬ KK M kd (kd s) → ν y = er (kd s)) := fun y s hy hs hq => by
    rcases NLs_cases (nu y hy).1 with ⟨t, e⟩ | ⟨c, e⟩
    · obtain ⟨a, b, q⟩ := knu y t hy e
      have := fq a hs hy q.fq hq
      exact ⟨fun _ => ⟨t, e, this⟩, fun hn => absurd ⟨t, a, b, this⟩ hn⟩
    · obtain ⟨hk, t, a, b, q⟩ := enu y c hy e
      have := fq a hs hy q hq
      rw [b] at this
      exact ⟨fun h => absurd (by rw [this]; exact h) hk, fun _ => by rw [e, this]⟩
  refine ⟨oX, fun x y hx hy e => ?_, fun x t hx e => ?_, fun x c hx e => ?_, id_ 0 0 oX.pos ko.pos h⟩
  · rw [← (nu x hx).2, ← (nu y hy).2, e]
  · obtain ⟨a, b, q⟩ := knu x t hx e
    refine ⟨a, b, q.mark, fun i g' y hg hy => ?_⟩
    have hgl := ko.row_lt a (List.mem_of_getElem? hg)
    have hyl := oX.row_lt hx (List.mem_of_getElem? hy)
    have q2 := Eqv.goal q (goals_at hg hy)
    have kg := kern_goal b (List.mem_of_getElem? hg)
    obtain ⟨t', e', _⟩ := (id_ y g' hyl hgl q2.fq).1 ⟨g', hgl, kg, rfl⟩
    obtain ⟨a', b', q'⟩ := knu y t' hyl e'
    rw [e', C.min t' g' a' hgl (Eqv.trans ko oX ko a' hyl hgl q' (Eqv.symm q2))]
  · obtain ⟨hk, s0, a, b, q⟩ := enu x c hx e
    refine ⟨hk, fun s i g' y hs es hg hy => ?_⟩
    have qs : Fq M X s x := Fq.trans ko ko oX hs a hx ((C.k.iff s s0 hs a).mp (es.trans b.symm)) q
    exact id_ y g' (oX.row_lt hx (List.mem_of_getElem? hy)) (ko.row_lt hs (List.mem_of_getElem? hg)) (Fq.goal qs (goals_at hg hy))
theorem Fit.len (C : Kds L nC M kd) (F : Fit L M kd X ν) (hν : ∀ x, x < X.1.length → ν x ∈ NLs nC M kd) : X.1.length = (NLs nC M kd).length := by
  obtain ⟨w, hw, _⟩ := F.ge C
  have hq : Fq M X 0 0 := fq_tot.mp (by rw [hw]; rfl)
  obtain ⟨g, G⟩ := cop_of C F.ok hq
  refine Nat.le_antisymm ?_ (G.len C F.ok)
  have := nodup_le (n := (NLs nC M kd).length) (map_nodup (f := ν) (List.nodup_range (n := X.1.length)) fun a ha b hb e => F.inj a b (List.mem_range.mp ha) (List.mem_range.mp hb) e) (all := NLs nC M kd) (fun x hx => by
    obtain ⟨y, hy, rfl⟩ := List.mem_map.mp hx
    exact hν y (List.mem_range.mp hy)) (Nat.le_refl _)
  simpa using this
structure Best (L nC : Nat) (M : Mc) (kd : Nat → Nat) (X : Mc) (ν : Nat → Nd) : Prop where
  beg : KK M kd (kd 0) → gap M 0 (ν 0).2 = begC M kd
  mark : ¬ KK M kd (kd 0) → ∀ c, c < nC → ¬ KK M kd c → (if xiOf X ν c ∈ X.2 then badC M kd c else goodC M kd c) = min (goodC M kd c) (badC M kd c)
  exit : ¬ KK M kd (kd 0) → ∀ c a, c < nC → ¬ KK M kd c → a < L → KK M kd (lat M kd c a) → costT M kd c a (ttOf X ν c a) = exitC M kd c a
theorem Fit.best (C : Kds L nC M kd) (F : Fit L M kd X ν) (B : Best L nC M kd X ν) : tot M X (0, 0) = some (WF L nC M kd) := by
  unfold WF
  by_cases h0 : KK M kd (kd 0)
  · rw [if_neg (by rw [sty_kk.mpr h0]; decide)]
    obtain ⟨t, h1, h2, h3, h4, h5⟩ := F.cost0 C.k h0
    have hf : (tot M M (0, t)).isSome = true := fq_tot.mpr ((C.k.iff 0 t C.k.ok.pos h2).mp h4.symm)
    obtain ⟨w, hw⟩ := Option.isSome_iff_exists.mp hf
    have := B.beg h0
    rw [h1] at this
    rw [← this, h5, hw]
    unfold gap
    rw [hw]
    rfl
  · rw [if_pos (sty_nk.mpr h0), F.cost_kinds C h0]
    congr 1
    refine sum_congr fun c hc => ?_
    obtain ⟨h1, h2⟩ := List.mem_filter.mp hc
    have hc : c < nC := by
      rw [List.mem_range'_1] at h1
      omega
    have hk := sty_nk.mp h2
    unfold eC eX
    rw [B.mark h0 c hc hk]
    congr 1
    refine sum_congr fun a ha => ?_
    have ha : a < L := by
      rw [List.mem_range'_1] at ha
      omega
    by_cases he : (sty M kd (lat M kd c a)).isEmpty = true
    · rw [if_pos he]
      unfold exitC
      rw [if_pos he]
    · rw [if_neg he]
      exact B.exit h0 c a hc hk ha (sty_kk.mp (by simpa using he))
end
end B
namespace B
open PySem
def zipN (xs : List Nat) : List (Nat × Nat) := xs.zipIdx.map fun p => (p.2, p.1)
noncomputable def finB (M : Mc) (a b : Nat) : Bool := (tot M M (a, b)).isSome
theorem finB_iff {M : Mc} {a b : Nat} : finB M a b = true ↔ Fq M M a b := fq_tot
noncomputable def likeL (M : Mc) (firsts : List Nat) (s : Nat) : List Nat := (List.range' 0 firsts.length).filter fun k => finB M (firsts.getD k 0) s
noncomputable def kStep (M : Mc) (st : List Nat × List Nat) (s : Nat) : List Nat × List Nat :=
  match likeL M st.2 s with
  | [] => (st.1 ++ [st.2.length], st.2 ++ [s])
  | k :: _ => (st.1 ++ [k], st.2)
noncomputable def kSt (M : Mc) (i : Nat) : List Nat × List Nat := (List.range' 0 i).foldl (kStep M) ([], [])
theorem kSt_succ (M : Mc) (i : Nat) : kSt M (i + 1) = kStep M (kSt M i) i := by
  unfold kSt
  rw [List.range'_concat, List.foldl_append]
  show kStep M _ (0 + 1 * i) = _
  rw [Nat.zero_add, Nat.one_mul]
noncomputable def kindL (M : Mc) : List Nat := (kSt M M.1.length).1
noncomputable def kdOf (M : Mc) (s : Nat) : Nat := (kindL M).getD s 0
noncomputable def nCof (M : Mc) : Nat := (kSt M M.1.length).2.length
structure KSt (M : Mc) (i : Nat) (f fs : List Nat) : Prop where
  len : f.length = i
  at_ : ∀ (s c : Nat), f[s]? = some c → ∃ t : Nat, fs[c]? = some t ∧ Fq M M t s
  fst_ : ∀ (c t : Nat), fs[c]? = some t → t < i ∧ f[t]? = some c
  ne : ∀ (c d t u : Nat), fs[c]? = some t → fs[d]? = some u → Fq M M t u → c = d
theorem kSt_spec {L : Nat} {M : Mc} (o : OkM L M) : ∀ i, i ≤ M.1.length → KSt M i (kSt M i).1 (kSt M i).2
  | 0, _ => ⟨rfl, fun s c h => by simp [kSt] at h, fun c t h => by simp [kSt] at h, fun c d t u h => by simp [kSt] at h⟩
  | i + 1, hi => by
    have ih := kSt_spec o i (by omega)
    rw [kSt_succ]
    generalize hst : kSt M i = st at ih
    obtain ⟨f, fs⟩ := st
    dsimp only at ih
    have hlike : ∀ k, k ∈ likeL M fs i ↔ ∃ t, fs[k]? = some t ∧ Fq M M t i := fun k => by
      unfold likeL
      rw [List.mem_filter, List.mem_range'_1, finB_iff]
      constructor
      · rintro ⟨h1, h2⟩
        have hk : fs[k]? = some fs[k] := List.getElem?_eq_getElem (by omega)
        refine ⟨_, hk, ?_⟩
        rw [List.getD_eq_getElem?_getD, hk] at h2
        exact h2
      · rintro ⟨t, h1, h2⟩
        refine ⟨⟨Nat.zero_le _, by have := (List.getElem?_eq_some_iff.mp h1).1; omega⟩, ?_⟩
        rw [List.getD_eq_getElem?_getD, h1]
        exact h2
    unfold kStep
    dsimp only
    cases hl : likeL M fs i with
    | nil =>
      dsimp only
      have hno : ∀ (c t : Nat), fs[c]? = some t → ¬ Fq M M t i := fun c t h1 h2 => by
        have := (hlike c).mpr ⟨t, h1, h2⟩
        rw [hl] at this
        cases this
      have fsapp : ∀ (c t : Nat), (fs ++ [i])[c]? = some t → (c < fs.length ∧ fs[c]? = some t) ∨ (c = fs.length ∧ t = i) := fun c t h => by
        rcases Nat.lt_or_ge c fs.length with hc | hc
        · rw [List.getElem?_append_left hc] at h
          exact .inl ⟨hc, h⟩
        · rw [List.getElem?_append_right hc] at h
          have h1 := (List.getElem?_eq_some_iff.mp h).1
          have e : c - fs.length = 0 := by simpa using h1
          rw [e] at h
          exact .inr ⟨by omega, (Option.some.inj h).symm⟩
      refine ⟨by simp [ih.len], fun s c h => ?_, fun c t h => ?_, fun c d t u h1 h2 h3 => ?_⟩
      · rcases Nat.lt_or_ge s f.length with hs | hs
        · rw [List.getElem?_append_left hs] at h
          obtain ⟨t, a, b⟩ := ih.at_ s c h
          exact ⟨t, by rw [List.getElem?_append_left (List.getElem?_eq_some_iff.mp a).1]; exact a, b⟩
        · rw [List.getElem?_append_right hs] at h
          have h1 := (List.getElem?_eq_some_iff.mp h).1
          have e : s - f.length = 0 := by simpa using h1
          rw [e] at h
          have ec : c = fs.length := (Option.some.inj h).symm
          have es : s = i := by have := ih.len; omega
          subst ec es
          exact ⟨s, by rw [List.getElem?_append_right (Nat.le_refl _), Nat.sub_self] <;> rfl, Fq.refl M s⟩
      · rcases fsapp c t h with ⟨hc, h⟩ | ⟨rfl, rfl⟩
        · obtain ⟨a, b⟩ := ih.fst_ c t h
          exact ⟨by omega, by rw [List.getElem?_append_left (List.getElem?_eq_some_iff.mp b).1]; exact b⟩
        · exact ⟨by omega, by rw [← ih.len, List.getElem?_append_right (Nat.le_refl _), Nat.sub_self] <;> rfl⟩
      · rcases fsapp c t h1 with ⟨hc, g1⟩ | ⟨ec, et⟩ <;> rcases fsapp d u h2 with ⟨hd, g2⟩ | ⟨ed, eu⟩
        · exact ih.ne c d t u g1 g2 h3
        · rw [eu] at h3
          exact absurd h3 (hno c t g1)
        · rw [et] at h3
          exact absurd h3.symm (hno d u g2)
        · rw [ec, ed]
    | cons k r =>
      dsimp only
      obtain ⟨t, ht, hq⟩ := (hlike k).mp (by rw [hl]; exact List.mem_cons_self)
      refine ⟨by simp [ih.len], fun s c h => ?_, fun c t h => ?_, ih.ne⟩
      · rcases Nat.lt_or_ge s f.length with hs | hs
        · rw [List.getElem?_append_left hs] at h
          exact ih.at_ s c h
        · rw [List.getElem?_append_right hs] at h
          have h1 := (List.getElem?_eq_some_iff.mp h).1
          have e : s - f.length = 0 := by simpa using h1
          rw [e] at h
          have ec : c = k := (Option.some.inj h).symm
          have es : s = i := by have := ih.len; omega
          subst ec es
          exact ⟨t, ht, hq⟩
      · obtain ⟨a, b⟩ := ih.fst_ c t h
        exact ⟨by omega, by rw [List.getElem?_append_left (List.getElem?_eq_some_iff.mp b).1]; exact b⟩
theorem kindL_len {L : Nat} {M : Mc} (o : OkM L M) : (kindL M).length = M.1.length := (kSt_spec o _ (Nat.le_refl _)).len
theorem kd_at {L : Nat} {M : Mc} (o : OkM L M) {s : Nat} (h : s < M.1.length) : (kindL M)[s]? = some (kdOf M s) := by
  unfold kdOf
  rw [List.getD_eq_getElem?_getD, List.getElem?_eq_getElem (by rw [kindL_len o]; exact h)]
  rfl
theorem kds_of {L : Nat} {M : Mc} (o : OkM L M) (hmin : ∀ a b, a < M.1.length → b < M.1.length → Eqv M M a b → a = b) (hr : ∀ s, s < M.1.length → ∃ j, s ∈ ends M j) (hg : ∀ s ∈ M.2, s < M.1.length) : Kds L (nCof M) M (kdOf M) := by
  have sp := kSt_spec o _ (Nat.le_refl M.1.length)
  have first : ∀ s, s < M.1.length → ∃ t, (kSt M M.1.length).2[kdOf M s]? = some t ∧ t < M.1.length ∧ Fq M M t s := fun s hs => by
    obtain ⟨t, h1, h2⟩ := sp.at_ s _ (kd_at o hs)
    exact ⟨t, h1, (sp.fst_ _ t h1).1, h2⟩
  refine ⟨⟨o, fun a b ha hb => ?_⟩, fun s hs => ?_, fun c hc => ?_, hmin, hr, hg⟩
  · obtain ⟨t, h1, h2, h3⟩ := first a ha
    obtain ⟨u, g1, g2, g3⟩ := first b hb
    constructor
    · intro e
      rw [e, g1] at h1
      cases h1
      exact Fq.trans o o o ha h2 hb h3.symm g3
    · intro h
      exact sp.ne _ _ t u h1 g1 (Fq.trans o o o h2 ha g2 h3 (Fq.trans o o o ha hb g2 h g3.symm))
  · obtain ⟨t, h1, _⟩ := first s hs
    exact (List.getElem?_eq_some_iff.mp h1).1
  · have h : (kSt M M.1.length).2[c]? = some ((kSt M M.1.length).2[c]'hc) := List.getElem?_eq_getElem hc
    obtain ⟨h1, h2⟩ := sp.fst_ c _ h
    refine ⟨_, h1, ?_⟩
    unfold kdOf
    rw [List.getD_eq_getElem?_getD]
    show ((kSt M M.1.length).1[_]?).getD 0 = c
    rw [h2]
    rfl
noncomputable def dueF (L : Nat) (m : Mc) : Nat := WF L (nCof (leastM m)) (leastM m) (kdOf (leastM m))
noncomputable def fewF (m : Mc) : Nat := (NLs (nCof (leastM m)) (leastM m) (kdOf (leastM m))).length
section
variable {L : Nat} {m X : Mc}
theorem least_kds (o : OkM L m) : Kds L (nCof (leastM m)) (leastM m) (kdOf (leastM m)) :=
  kds_of (least_ok o) (fun _ _ ha hb => least_min o ha hb) (fun _ hs => least_reach o hs) (least_good o).lt
theorem tot_least (o : OkM L m) (oX : OkM L X) : tot m X (0, 0) = tot (leastM m) X (0, 0) := fin_congr fun k => (cnt_left (least_ok o) o oX (least_ok o).pos o.pos oX.pos (least_zero o) k).symm
theorem due_le (o : OkM L m) (oX : OkM L X) (hl : X.1.length = fewF m) {w : Nat} (h : tot m X (0, 0) = some w) : dueF L m ≤ w := by
  rw [tot_least o oX] at h
  have C := least_kds o
  obtain ⟨ν, F⟩ := fit_of C oX (fq_tot.mp (by rw [h]; rfl)) hl
  obtain ⟨w', h1, h2⟩ := F.ge C
  rw [h] at h1
  cases h1
  exact h2
theorem due_eq (o : OkM L m) {ν : Nat → Nd} (F : Fit L (leastM m) (kdOf (leastM m)) X ν) (b : Best L (nCof (leastM m)) (leastM m) (kdOf (leastM m)) X ν) : tot m X (0, 0) = some (dueF L m) := by
  rw [tot_least o F.ok]
  exact F.best (least_kds o) b
theorem few_le (o : OkM L m) : fewF m ≤ (leastM m).1.length := by
  have C := least_kds o
  obtain ⟨g, G⟩ := cop_of C (least_ok o) (Fq.refl _ 0)
  exact G.len C (least_ok o)
end
end B
namespace B
open PySem
section
variable {L nC : Nat} {M : Mc} {kd : Nat → Nat} {α : Type} [DecidableEq α]
structure NxOk (L nC : Nat) (M : Mc) (kd : Nat → Nat) (nx : α → List α) (b : α) (mk : α → Bool) (φ : α → Nd) (V : α → Prop) : Prop where
  vb : V b
  vcl : ∀ x, V x → ∀ g ∈ nx x, V g
  inj : ∀ x y, V x → V y → φ x = φ y → x = y
  nl : ∀ x, V x → φ x ∈ NLs nC M kd
  kern : ∀ x s, V x → φ x = kn s → mk x = decide (s ∈ M.2) ∧ (nx x).map φ = (row M s).map kn
  early : ∀ x c, V x → φ x = er c → (nx x).length = L ∧ ∀ (s a g : Nat) y, s < M.1.length → kd s = c → (row M s)[a]? = some g → (nx x)[a]? = some y → (KK M kd (kd g) → ∃ t, φ y = kn t ∧ kd t = kd g) ∧ (¬ KK M kd (kd g) → φ y = er (kd g))
  zero : (KK M kd (kd 0) → ∃ t, φ b = kn t ∧ kd t = kd 0) ∧ (¬ KK M kd (kd 0) → φ b = er (kd 0))
variable {nx : α → List α} {b : α} {mk : α → Bool} {φ : α → Nd} {V : α → Prop}
theorem NLs_le (C : Kds L nC M kd) : (NLs nC M kd).length ≤ M.1.length := by
  obtain ⟨g, G⟩ := cop_of C C.k.ok (Fq.refl _ 0)
  exact G.len C C.k.ok
theorem NxOk.le (C : Kds L nC M kd) (N : NxOk L nC M kd nx b mk φ V) {l : List α} (h1 : l.Nodup) (h2 : ∀ x ∈ l, V x) : l.length ≤ (NLs nC M kd).length := by
  have := nodup_le (n := (NLs nC M kd).length) (map_nodup (f := φ) h1 fun a ha b hb e => N.inj a b (h2 a ha) (h2 b hb) e) (all := NLs nC M kd) (fun x hx => by
    obtain ⟨y, hy, rfl⟩ := List.mem_map.mp hx
    exact N.nl y (h2 y hy)) (Nat.le_refl _)
  simpa using this
theorem NxOk.le8 (C : Kds L nC M kd) (N : NxOk L nC M kd nx b mk φ V) {l : List α} (h1 : l.Nodup) (h2 : ∀ x ∈ l, V x) : l.length ≤ 8 :=
  Nat.le_trans (N.le C h1 h2) (Nat.le_trans (NLs_le C) C.k.ok.le8)
abbrev walkN (nx : α → List α) (b : α) : List α := bfs nx 65 [b] 0
theorem NxOk.spec (C : Kds L nC M kd) (N : NxOk L nC M kd nx b mk φ V) : BfsR nx [b] (walkN nx b) :=
  bfs_spec (V := V) (B := 8) N.vcl (fun l h1 h2 => N.le8 C h1 h2) 65 [b] 0 (by simp) (fun x hx => by rw [List.mem_singleton.mp hx]; exact N.vb) (fun i x hi => absurd hi (Nat.not_lt_zero i)) (by omega)
theorem NxOk.all (C : Kds L nC M kd) (N : NxOk L nC M kd nx b mk φ V) : ∀ x ∈ walkN nx b, V x :=
  (N.spec C).ind V (fun x hx => by rw [List.mem_singleton.mp hx]; exact N.vb) N.vcl
def nuOf (φ : α → Nd) (LN : List α) (k : Nat) : Nd := match LN[k]? with
  | some x => φ x
  | none => kn 0
theorem nuOf_at {LN : List α} {k : Nat} {x : α} (h : LN[k]? = some x) : nuOf φ LN k = φ x := by
  unfold nuOf
  rw [h]
theorem bfsRows_at {nx : α → List α} {LN : List α} {g : List Nat} {k a : Nat} {x : α} {y : Nat} (h : LN[k]? = some x) (hy : (row (bfsRows nx LN, g) k)[a]? = some y) : ∃ z, (nx x)[a]? = some z ∧ y = LN.idxOf z := by
  rw [bfsRows_row h, List.getElem?_map] at hy
  cases hz : (nx x)[a]? with
  | none =>
    rw [hz] at hy
    cases hy
  | some z =>
    rw [hz] at hy
    exact ⟨z, rfl, (Option.some.inj hy).symm⟩
variable {gd : List Nat}
theorem NxOk.fit (C : Kds L nC M kd) (N : NxOk L nC M kd nx b mk φ V) (hg : ∀ (k : Nat) x, (walkN nx b)[k]? = some x → (k ∈ gd ↔ mk x = true)) : Fit L M kd (bfsRows nx (walkN nx b), gd) (nuOf φ (walkN nx b)) := by
  have sp := N.spec C
  have av := N.all C
  generalize hLN : walkN nx b = LN at sp av hg
  have ln : (bfsRows nx LN).length = LN.length := bfsRows_len _ _
  have atk : ∀ k, k < (bfsRows nx LN).length → ∃ x, LN[k]? = some x ∧ V x := fun k hk => by
    rw [ln] at hk
    have h : LN[k]? = some LN[k] := List.getElem?_eq_getElem hk
    exact ⟨_, h, av _ (List.mem_of_getElem? h)⟩
  have at0 : LN[0]? = some b := by
    obtain ⟨more, h⟩ := sp.pre
    rw [h]
    rfl
  have lenx : ∀ x, V x → (nx x).length = L := fun x hx => by
    rcases NLs_cases (N.nl x hx) with ⟨s, e⟩ | ⟨c, e⟩
    · have h1 := congrArg List.length (N.kern x s hx e).2
      rw [List.length_map, List.length_map] at h1
      have h2 := N.nl x hx
      rw [e] at h2
      rw [h1, C.k.ok.row_len (mem_NLs_kn.mp h2).1]
    · exact (N.early x c hx e).1
  have oX : OkM L (bfsRows nx LN, gd) := by
    refine ⟨?_, ?_, ?_, ?_⟩
    · show 1 ≤ (bfsRows nx LN).length
      rw [ln]
      exact (List.getElem?_eq_some_iff.mp at0).1
    · show (bfsRows nx LN).length ≤ 8
      rw [ln]
      exact N.le8 C sp.nd av
    · intro r hr
      obtain ⟨x, hx, rfl⟩ := List.mem_map.mp hr
      rw [List.length_map]
      exact lenx x (av x hx)
    · intro r hr g hg
      obtain ⟨x, hx, rfl⟩ := List.mem_map.mp hr
      obtain ⟨z, hz, rfl⟩ := List.mem_map.mp hg
      show _ < (bfsRows nx LN).length
      rw [ln]
      exact idx_lt (sp.cl x hx z hz)
  refine ⟨oX, fun x y hx hy e => ?_, fun k s hk e => ?_, fun k c hk e => ?_, ?_⟩
  · obtain ⟨u, hu, vu⟩ := atk x hx
    obtain ⟨w, hw, vw⟩ := atk y hy
    rw [nuOf_at hu, nuOf_at hw] at e
    have := N.inj u w vu vw e
    subst this
    rw [← at_idx sp.nd hu, ← at_idx sp.nd hw]
  · obtain ⟨x, hx, vx⟩ := atk k hk
    rw [nuOf_at hx] at e
    have h2 := N.nl x vx
    rw [e] at h2
    obtain ⟨h3, h4⟩ := mem_NLs_kn.mp h2
    obtain ⟨m1, m2⟩ := N.kern x s vx e
    refine ⟨h3, h4, ?_, fun a g y hgr hy => ?_⟩
    · rw [hg k x hx, m1, decide_eq_true_iff]
    · obtain ⟨z, hz, rfl⟩ := bfsRows_at hx hy
      rw [nuOf_at (idx_at (sp.cl x (List.mem_of_getElem? hx) z (List.mem_of_getElem? hz)))]
      have e1 : ((nx x).map φ)[a]? = some (φ z) := by rw [List.getElem?_map, hz] <;> rfl
      rw [m2, List.getElem?_map, hgr] at e1
      exact (Option.some.inj e1).symm
  · obtain ⟨x, hx, vx⟩ := atk k hk
    rw [nuOf_at hx] at e
    have h2 := N.nl x vx
    rw [e] at h2
    refine ⟨(mem_NLs_er.mp h2).2, fun s a g y hs es hgr hy => ?_⟩
    obtain ⟨z, hz, rfl⟩ := bfsRows_at hx hy
    rw [nuOf_at (idx_at (sp.cl x (List.mem_of_getElem? hx) z (List.mem_of_getElem? hz)))]
    exact (N.early x c vx e).2 s a g z hs es hgr hz
  · rw [nuOf_at at0]
    exact N.zero
theorem NxOk.len (C : Kds L nC M kd) (N : NxOk L nC M kd nx b mk φ V) : (walkN nx b).length = (NLs nC M kd).length := by
  have F := N.fit (gd := (List.range (walkN nx b).length).filter fun k => (walkN nx b)[k]?.any mk) C fun k x h => by
    have hk := (List.getElem?_eq_some_iff.mp h).1
    rw [List.mem_filter, List.mem_range, h]
    exact ⟨fun q => q.2, fun q => ⟨hk, q⟩⟩
  have := F.len C fun x hx => by
    rw [show (bfsRows nx (walkN nx b), _).1.length = _ from bfsRows_len _ _] at hx
    have h : (walkN nx b)[x]? = some (walkN nx b)[x] := List.getElem?_eq_getElem hx
    rw [nuOf_at h]
    exact N.nl _ (N.all C _ (List.mem_of_getElem? h))
  rw [← this]
  exact (bfsRows_len _ _).symm
theorem NxOk.sum (C : Kds L nC M kd) (N : NxOk L nC M kd nx b mk φ V) (f : Nd → Nat) : ((walkN nx b).map fun x => f (φ x)).sum = ((NLs nC M kd).map f).sum := by
  have hl := N.len C
  have sp := N.spec C
  have av := N.all C
  have nd := map_nodup (f := φ) sp.nd fun a ha b hb e => N.inj a b (av a ha) (av b hb) e
  have p : ((walkN nx b).map φ).Perm (NLs nC M kd) := (List.perm_ext_iff_of_nodup nd NLs_nodup).mpr fun y => ⟨fun hy => by
    obtain ⟨x, hx, rfl⟩ := List.mem_map.mp hy
    exact N.nl x (av x hx), fun hy => Classical.byContradiction fun hn => by
    have := nodup_le (n := (NLs nC M kd).length - 1) nd (all := (NLs nC M kd).erase y) (fun z hz => (List.mem_erase_of_ne fun e : z = y => hn (by rw [← e]; exact hz)).mpr (by
      obtain ⟨x, hx, rfl⟩ := List.mem_map.mp hz
      exact N.nl x (av x hx))) (by rw [List.length_erase_of_mem hy]; exact Nat.le_refl _)
    have hp := List.length_pos_of_mem hy
    rw [List.length_map, hl] at this
    omega⟩
  have := (p.map f).sum_nat
  rw [List.map_map] at this
  exact this
end
def bestSt (f : Nat → Nat) (l : List Nat) : Nat := (l.find? fun t => decide (f t = minL (l.map f))).getD 0
theorem bestSt_spec {f : Nat → Nat} {l : List Nat} (h : l ≠ []) : bestSt f l ∈ l ∧ f (bestSt f l) = minL (l.map f) := by
  unfold bestSt
  cases hf : l.find? (fun t => decide (f t = minL (l.map f))) with
  | none =>
    obtain ⟨t, ht, e⟩ := List.mem_map.mp (minL_mem (l := l.map f) (by simpa using h))
    exact absurd (decide_eq_true e) (List.find?_eq_none.mp hf t ht)
  | some t => exact ⟨List.mem_of_find?_eq_some hf, of_decide_eq_true (List.find?_some (p := fun t => decide (f t = minL (l.map f))) hf)⟩
theorem bestSt_first {f : Nat → Nat} {l : List Nat} (hs : l.Pairwise (· < ·)) {t : Nat} (ht : t ∈ l) : f (bestSt f l) < f t ∨ (f (bestSt f l) = f t ∧ bestSt f l ≤ t) := by
  have hne : l ≠ [] := List.ne_nil_of_mem ht
  obtain ⟨h1, h2⟩ := bestSt_spec (f := f) hne
  have h3 : f (bestSt f l) ≤ f t := by
    rw [h2]
    exact minL_le (List.mem_map_of_mem ht)
  rcases Nat.lt_or_ge (f (bestSt f l)) (f t) with h | h
  · exact .inl h
  · refine .inr ⟨by omega, ?_⟩
    have e : f t = minL (l.map f) := by omega
    unfold bestSt
    generalize minL (l.map f) = m at e
    clear h1 h2 h3 h hne
    induction l with
    | nil => cases ht
    | cons x l ih =>
      rw [List.find?_cons]
      by_cases hx : f x = m
      · rw [decide_eq_true hx]
        show x ≤ t
        rcases List.mem_cons.mp ht with rfl | ht
        · exact Nat.le_refl _
        · exact Nat.le_of_lt ((List.pairwise_cons.mp hs).1 t ht)
      · rw [decide_eq_false hx]
        rcases List.mem_cons.mp ht with rfl | ht
        · exact absurd e hx
        · exact ih (List.pairwise_cons.mp hs).2 ht
section
variable (L : Nat) (M : Mc) (kd : Nat → Nat)
noncomputable def goalNd (c a : Nat) : Nd := if (sty M kd (lat M kd c a)).isEmpty then er (lat M kd c a) else kn (bestSt (costT M kd c a) (sty M kd (lat M kd c a)))
noncomputable def nodeNx (nd : Nd) : List Nd := if nd.1 = "kernel" then (row M nd.2).map kn else (List.range' 0 L).map (goalNd M kd nd.2)
noncomputable def begNd : Nd := if (sty M kd (kd 0)).isEmpty then er (kd 0) else kn (bestSt (gap M 0) (sty M kd (kd 0)))
noncomputable def nodeMk (nd : Nd) : Bool := if nd.1 = "kernel" then decide (nd.2 ∈ M.2) else decide (badC M kd nd.2 < goodC M kd nd.2)
noncomputable def nodeCost (nd : Nd) : Nat := if nd.1 = "kernel" then 0 else eC L M kd nd.2
noncomputable def BN : List Nd := walkN (nodeNx L M kd) (begNd M kd)
noncomputable def builtX : Mc := (bfsRows (nodeNx L M kd) (BN L M kd), (List.range' 0 (BN L M kd).length).filter fun k => nodeMk M kd ((BN L M kd).getD k (kn 0)))
noncomputable def begCost : Nat := if (sty M kd (kd 0)).isEmpty then 0 else begC M kd
noncomputable def builtT : Nat := begCost M kd + ((BN L M kd).map (nodeCost L M kd)).sum
end
section
variable {L nC : Nat} {M : Mc} {kd : Nat → Nat}
theorem nodeNx_kn (s : Nat) : nodeNx L M kd (kn s) = (row M s).map kn := if_pos rfl
theorem nodeNx_er (c : Nat) : nodeNx L M kd (er c) = (List.range' 0 L).map (goalNd M kd c) := if_neg (show ¬ ("early" : Str) = "kernel" by decide)
theorem nodeMk_kn (s : Nat) : nodeMk M kd (kn s) = decide (s ∈ M.2) := if_pos rfl
theorem nodeMk_er (c : Nat) : nodeMk M kd (er c) = decide (badC M kd c < goodC M kd c) := if_neg (show ¬ ("early" : Str) = "kernel" by decide)
theorem nodeCost_kn (s : Nat) : nodeCost L M kd (kn s) = 0 := if_pos rfl
theorem nodeCost_er (c : Nat) : nodeCost L M kd (er c) = eC L M kd c := if_neg (show ¬ ("early" : Str) = "kernel" by decide)
theorem goalNd_kk {c a : Nat} (h : KK M kd (lat M kd c a)) : ∃ t, goalNd M kd c a = kn t ∧ t ∈ sty M kd (lat M kd c a) ∧ costT M kd c a t = exitC M kd c a := by
  have he := sty_kk.mpr h
  unfold goalNd exitC
  rw [if_neg (by rw [he]; decide), if_neg (by rw [he]; decide)]
  obtain ⟨h1, h2⟩ := bestSt_spec (f := costT M kd c a) (l := sty M kd (lat M kd c a)) (by intro e; rw [e] at he; cases he)
  exact ⟨_, rfl, h1, h2⟩
theorem goalNd_nk {c a : Nat} (h : ¬ KK M kd (lat M kd c a)) : goalNd M kd c a = er (lat M kd c a) := if_pos (sty_nk.mpr h)
theorem begNd_kk (h : KK M kd (kd 0)) : ∃ t, begNd M kd = kn t ∧ t ∈ sty M kd (kd 0) ∧ gap M 0 t = begC M kd := by
  have he := sty_kk.mpr h
  unfold begNd begC
  rw [if_neg (by rw [he]; decide)]
  obtain ⟨h1, h2⟩ := bestSt_spec (f := gap M 0) (l := sty M kd (kd 0)) (by intro e; rw [e] at he; cases he)
  exact ⟨_, rfl, h1, h2⟩
theorem begNd_nk (h : ¬ KK M kd (kd 0)) : begNd M kd = er (kd 0) := if_pos (sty_nk.mpr h)
theorem rng_at {n a : Nat} (h : a < n) : (List.range' 0 n)[a]? = some a := by
  rw [List.getElem?_range' h]
  congr 1
  omega
theorem built_ok (C : Kds L nC M kd) : NxOk L nC M kd (nodeNx L M kd) (begNd M kd) (nodeMk M kd) id (fun nd => nd ∈ NLs nC M kd) := by
  have ko := C.k.ok
  have latlt : ∀ c a, c < nC → a < L → lat M kd c a < nC := fun c a hc ha => by
    obtain ⟨s, hs, e⟩ := C.on c hc
    rw [C.lat_eq hs e ha]
    exact C.lt _ (ltr_lt ko hs ha)
  refine ⟨?_, fun x hx g hg => ?_, fun x y _ _ e => e, fun x hx => hx, fun x s hx e => ?_, fun x c hx e => ?_, ?_⟩
  · by_cases h : KK M kd (kd 0)
    · obtain ⟨t, h1, h2, _⟩ := begNd_kk h
      rw [h1]
      obtain ⟨a, b, _⟩ := mem_sty.mp h2
      exact mem_NLs_kn.mpr ⟨a, b⟩
    · rw [begNd_nk h]
      exact mem_NLs_er.mpr ⟨C.lt 0 ko.pos, h⟩
  · rcases NLs_cases hx with ⟨s, rfl⟩ | ⟨c, rfl⟩
    · rw [nodeNx_kn] at hg
      obtain ⟨t, ht, rfl⟩ := List.mem_map.mp hg
      obtain ⟨a, b⟩ := mem_NLs_kn.mp hx
      exact mem_NLs_kn.mpr ⟨ko.row_lt a ht, kern_goal b ht⟩
    · rw [nodeNx_er] at hg
      obtain ⟨a, ha, rfl⟩ := List.mem_map.mp hg
      have ha : a < L := by
        rw [List.mem_range'_1] at ha
        omega
      obtain ⟨hc, hk⟩ := mem_NLs_er.mp hx
      by_cases h : KK M kd (lat M kd c a)
      · obtain ⟨t, h1, h2, _⟩ := goalNd_kk h
        rw [h1]
        obtain ⟨a, b, _⟩ := mem_sty.mp h2
        exact mem_NLs_kn.mpr ⟨a, b⟩
      · rw [goalNd_nk h]
        exact mem_NLs_er.mpr ⟨latlt c a hc ha, h⟩
  · have e : x = kn s := e
    subst e
    exact ⟨nodeMk_kn s, by rw [nodeNx_kn, List.map_id]⟩
  · have e : x = er c := e
    subst e
    obtain ⟨hc, hk⟩ := mem_NLs_er.mp hx
    rw [nodeNx_er]
    refine ⟨by simp, fun s a g y hs es hg hy => ?_⟩
    have ha : a < L := by
      have := (List.getElem?_eq_some_iff.mp hg).1
      rw [ko.row_len hs] at this
      exact this
    have eg : ltr M a s = g := Option.some.inj ((ltr_at ko hs ha).symm.trans hg)
    have el := C.lat_eq hs es ha
    rw [eg] at el
    rw [List.getElem?_map, rng_at ha] at hy
    have ey : goalNd M kd c a = y := Option.some.inj hy
    subst ey
    rw [← el]
    constructor
    · intro h
      obtain ⟨t, h1, h2, _⟩ := goalNd_kk h
      exact ⟨t, h1, (mem_sty.mp h2).2.2⟩
    · exact fun h => goalNd_nk h
  · constructor
    · intro h
      obtain ⟨t, h1, h2, _⟩ := begNd_kk h
      exact ⟨t, h1, (mem_sty.mp h2).2.2⟩
    · exact fun h => begNd_nk h
theorem built_fit (C : Kds L nC M kd) : Fit L M kd (builtX L M kd) (nuOf id (BN L M kd)) := (built_ok C).fit C fun k x h => by
  have hk := (List.getElem?_eq_some_iff.mp h).1
  show k ∈ (List.range' 0 (BN L M kd).length).filter _ ↔ _
  rw [List.mem_filter, List.mem_range'_1, List.getD_eq_getElem?_getD, show (BN L M kd)[k]? = some x from h]
  exact ⟨fun q => q.2, fun q => ⟨⟨Nat.zero_le _, by rw [Nat.zero_add]; exact hk⟩, q⟩⟩
theorem built_mem (C : Kds L nC M kd) {nd : Nd} (h : nd ∈ BN L M kd) : nd ∈ NLs nC M kd := (built_ok C).all C nd h
theorem built_best (C : Kds L nC M kd) : Best L nC M kd (builtX L M kd) (nuOf id (BN L M kd)) := by
  have F := built_fit C
  have sp := (built_ok C).spec C
  have ln : (builtX L M kd).1.length = (BN L M kd).length := bfsRows_len _ _
  have at0 : (BN L M kd)[0]? = some (begNd M kd) := by
    obtain ⟨more, h⟩ := sp.pre
    show (walkN (nodeNx L M kd) (begNd M kd))[0]? = _
    rw [h]
    rfl
  have atx : ∀ c, c < nC → ¬ KK M kd c → (BN L M kd)[xiOf (builtX L M kd) (nuOf id (BN L M kd)) c]? = some (er c) := fun c hc hk => by
    obtain ⟨hx, hν⟩ := F.xi C hc hk
    rw [ln] at hx
    have h : (BN L M kd)[xiOf (builtX L M kd) (nuOf id (BN L M kd)) c]? = some _ := List.getElem?_eq_getElem hx
    rw [nuOf_at h] at hν
    rw [h]
    exact congrArg some hν
  refine ⟨fun h => ?_, fun _ c hc hk => ?_, fun _ c a hc hk ha he => ?_⟩
  · obtain ⟨t, h1, _, h3⟩ := begNd_kk h
    rw [nuOf_at at0, h1]
    exact h3
  · have h := atx c hc hk
    have hm : xiOf (builtX L M kd) (nuOf id (BN L M kd)) c ∈ (builtX L M kd).2 ↔ badC M kd c < goodC M kd c := by
      have hk2 := (List.getElem?_eq_some_iff.mp h).1
      show _ ∈ (List.range' 0 (BN L M kd).length).filter _ ↔ _
      rw [List.mem_filter, List.mem_range'_1, List.getD_eq_getElem?_getD, h]
      show _ ∧ nodeMk M kd (er c) = true ↔ _
      rw [nodeMk_er, decide_eq_true_iff]
      exact ⟨fun q => q.2, fun q => ⟨⟨Nat.zero_le _, by simpa using hk2⟩, q⟩⟩
    by_cases hb : badC M kd c < goodC M kd c
    · rw [if_pos (hm.mpr hb)]
      omega
    · rw [if_neg (fun q => hb (hm.mp q))]
      omega
  · have h := atx c hc hk
    obtain ⟨hx, hν⟩ := F.xi C hc hk
    obtain ⟨t, h1, h2, h3⟩ := goalNd_kk he
    have hr := ltr_at F.ok hx ha
    obtain ⟨z, hz, ez⟩ := bfsRows_at (nx := nodeNx L M kd) (LN := BN L M kd) h hr
    rw [nodeNx_er, List.getElem?_map, rng_at ha] at hz
    have ez2 : goalNd M kd c a = z := Option.some.inj hz
    subst ez2
    have hmem : goalNd M kd c a ∈ BN L M kd := sp.cl (er c) (List.mem_of_getElem? h) _ (by
      rw [nodeNx_er]
      exact List.mem_map_of_mem (by rw [List.mem_range'_1]; omega))
    have ett : ttOf (builtX L M kd) (nuOf id (BN L M kd)) c a = t := by
      unfold ttOf
      rw [ez, nuOf_at (idx_at hmem), h1]
      rfl
    rw [ett]
    exact h3
theorem built_total (C : Kds L nC M kd) : builtT L M kd = WF L nC M kd := by
  have hs := (built_ok C).sum C (nodeCost L M kd)
  unfold builtT
  rw [show ((BN L M kd).map (nodeCost L M kd)).sum = _ from hs]
  have e1 : ((NLs nC M kd).map (nodeCost L M kd)).sum = (((List.range' 0 nC).filter fun c => (sty M kd c).isEmpty).map (eC L M kd)).sum := by
    unfold NLs
    rw [List.map_append, List.sum_append, List.map_map, List.map_map]
    have a1 : (((List.range' 0 M.1.length).filter (kernB M)).map (nodeCost L M kd ∘ kn)).sum = 0 := by
      have : ((List.range' 0 M.1.length).filter (kernB M)).map (nodeCost L M kd ∘ kn) = ((List.range' 0 M.1.length).filter (kernB M)).map fun _ => 0 := List.map_congr_left fun s _ => nodeCost_kn s
      rw [this, List.map_const', List.sum_replicate_nat, Nat.mul_zero]
    rw [a1, Nat.zero_add]
    exact sum_congr fun c _ => nodeCost_er c
  rw [e1]
  unfold begCost WF
  by_cases h : KK M kd (kd 0)
  · have he := sty_kk.mpr h
    rw [if_neg (by rw [he]; decide), if_neg (by rw [he]; decide)]
    have hall : ∀ k, ∀ s ∈ ends M k, KK M kd (kd s) := by
      intro k
      induction k with
      | zero =>
        intro s hs
        rw [List.mem_singleton.mp hs]
        exact h
      | succ k ih =>
        intro s hs
        obtain ⟨r, hr, hg⟩ := List.mem_flatMap.mp hs
        obtain ⟨a, ha⟩ := List.mem_iff_getElem?.mp hg
        exact C.k.kk_goal (ends_lt C.k.ok k r hr) (ih r hr) ha
    have : (List.range' 0 nC).filter (fun c => (sty M kd c).isEmpty) = [] := List.filter_eq_nil_iff.mpr fun c hc he' => by
      have hc : c < nC := by
        rw [List.mem_range'_1] at hc
        omega
      obtain ⟨s, hs, e⟩ := C.on c hc
      obtain ⟨j, hj⟩ := C.reach s hs
      have := hall j s hj
      rw [e] at this
      exact sty_nk.mp he' this
    rw [this]
    rfl
  · rw [if_pos (sty_nk.mpr h), if_pos (sty_nk.mpr h), Nat.zero_add]
end
end B
namespace B
open PySem
section
variable (M : Mc) (kd : Nat → Nat)
noncomputable def keepF (c : Nat) : Nat := match sty M kd c with
  | t :: _ => t
  | [] => (cls M kd c).getD 0 0
noncomputable def glF (s : Nat) : Nat := if kernB M s then s else keepF M kd (kd s)
noncomputable def leanNx (s : Nat) : List Nat := (row M s).map (glF M kd)
noncomputable def leanB : Nat := glF M kd 0
noncomputable def phiL (s : Nat) : Nd := if kernB M s then kn s else er (kd s)
end
section
variable {L nC : Nat} {M : Mc} {kd : Nat → Nat}
theorem keep_kk {c : Nat} (h : KK M kd c) : keepF M kd c ∈ sty M kd c := by
  have he := sty_kk.mpr h
  unfold keepF
  cases hs : sty M kd c with
  | nil =>
    rw [hs] at he
    cases he
  | cons t r => exact List.mem_cons_self
theorem keep_nk (C : Kds L nC M kd) {c : Nat} (hc : c < nC) (h : ¬ KK M kd c) : keepF M kd c < M.1.length ∧ kd (keepF M kd c) = c := by
  have he := sty_nk.mpr h
  unfold keepF
  rw [List.isEmpty_iff.mp he]
  obtain ⟨s0, r, e, h1, h2⟩ := C.cls_ne hc
  dsimp only
  rw [e]
  exact ⟨h1, h2⟩
theorem gl_spec (C : Kds L nC M kd) {s : Nat} (hs : s < M.1.length) : glF M kd s < M.1.length ∧ kd (glF M kd s) = kd s ∧ ((KK M kd (kd s) ∧ Kern M (glF M kd s)) ∨ (¬ KK M kd (kd s) ∧ glF M kd s = keepF M kd (kd s))) := by
  unfold glF
  by_cases hk : kernB M s = true
  · rw [if_pos hk]
    exact ⟨hs, rfl, .inl ⟨⟨s, hs, kernB_iff.mp hk, rfl⟩, kernB_iff.mp hk⟩⟩
  · rw [if_neg hk]
    by_cases h : KK M kd (kd s)
    · obtain ⟨a, b, c⟩ := mem_sty.mp (keep_kk h)
      exact ⟨a, c, .inl ⟨h, b⟩⟩
    · obtain ⟨a, b⟩ := keep_nk C (C.lt s hs) h
      exact ⟨a, b, .inr ⟨h, rfl⟩⟩
theorem phi_gl (C : Kds L nC M kd) {s : Nat} (hs : s < M.1.length) : (KK M kd (kd s) → ∃ t, phiL M kd (glF M kd s) = kn t ∧ kd t = kd s) ∧ (¬ KK M kd (kd s) → phiL M kd (glF M kd s) = er (kd s)) := by
  obtain ⟨h1, h2, h3⟩ := gl_spec C hs
  unfold phiL
  rcases h3 with ⟨hk, hr⟩ | ⟨hk, hr⟩
  · rw [if_pos (kernB_iff.mpr hr)]
    exact ⟨fun _ => ⟨_, rfl, h2⟩, fun q => absurd hk q⟩
  · rw [if_neg (fun q => hk ⟨_, h1, kernB_iff.mp q, h2⟩), h2]
    exact ⟨fun q => absurd q hk, fun _ => rfl⟩
theorem lean_ok (C : Kds L nC M kd) : NxOk L nC M kd (leanNx M kd) (leanB M kd) (fun s => decide (s ∈ M.2)) (phiL M kd) (fun s => s < M.1.length ∧ (Kern M s ∨ (¬ KK M kd (kd s) ∧ s = keepF M kd (kd s)))) := by
  have ko := C.k.ok
  have vgl : ∀ s, s < M.1.length → glF M kd s < M.1.length ∧ (Kern M (glF M kd s) ∨ (¬ KK M kd (kd (glF M kd s)) ∧ glF M kd s = keepF M kd (kd (glF M kd s)))) := fun s hs => by
    obtain ⟨h1, h2, h3⟩ := gl_spec C hs
    refine ⟨h1, ?_⟩
    rw [h2]
    exact h3.imp (fun h => h.2) fun h => h
  refine ⟨vgl 0 ko.pos, fun x hx g hg => ?_, fun x y hx hy e => ?_, fun x hx => ?_, fun x s hx e => ?_, fun x c hx e => ?_, phi_gl C ko.pos⟩
  · obtain ⟨t, ht, rfl⟩ := List.mem_map.mp hg
    exact vgl t (ko.row_lt hx.1 ht)
  · unfold phiL at e
    by_cases kx : kernB M x = true <;> by_cases ky : kernB M y = true
    · rw [if_pos kx, if_pos ky] at e
      exact congrArg Prod.snd e
    · rw [if_pos kx, if_neg ky] at e
      exact absurd e kn_er
    · rw [if_neg kx, if_pos ky] at e
      exact absurd e.symm kn_er
    · rw [if_neg kx, if_neg ky] at e
      have e : kd x = kd y := congrArg Prod.snd e
      obtain ⟨_, ex⟩ := hx.2.resolve_left fun q => kx (kernB_iff.mpr q)
      obtain ⟨_, ey⟩ := hy.2.resolve_left fun q => ky (kernB_iff.mpr q)
      rw [ex, ey, e]
  · unfold phiL
    by_cases kx : kernB M x = true
    · rw [if_pos kx]
      exact mem_NLs_kn.mpr ⟨hx.1, kernB_iff.mp kx⟩
    · rw [if_neg kx]
      exact mem_NLs_er.mpr ⟨C.lt x hx.1, (hx.2.resolve_left fun q => kx (kernB_iff.mpr q)).1⟩
  · unfold phiL at e
    by_cases kx : kernB M x = true
    · rw [if_pos kx] at e
      have e : x = s := congrArg Prod.snd e
      subst e
      refine ⟨rfl, ?_⟩
      unfold leanNx
      rw [List.map_map]
      refine List.map_congr_left fun g hg => ?_
      have kg : kernB M g = true := kernB_iff.mpr (kern_goal (kernB_iff.mp kx) hg)
      show phiL M kd (glF M kd g) = _
      unfold glF
      rw [if_pos kg]
      exact if_pos kg
    · rw [if_neg kx] at e
      exact absurd e.symm kn_er
  · unfold phiL at e
    by_cases kx : kernB M x = true
    · rw [if_pos kx] at e
      exact absurd e kn_er
    · rw [if_neg kx] at e
      have e : kd x = c := congrArg Prod.snd e
      unfold leanNx
      refine ⟨by rw [List.length_map, ko.row_len hx.1], fun s a g y hs es hg hy => ?_⟩
      rw [List.getElem?_map] at hy
      cases hz : (row M x)[a]? with
      | none =>
        rw [hz] at hy
        cases hy
      | some g0 =>
        rw [hz] at hy
        have ey : glF M kd g0 = y := Option.some.inj hy
        rw [← ey, C.k.goal hs hx.1 (es.trans e.symm) hg hz]
        exact phi_gl C (ko.row_lt hx.1 (List.mem_of_getElem? hz))
theorem lean_len (C : Kds L nC M kd) : (walkN (leanNx M kd) (leanB M kd)).length = (NLs nC M kd).length := (lean_ok C).len C
end
section
variable {α β : Type} [DecidableEq α] [DecidableEq β]
theorem addNew_map {f : α → β} {V : α → Prop} (hi : ∀ x y, V x → V y → f x = f y → x = y) : ∀ (gs l : List α), (∀ x ∈ l, V x) → (∀ x ∈ gs, V x) → addNew (l.map f) (gs.map f) = (addNew l gs).map f
  | [], l, _, _ => rfl
  | g :: gs, l, hl, hg => by
    have hgv := hg g List.mem_cons_self
    rw [List.map_cons, addNew_cons, addNew_cons]
    by_cases hm : g ∈ l
    · rw [if_pos hm, if_pos (List.mem_map_of_mem hm)]
      exact addNew_map hi gs l hl fun x hx => hg x (List.mem_cons_of_mem _ hx)
    · rw [if_neg hm, if_neg fun q => hm (by
        obtain ⟨y, hy, e⟩ := List.mem_map.mp q
        rw [← hi y g (hl y hy) hgv e]
        exact hy)]
      have := addNew_map hi gs (l ++ [g]) (fun x hx => by
        rcases List.mem_append.mp hx with h | h
        · exact hl x h
        · rw [List.mem_singleton.mp h]
          exact hgv) fun x hx => hg x (List.mem_cons_of_mem _ hx)
      rw [List.map_append] at this
      exact this
theorem bfs_map {nx : α → List α} {nx' : β → List β} {f : α → β} {V : α → Prop} (hi : ∀ x y, V x → V y → f x = f y → x = y) (hc : ∀ x, V x → ∀ g ∈ nx x, V g) (he : ∀ x, V x → nx' (f x) = (nx x).map f) : ∀ (n : Nat) (l : List α) (k : Nat), (∀ x ∈ l, V x) → bfs nx' n (l.map f) k = (bfs nx n l k).map f
  | 0, l, k, _ => rfl
  | n + 1, l, k, hl => by
    cases hk : l[k]? with
    | none =>
      have := List.getElem?_eq_none_iff.mp hk
      rw [bfs_end this, bfs_end (by rw [List.length_map]; exact this)]
    | some x =>
      have hx := hl x (List.mem_of_getElem? hk)
      rw [bfs_step hk, bfs_step (p := f x) (by rw [List.getElem?_map, hk] <;> rfl), he x hx, addNew_map hi _ _ hl (hc x hx)]
      exact bfs_map hi hc he n _ _ fun y hy => by
        rcases (mem_addNew _ _).mp hy with h | h
        · exact hl y h
        · exact hc x hx y h
theorem bfs_fuel {nx : α → List α} : ∀ (f g : Nat) (l : List α) (k : Nat), bfs nx (f + g) l k = bfs nx g (bfs nx f l k) (k + f)
  | 0, g, l, k => by
    rw [Nat.zero_add]
    rfl
  | f + 1, g, l, k => by
    rw [show f + 1 + g = (f + g) + 1 by omega]
    cases hk : l[k]? with
    | none =>
      have := List.getElem?_eq_none_iff.mp hk
      rw [bfs_end this, bfs_end this, bfs_end (by omega)]
    | some x =>
      rw [bfs_step hk, bfs_step hk, bfs_fuel f g, show k + 1 + f = k + (f + 1) by omega]
theorem bfs_pre {nx : α → List α} : ∀ (f : Nat) (l : List α) (k : Nat), ∃ more, bfs nx f l k = l ++ more
  | 0, l, k => ⟨[], by rw [List.append_nil]; rfl⟩
  | f + 1, l, k => by
    cases hk : l[k]? with
    | none =>
      rw [bfs_end (List.getElem?_eq_none_iff.mp hk)]
      exact ⟨[], by rw [List.append_nil]⟩
    | some x =>
      rw [bfs_step hk]
      obtain ⟨m1, h1⟩ := addNew_pre (nx x) l
      obtain ⟨m2, h2⟩ := bfs_pre (nx := nx) f (addNew l (nx x)) (k + 1)
      exact ⟨m1 ++ m2, by rw [h2, h1, List.append_assoc]⟩
theorem numbered_walk {nx : α → List α} {b : α} {g : List Nat} (sp : BfsR nx [b] (walkN nx b)) : walkN (row (bfsRows nx (walkN nx b), g)) 0 = List.range (walkN nx b).length := by
  generalize hLN : walkN nx b = LN at sp
  have at0 : LN[0]? = some b := by
    obtain ⟨more, h⟩ := sp.pre
    rw [h]
    rfl
  have h := bfs_map (nx := nx) (nx' := row (bfsRows nx LN, g)) (f := fun x => LN.idxOf x) (V := fun x => x ∈ LN) (fun x y hx hy e => by
    have e1 := idx_at hx
    have e : LN.idxOf x = LN.idxOf y := e
    rw [e, idx_at hy] at e1
    exact (Option.some.inj e1).symm) sp.cl (fun x hx => bfsRows_row (idx_at hx)) 65 [b] 0 (fun x hx => sp.sub x hx)
  rw [List.map_singleton, at_idx sp.nd at0] at h
  show bfs _ 65 [0] 0 = _
  rw [h, show bfs nx 65 [b] 0 = LN from hLN]
  refine List.ext_getElem? fun i => ?_
  rw [List.getElem?_map]
  rcases Nat.lt_or_ge i LN.length with hi | hi
  · rw [List.getElem?_eq_getElem hi, List.getElem?_range hi]
    show some (LN.idxOf LN[i]) = some i
    rw [at_idx sp.nd (List.getElem?_eq_getElem hi)]
  · rw [List.getElem?_eq_none hi, List.getElem?_eq_none (by simpa using hi)]
    rfl
theorem walk_three {m : Mc} (h : walkN (row m) 0 = [0, 1, 2]) : bfs (row m) 3 [0] 0 = [0, 1, 2] := by
  have h2 := bfs_fuel (nx := row m) 3 62 [0] 0
  obtain ⟨more, h3⟩ := bfs_pre (nx := row m) 62 (bfs (row m) 3 [0] 0) (0 + 3)
  have h4 : bfs (row m) (3 + 62) [0] 0 = [0, 1, 2] := h
  rw [h4] at h2
  rw [← h2] at h3
  have hl := congrArg List.length h3
  rw [List.length_append] at hl
  have hl3 : (bfs (row m) 3 [0] 0).length ≤ 3 := by
    have : ([0, 1, 2] : List Nat).length = 3 := rfl
    omega
  rw [bfs_end (by omega)] at h2
  exact h2.symm
end
end B
namespace B
section
variable {κ : Type} [DecidableEq κ]
def numG (xs : List κ) : List Nat := xs.map fun x => (addNew [] xs).idxOf x
def dcnt (xs : List κ) : Nat := (addNew [] xs).length
theorem numG_len (xs : List κ) : (numG xs).length = xs.length := List.length_map _
theorem numG_at {xs : List κ} {a : Nat} {x : κ} (h : xs[a]? = some x) : (numG xs)[a]? = some ((addNew [] xs).idxOf x) := by
  unfold numG
  rw [List.getElem?_map, h]
  rfl
theorem mem_first {xs : List κ} {x : κ} : x ∈ addNew [] xs ↔ x ∈ xs := by
  rw [mem_addNew]
  simp
theorem numG_eq {xs : List κ} {a b : Nat} {x y : κ} (ha : xs[a]? = some x) (hb : xs[b]? = some y) : (numG xs).getD a 0 = (numG xs).getD b 0 ↔ x = y := by
  rw [List.getD_eq_getElem?_getD, List.getD_eq_getElem?_getD, numG_at ha, numG_at hb]
  show (addNew [] xs).idxOf x = (addNew [] xs).idxOf y ↔ _
  constructor
  · intro e
    have h1 := idx_at (mem_first.mpr (List.mem_of_getElem? ha))
    have h2 := idx_at (mem_first.mpr (List.mem_of_getElem? hb))
    rw [e, h2] at h1
    exact (Option.some.inj h1).symm
  · intro e
    rw [e]
theorem numG_lt {xs : List κ} : ∀ v ∈ numG xs, v < dcnt xs := fun v hv => by
  obtain ⟨x, hx, rfl⟩ := List.mem_map.mp hv
  exact idx_lt (mem_first.mpr hx)
theorem dcnt_pos {xs : List κ} (h : xs ≠ []) : 0 < dcnt xs := by
  obtain ⟨x, hx⟩ := List.exists_mem_of_ne_nil _ h
  exact List.length_pos_of_mem (mem_first.mpr hx)
theorem first_nodup (xs : List κ) : (addNew [] xs).Nodup := addNew_nodup _ _ List.nodup_nil
theorem numG_on {xs : List κ} {c : Nat} (h : c < dcnt xs) : c ∈ numG xs := by
  have hc : (addNew [] xs)[c]? = some ((addNew [] xs)[c]'h) := List.getElem?_eq_getElem h
  refine List.mem_map.mpr ⟨_, mem_first.mp (List.mem_of_getElem? hc), ?_⟩
  exact at_idx (first_nodup xs) hc
theorem dcnt_le (xs : List κ) : dcnt xs ≤ xs.length := nodup_le (first_nodup xs) (fun x hx => mem_first.mp hx) (Nat.le_refl _)
theorem dcnt_num (xs : List κ) : dcnt (numG xs) = dcnt xs := by
  refine Nat.le_antisymm ?_ ?_
  · exact nodup_le (first_nodup _) (all := List.range (dcnt xs)) (fun v hv => List.mem_range.mpr (numG_lt v (mem_first.mp hv))) (by simp)
  · have := nodup_le (n := dcnt (numG xs)) (List.nodup_range (n := dcnt xs)) (all := addNew [] (numG xs)) (fun c hc => mem_first.mpr (numG_on (List.mem_range.mp hc))) (Nat.le_refl _)
    simpa using this
end
theorem fine_same {f g : List Nat} {n : Nat} (hf : f.length = n) (hg : g.length = n) (h : ∀ a b, a < n → b < n → f.getD a 0 = f.getD b 0 → g.getD a 0 = g.getD b 0) (hd : dcnt f ≤ dcnt g) {a b : Nat} (ha : a < n) (hb : b < n) (e : g.getD a 0 = g.getD b 0) : f.getD a 0 = f.getD b 0 := by
  refine Classical.byContradiction fun hn => ?_
  have at_ : ∀ (l : List Nat) (i : Nat), i < l.length → l[i]? = some (l.getD i 0) := fun l i hi => by
    rw [List.getD_eq_getElem?_getD, List.getElem?_eq_getElem hi]
    rfl
  obtain ⟨r, hr⟩ := Classical.axiomOfChoice (r := fun (w : Nat) (i : Nat) => w ∈ g → i < n ∧ g.getD i 0 = w) fun w => by
    by_cases hw : w ∈ g
    · obtain ⟨i, hi⟩ := List.mem_iff_getElem?.mp hw
      have hl := (List.getElem?_eq_some_iff.mp hi).1
      exact ⟨i, fun _ => ⟨by omega, by rw [List.getD_eq_getElem?_getD, hi]; rfl⟩⟩
    · exact ⟨0, fun q => absurd q hw⟩
  have nd : ((addNew [] g).map fun w => f.getD (r w) 0).Nodup := map_nodup (first_nodup g) fun w hw w' hw' e => by
    obtain ⟨h1, h2⟩ := hr w (mem_first.mp hw)
    obtain ⟨h3, h4⟩ := hr w' (mem_first.mp hw')
    rw [← h2, ← h4]
    exact h _ _ h1 h3 e
  have inF : ∀ i, i < n → f.getD i 0 ∈ addNew [] f := fun i hi => mem_first.mpr (List.mem_of_getElem? (at_ f i (by omega)))
  have key : ∀ x, x < n → g.getD x 0 = g.getD a 0 → f.getD x 0 ∈ (addNew [] g).map (fun w => f.getD (r w) 0) → f.getD x 0 = f.getD (r (g.getD a 0)) 0 := fun x hx e hm => by
    obtain ⟨w, hw, e2⟩ := List.mem_map.mp hm
    obtain ⟨h1, h2⟩ := hr w (mem_first.mp hw)
    have := h _ _ h1 hx e2
    rw [h2, e] at this
    rw [← this]
    exact e2.symm
  have hex : ∃ x, x < n ∧ f.getD x 0 ∉ (addNew [] g).map (fun w => f.getD (r w) 0) := Classical.byContradiction fun q => by
    have h1 := key a ha rfl (Classical.byContradiction fun z => q ⟨a, ha, z⟩)
    have h2 := key b hb e.symm (Classical.byContradiction fun z => q ⟨b, hb, z⟩)
    exact hn (h1.trans h2.symm)
  obtain ⟨x, hx, hxn⟩ := hex
  have := nodup_le (n := dcnt f) (l := f.getD x 0 :: (addNew [] g).map fun w => f.getD (r w) 0) (List.nodup_cons.mpr ⟨hxn, nd⟩) (all := addNew [] f) (fun y hy => by
    rcases List.mem_cons.mp hy with rfl | hy
    · exact inF x hx
    · obtain ⟨w, hw, rfl⟩ := List.mem_map.mp hy
      exact inF _ (hr w (mem_first.mp hw)).1) (Nat.le_refl _)
  rw [List.length_cons, List.length_map] at this
  have : (addNew [] g).length = dcnt g := rfl
  omega
structure Stg (m : Mc) (k : Nat) (f : List Nat) : Prop where
  len : f.length = m.1.length
  iff : ∀ a b, a < m.1.length → b < m.1.length → (f.getD a 0 = f.getD b 0 ↔ ∀ j, j ≤ k → cnt m m j (a, b) = 0)
def refi (m : Mc) (f : List Nat) : List (Nat × List Nat) := (List.range' 0 m.1.length).map fun a => (f.getD a 0, (row m a).map fun g => f.getD g 0)
def mkF (m : Mc) : List Bool := (List.range' 0 m.1.length).map fun s => decide (s ∈ m.2)
theorem rmap_at {β : Type} {f : Nat → β} {n k : Nat} (h : k < n) : ((List.range' 0 n).map f)[k]? = some (f k) := by
  rw [List.getElem?_map, rng_at h]
  rfl
theorem stg_zero (m : Mc) : Stg m 0 (numG (mkF m)) := by
  refine ⟨by rw [numG_len]; simp [mkF], fun a b ha hb => ?_⟩
  rw [numG_eq (xs := mkF m) (rmap_at ha) (rmap_at hb)]
  constructor
  · intro e j hj
    have : j = 0 := by omega
    subst this
    show (if unl m m (a, b) = true then 1 else 0) = 0
    unfold unl
    rw [e]
    simp
  · intro h
    have h0 : (if unl m m (a, b) = true then 1 else 0) = 0 := h 0 (Nat.le_refl _)
    unfold unl at h0
    by_cases h1 : a ∈ m.2 <;> by_cases h2 : b ∈ m.2 <;> simp_all
theorem stg_step {L : Nat} {m : Mc} (o : OkM L m) {k : Nat} {f : List Nat} (S : Stg m k f) : Stg m (k + 1) (numG (refi m f)) := by
  refine ⟨by rw [numG_len]; simp [refi], fun a b ha hb => ?_⟩
  rw [numG_eq (xs := refi m f) (rmap_at ha) (rmap_at hb), Prod.mk.injEq, S.iff a b ha hb]
  constructor
  · rintro ⟨h1, h2⟩ j hj
    by_cases e : j ≤ k
    · exact h1 j e
    · have : j = k + 1 := by omega
      subst this
      refine Classical.byContradiction fun hne => ?_
      obtain ⟨g, hg, h0⟩ := cnt_pos.mp hne
      obtain ⟨i, g1, g2⟩ := at_goals hg
      have e1 := congrArg (fun l => l[i]?) h2
      simp only [List.getElem?_map, g1, g2, Option.map_some] at e1
      exact h0 ((S.iff g.1 g.2 (o.row_lt ha (List.mem_of_getElem? g1)) (o.row_lt hb (List.mem_of_getElem? g2))).mp (Option.some.inj e1) k (Nat.le_refl _))
  · intro h
    refine ⟨fun j hj => h j (by omega), List.ext_getElem? fun i => ?_⟩
    rw [List.getElem?_map, List.getElem?_map]
    rcases Nat.lt_or_ge i L with hi | hi
    · have g1 := ltr_at o ha hi
      have g2 := ltr_at o hb hi
      rw [g1, g2]
      refine congrArg some ((S.iff _ _ (ltr_lt o ha hi) (ltr_lt o hb hi)).mpr fun j hj => ?_)
      exact Classical.byContradiction fun hne => cnt_pos.mpr ⟨_, goals_at g1 g2, hne⟩ (h (j + 1) (by omega))
    · rw [List.getElem?_eq_none (by rw [o.row_len ha]; exact hi), List.getElem?_eq_none (by rw [o.row_len hb]; exact hi)]
structure ClsP (m : Mc) (f : List Nat) : Prop where
  len : f.length = m.1.length
  iff : ∀ a b, a < m.1.length → b < m.1.length → (f.getD a 0 = f.getD b 0 ↔ Eqv m m a b)
theorem cls_end {L : Nat} {m : Mc} (o : OkM L m) {k : Nat} {g f : List Nat} (Sg : Stg m k g) (Sf : Stg m (k + 1) f) (hd : dcnt f ≤ dcnt g) : ClsP m f := by
  have same : ∀ a b, a < m.1.length → b < m.1.length → (∀ j, j ≤ k → cnt m m j (a, b) = 0) → ∀ j, j ≤ k + 1 → cnt m m j (a, b) = 0 := fun a b ha hb h =>
    (Sf.iff a b ha hb).mp (fine_same Sf.len Sg.len (fun a b ha hb e => (Sg.iff a b ha hb).mpr fun j hj => (Sf.iff a b ha hb).mp e j (by omega)) hd ha hb ((Sg.iff a b ha hb).mpr h))
  have all : ∀ i a b, a < m.1.length → b < m.1.length → (∀ j, j ≤ k → cnt m m j (a, b) = 0) → ∀ j, j ≤ k + i → cnt m m j (a, b) = 0 := by
    intro i
    induction i with
    | zero => exact fun a b _ _ h => h
    | succ i ih =>
      intro a b ha hb h j hj
      by_cases hj0 : j ≤ k
      · exact h j hj0
      · obtain ⟨j', rfl⟩ : ∃ j', j = j' + 1 := ⟨j - 1, by omega⟩
        refine Classical.byContradiction fun hne => ?_
        obtain ⟨g, hg, h0⟩ := cnt_pos.mp hne
        obtain ⟨gi1, gi2⟩ := goals_in o o (p := (a, b)) ⟨ha, hb⟩ hg
        refine h0 (ih g.1 g.2 gi1 gi2 (fun j2 hj2 => ?_) j' (by omega))
        exact Classical.byContradiction fun hne2 => cnt_pos.mpr ⟨g, hg, hne2⟩ (same a b ha hb h (j2 + 1) (by omega))
  refine ⟨Sf.len, fun a b ha hb => ?_⟩
  rw [Sf.iff a b ha hb]
  constructor
  · intro h j
    exact all j a b ha hb (fun j hj => h j (by omega)) j (by omega)
  · exact fun h j _ => h j
theorem idx_two {α β γ : Type} [DecidableEq β] [DecidableEq γ] {p : α → β} {q : α → γ} {V : α → Prop} (h : ∀ a b, V a → V b → (p a = p b ↔ q a = q b)) {x : α} (hx : V x) : ∀ l : List α, (∀ y ∈ l, V y) → (l.map p).idxOf (p x) = (l.map q).idxOf (q x) ∧ (p x ∈ l.map p ↔ q x ∈ l.map q)
  | [], _ => ⟨rfl, by simp⟩
  | y :: l, hl => by
    obtain ⟨i1, i2⟩ := idx_two h hx l fun z hz => hl z (List.mem_cons_of_mem _ hz)
    have hy := h y x (hl y List.mem_cons_self) hx
    rw [List.map_cons, List.map_cons, List.idxOf_cons, List.idxOf_cons, i1, List.mem_cons, List.mem_cons, i2]
    refine ⟨?_, ?_⟩
    · by_cases e : p y = p x
      · have e2 := hy.mp e
        simp [e, e2]
      · have e2 : ¬ q y = q x := fun z => e (hy.mpr z)
        have f1 : (p y == p x) = false := by simpa using e
        have f2 : (q y == q x) = false := by simpa using e2
        rw [f1, f2]
    · have hx2 := h x y hx (hl y List.mem_cons_self)
      rw [hx2]
section
variable {L : Nat} {m : Mc} (o : OkM L m)
include o
theorem lnx_canon {s : Nat} (h : s < m.1.length) : lnx m (canon m s) = (row m s).map (canon m) := by
  obtain ⟨c1, e1⟩ := canon_spec o h
  unfold lnx
  refine List.ext_getElem? fun i => ?_
  rw [List.getElem?_map, List.getElem?_map]
  rcases Nat.lt_or_ge i L with hi | hi
  · have g1 := ltr_at o c1 hi
    have g2 := ltr_at o h hi
    rw [g1, g2]
    exact congrArg some ((canon_congr o (ltr_lt o c1 hi) (ltr_lt o h hi)).mpr (Eqv.goal e1 (goals_at g1 g2)))
  · rw [List.getElem?_eq_none (by rw [o.row_len c1]; exact hi), List.getElem?_eq_none (by rw [o.row_len h]; exact hi)]
structure LnI (m : Mc) (l : List Nat) (k : Nat) : Prop where
  eq : bfs (lnx m) (65 - k) (l.map (canon m)) k = lnL m
  nd : (l.map (canon m)).Nodup
  inn : ∀ s ∈ l, s < m.1.length
  le : k ≤ l.length
theorem LnI.le8 {l : List Nat} {k : Nat} (h : LnI m l k) : l.length ≤ 8 := by
  have := nodup_le (n := 8) h.nd (all := List.range m.1.length) (fun x hx => by
    obtain ⟨s, hs, rfl⟩ := List.mem_map.mp hx
    exact List.mem_range.mpr (canon_spec o (h.inn s hs)).1) (by
    have := o.le8
    simpa using this)
  simpa using this
theorem ln_start : LnI m [0] 0 := ⟨rfl, by simp, fun s hs => by rw [List.mem_singleton.mp hs]; exact o.pos, Nat.zero_le _⟩
structure LnJ (m : Mc) (l : List Nat) (h i : Nat) (l' : List Nat) : Prop where
  eq : l'.map (canon m) = addNew (l.map (canon m)) (((row m h).take i).map (canon m))
  inn : ∀ s ∈ l', s < m.1.length
  pre : ∃ more, l' = l ++ more
omit o in
theorem lnj_start (l : List Nat) (h : Nat) (hl : ∀ s ∈ l, s < m.1.length) : LnJ m l h 0 l := ⟨rfl, hl, [], by rw [List.append_nil]⟩
omit o in
theorem LnJ.nd {l l' : List Nat} {h i : Nat} (J : LnJ m l h i l') (hn : (l.map (canon m)).Nodup) : (l'.map (canon m)).Nodup := by
  rw [J.eq]
  exact addNew_nodup _ _ hn
theorem LnJ.le8 {l l' : List Nat} {h i : Nat} (J : LnJ m l h i l') (hn : (l.map (canon m)).Nodup) : l'.length ≤ 8 := by
  have := nodup_le (n := 8) (J.nd hn) (all := List.range m.1.length) (fun x hx => by
    obtain ⟨s, hs, rfl⟩ := List.mem_map.mp hx
    exact List.mem_range.mpr (canon_spec o (J.inn s hs)).1) (by
    have := o.le8
    simpa using this)
  simpa using this
omit o in
theorem LnJ.old {l l' : List Nat} {h i g : Nat} (J : LnJ m l h i l') (hg : (row m h)[i]? = some g) (hm : canon m g ∈ l'.map (canon m)) : LnJ m l h (i + 1) l' := by
  refine ⟨?_, J.inn, J.pre⟩
  rw [List.take_add_one, hg]
  show _ = addNew _ ((List.take i (row m h) ++ [g]).map _)
  rw [List.map_append, List.map_singleton, addNew_snoc, ← J.eq, if_pos hm]
omit o in
theorem LnJ.new {l l' : List Nat} {h i g : Nat} (J : LnJ m l h i l') (hg : (row m h)[i]? = some g) (hgl : g < m.1.length) (hm : canon m g ∉ l'.map (canon m)) : LnJ m l h (i + 1) (l' ++ [g]) := by
  refine ⟨?_, fun s hs => ?_, ?_⟩
  · rw [List.take_add_one, hg]
    show _ = addNew _ ((List.take i (row m h) ++ [g]).map _)
    rw [List.map_append, List.map_append, List.map_singleton, addNew_snoc, ← J.eq, if_neg hm]
  · rcases List.mem_append.mp hs with q | q
    · exact J.inn s q
    · rw [List.mem_singleton.mp q]
      exact hgl
  · obtain ⟨more, e⟩ := J.pre
    exact ⟨more ++ [g], by rw [e, List.append_assoc]⟩
theorem LnI.next {l l' : List Nat} {k h : Nat} (I : LnI m l k) (hk : l[k]? = some h) (hf : k < 65) (J : LnJ m l h (row m h).length l') : LnI m l' (k + 1) := by
  have hh := I.inn h (List.mem_of_getElem? hk)
  have e := J.eq
  rw [List.take_length, ← lnx_canon o hh] at e
  refine ⟨?_, ?_, J.inn, ?_⟩
  · rw [← I.eq, show 65 - k = (65 - (k + 1)) + 1 by omega, bfs_step (p := canon m h) (by rw [List.getElem?_map, hk] <;> rfl), e]
  · rw [e]
    exact addNew_nodup _ _ I.nd
  · obtain ⟨more, e⟩ := J.pre
    have := (List.getElem?_eq_some_iff.mp hk).1
    rw [e, List.length_append]
    omega
noncomputable def lnRow (m : Mc) (l : List Nat) (h : Nat) : List Nat := (row m h).map fun g => (l.map (canon m)).idxOf (canon m g)
omit o in
theorem LnI.done {l : List Nat} {k : Nat} (I : LnI m l k) (h : l.length ≤ k) : l.map (canon m) = lnL m := by
  rw [← I.eq, bfs_end (by simpa using h)]
theorem LnI.rows {l : List Nat} {k : Nat} (I : LnI m l k) (h : l.length ≤ k) : l.map (lnRow m l) = (leastM m).1 := by
  show _ = bfsRows (lnx m) (lnL m)
  unfold bfsRows
  rw [← I.done h, List.map_map]
  refine List.map_congr_left fun s hs => ?_
  show _ = (lnx m (canon m s)).map _
  rw [lnx_canon o (I.inn s hs), List.map_map]
  rfl
theorem LnI.marks {l : List Nat} {k : Nat} (I : LnI m l k) (h : l.length ≤ k) : l.map (fun s => decide (s ∈ m.2)) = mkF (leastM m) := by
  have hd := I.done h
  have hl : l.length = (leastM m).1.length := by
    rw [least_len o, ← hd]
    simp
  unfold mkF
  refine List.ext_getElem? fun i => ?_
  rcases Nat.lt_or_ge i l.length with hi | hi
  · rw [rmap_at (by omega), List.getElem?_map, List.getElem?_eq_getElem hi]
    have hs := I.inn _ (List.getElem_mem hi)
    have hc : (lnL m)[i]? = some (canon m l[i]) := by
      rw [← hd, List.getElem?_map, List.getElem?_eq_getElem hi]
      rfl
    have h1 := least_mark o hc
    have h2 := Eqv.mark (canon_spec o hs).2
    show some (decide (l[i] ∈ m.2)) = some (decide (i ∈ (leastM m).2))
    congr 1
    rw [decide_eq_decide, h1, h2]
  · rw [List.getElem?_eq_none (by simpa using hi), List.getElem?_eq_none (by simp; omega)]
end
end B
namespace B
theorem lnRow_app {m : Mc} {l more : List Nat} {s : Nat} (h : ∀ g ∈ row m s, canon m g ∈ l.map (canon m)) : lnRow m (l ++ more) s = lnRow m l s := by
  unfold lnRow
  refine List.map_congr_left fun g hg => ?_
  rw [List.map_append, idx_app (h g hg)]
def LnC (m : Mc) (l : List Nat) (k : Nat) : Prop := ∀ s ∈ l.take k, ∀ g ∈ row m s, canon m g ∈ l.map (canon m)
theorem LnJ.goals {m : Mc} {l l' : List Nat} {h : Nat} (J : LnJ m l h (row m h).length l') : ∀ g ∈ row m h, canon m g ∈ l'.map (canon m) := fun g hg => by
  rw [J.eq, List.take_length]
  exact (mem_addNew _ _).mpr (.inr (List.mem_map_of_mem hg))
theorem LnC.next {m : Mc} {l l' : List Nat} {k h : Nat} (C : LnC m l k) (hk : l[k]? = some h) (J : LnJ m l h (row m h).length l') : LnC m l' (k + 1) ∧ l'.take (k + 1) = l.take k ++ [h] ∧ (l.take k).map (lnRow m l') = (l.take k).map (lnRow m l) := by
  obtain ⟨more, e⟩ := J.pre
  have hkl := (List.getElem?_eq_some_iff.mp hk).1
  have ht : l'.take (k + 1) = l.take k ++ [h] := by
    rw [e, List.take_append_of_le_length (by omega), List.take_add_one, hk]
    rfl
  refine ⟨fun s hs g hg => ?_, ht, List.map_congr_left fun s hs => ?_⟩
  · rw [ht] at hs
    rcases List.mem_append.mp hs with q | q
    · have := C s q g hg
      rw [e, List.map_append]
      exact List.mem_append_left _ this
    · rw [List.mem_singleton.mp q] at hg
      exact J.goals g hg
  · rw [e]
    exact lnRow_app (C s hs)
end B
namespace B
theorem sorted_ext : ∀ {l1 l2 : List Nat}, l1.Pairwise (· < ·) → l2.Pairwise (· < ·) → (∀ x, x ∈ l1 ↔ x ∈ l2) → l1 = l2
  | [], [], _, _, _ => rfl
  | [], y :: l2, _, _, h => absurd ((h y).mpr List.mem_cons_self) (by simp)
  | x :: l1, [], _, _, h => absurd ((h x).mp List.mem_cons_self) (by simp)
  | x :: l1, y :: l2, h1, h2, h => by
    have p1 := List.pairwise_cons.mp h1
    have p2 := List.pairwise_cons.mp h2
    have exy : x = y := by
      have hx := (h x).mp List.mem_cons_self
      have hy := (h y).mpr List.mem_cons_self
      rcases List.mem_cons.mp hx with e | hx
      · exact e
      · rcases List.mem_cons.mp hy with e | hy
        · exact e.symm
        · have a := p2.1 x hx
          have b := p1.1 y hy
          omega
    subst exy
    rw [sorted_ext p1.2 p2.2 fun z => ⟨fun hz => by
      have := p1.1 z hz
      exact ((List.mem_cons.mp ((h z).mp (List.mem_cons_of_mem _ hz))).resolve_left (by omega)), fun hz => by
      have := p2.1 z hz
      exact ((List.mem_cons.mp ((h z).mpr (List.mem_cons_of_mem _ hz))).resolve_left (by omega))⟩]
theorem goods_eq {n : Nat} {g : List Nat} (h : OkG n g) : (List.range' 0 n).filter (fun s => decide (s ∈ g)) = g :=
  sorted_ext (List.Pairwise.filter _ (List.pairwise_lt_range' (s := 0) (n := n))) h.inc fun x => by
    rw [List.mem_filter, List.mem_range'_1, decide_eq_true_iff]
    exact ⟨fun q => q.2, fun q => ⟨⟨Nat.zero_le _, by have := h.lt x q; omega⟩, q⟩⟩
section
variable {α : Type} [DecidableEq α]
structure BfI (nx : α → List α) (b : α) (V : α → Prop) (l : List α) (k : Nat) : Prop where
  eq : bfs nx (65 - k) l k = walkN nx b
  nd : l.Nodup
  inn : ∀ x ∈ l, V x
  le : k ≤ l.length
  clo : ∀ x ∈ l.take k, ∀ g ∈ nx x, g ∈ l
structure BfJ (nx : α → List α) (V : α → Prop) (l : List α) (h : α) (i : Nat) (l' : List α) : Prop where
  eq : l' = addNew l ((nx h).take i)
  inn : ∀ x ∈ l', V x
  nd : l'.Nodup
  ins : ∀ g ∈ (nx h).take i, g ∈ l'
def bfRow (nx : α → List α) (l : List α) (h : α) : List Nat := (nx h).map fun g => l.idxOf g
variable {nx : α → List α} {b : α} {V : α → Prop} {l l' : List α} {h g : α} {k i : Nat}
theorem bf_start (hb : V b) : BfI nx b V [b] 0 := ⟨rfl, by simp, fun x hx => by rw [List.mem_singleton.mp hx]; exact hb, Nat.zero_le _, fun x hx => by simp at hx⟩
theorem bfj_start (I : BfI nx b V l k) (h : α) : BfJ nx V l h 0 l := ⟨rfl, I.inn, I.nd, fun g hg => by simp at hg⟩
theorem BfJ.old (J : BfJ nx V l h i l') (hg : (nx h)[i]? = some g) (hm : g ∈ l') : BfJ nx V l h (i + 1) l' := by
  have e : (nx h).take (i + 1) = (nx h).take i ++ [g] := by rw [List.take_add_one, hg] <;> rfl
  refine ⟨?_, J.inn, J.nd, fun x hx => ?_⟩
  · rw [e, addNew_snoc, ← J.eq, if_pos hm]
  · rw [e] at hx
    rcases List.mem_append.mp hx with q | q
    · exact J.ins x q
    · rw [List.mem_singleton.mp q]
      exact hm
theorem BfJ.new (J : BfJ nx V l h i l') (hg : (nx h)[i]? = some g) (hv : V g) (hm : g ∉ l') : BfJ nx V l h (i + 1) (l' ++ [g]) := by
  have e : (nx h).take (i + 1) = (nx h).take i ++ [g] := by rw [List.take_add_one, hg] <;> rfl
  have e2 : l' ++ [g] = addNew l ((nx h).take (i + 1)) := by rw [e, addNew_snoc, ← J.eq, if_neg hm]
  refine ⟨e2, fun x hx => ?_, ?_, fun x hx => ?_⟩
  · rcases List.mem_append.mp hx with q | q
    · exact J.inn x q
    · rw [List.mem_singleton.mp q]
      exact hv
  · rw [List.nodup_append]
    exact ⟨J.nd, by simp, fun a ha c hc => by
      rw [List.mem_singleton] at hc
      rw [hc]
      exact fun e => hm (e ▸ ha)⟩
  · rw [e] at hx
    rcases List.mem_append.mp hx with q | q
    · exact List.mem_append_left _ (J.ins x q)
    · rw [List.mem_singleton.mp q]
      exact List.mem_append_right _ (List.mem_singleton.mpr rfl)
theorem bfRow_app {more : List α} (hin : ∀ g ∈ nx h, g ∈ l) : bfRow nx (l ++ more) h = bfRow nx l h := List.map_congr_left fun g hg => idx_app (hin g hg)
theorem BfI.next (I : BfI nx b V l k) (hk : l[k]? = some h) (hf : k < 65) (J : BfJ nx V l h (nx h).length l') : BfI nx b V l' (k + 1) ∧ l'.take (k + 1) = l.take k ++ [h] ∧ (l.take k).map (bfRow nx l') = (l.take k).map (bfRow nx l) := by
  have e := J.eq
  rw [List.take_length] at e
  obtain ⟨more, hm⟩ := addNew_pre (nx h) l
  rw [← e] at hm
  have hkl := (List.getElem?_eq_some_iff.mp hk).1
  have ht : l'.take (k + 1) = l.take k ++ [h] := by
    rw [hm, List.take_append_of_le_length (by omega), List.take_add_one, hk]
    rfl
  refine ⟨⟨?_, J.nd, J.inn, ?_, fun x hx g hg => ?_⟩, ht, List.map_congr_left fun x hx => ?_⟩
  · rw [← I.eq, show 65 - k = (65 - (k + 1)) + 1 by omega, bfs_step hk, e]
  · rw [hm, List.length_append]
    omega
  · rw [ht] at hx
    rcases List.mem_append.mp hx with q | q
    · rw [hm]
      exact List.mem_append_left _ (I.clo x q g hg)
    · rw [List.mem_singleton.mp q] at hg
      exact J.ins g (by rw [List.take_length]; exact hg)
  · rw [hm]
    exact bfRow_app (I.clo x hx)
theorem BfI.done (I : BfI nx b V l k) (hk : l.length ≤ k) : l = walkN nx b := by rw [← I.eq, bfs_end hk]
theorem bfRows_eq (nx : α → List α) (l : List α) : l.map (bfRow nx l) = bfsRows nx l := rfl
end
section
variable {L nC : Nat} {M : Mc} {kd : Nat → Nat}
noncomputable def kp1 (M : Mc) (kd : Nat → Nat) (i c : Nat) : Option Nat := ((List.range' 0 i).filter fun s => kernB M s && decide (kd s = c)).head?
def kp2 (kd : Nat → Nat) (i c : Nat) : Option Nat := ((List.range' 0 i).filter fun s => decide (kd s = c)).head?
theorem rng_succ (i : Nat) : List.range' 0 (i + 1) = List.range' 0 i ++ [i] := by
  rw [List.range'_concat]
  congr 2
  omega
theorem kp1_succ (i c : Nat) : kp1 M kd (i + 1) c = (kp1 M kd i c).or (if kernB M i && decide (kd i = c) then some i else none) := by
  unfold kp1
  rw [rng_succ, List.filter_append, List.head?_append]
  congr 1
  rw [List.filter_cons]
  split <;> rfl
theorem kp2_succ (i c : Nat) : kp2 kd (i + 1) c = (kp2 kd i c).or (if kd i = c then some i else none) := by
  unfold kp2
  rw [rng_succ, List.filter_append, List.head?_append]
  congr 1
  rw [List.filter_cons]
  by_cases h : kd i = c
  · rw [if_pos h, if_pos (decide_eq_true h)]
    rfl
  · rw [if_neg h, if_neg (by simpa using h)]
    rfl
theorem kp_end {s : Nat} (hs : s < M.1.length) : (kp1 M kd M.1.length (kd s)).or (kp2 kd M.1.length (kd s)) = some (keepF M kd (kd s)) := by
  have e1 : kp1 M kd M.1.length (kd s) = (sty M kd (kd s)).head? := rfl
  have e2 : kp2 kd M.1.length (kd s) = (cls M kd (kd s)).head? := rfl
  rw [e1, e2]
  unfold keepF
  cases hsty : sty M kd (kd s) with
  | cons t r => rfl
  | nil =>
    have hm : s ∈ cls M kd (kd s) := mem_cls.mpr ⟨hs, rfl⟩
    cases hc : cls M kd (kd s) with
    | nil =>
      rw [hc] at hm
      cases hm
    | cons t r => rfl
end
end B
namespace B
theorem ends_len {L : Nat} {M : Mc} (o : OkM L M) (l3 : L ≤ 3) : ∀ k, (ends M k).length ≤ 3 ^ k
  | 0 => Nat.le_refl _
  | k + 1 => by
    show ((ends M k).flatMap (row M)).length ≤ _
    have : ∀ l : List Nat, (∀ s ∈ l, s < M.1.length) → (l.flatMap (row M)).length ≤ 3 * l.length := by
      intro l
      induction l with
      | nil => intro _; simp
      | cons s l ih =>
        intro h
        have h1 := ih fun t ht => h t (List.mem_cons_of_mem _ ht)
        have h2 := o.row_len (h s List.mem_cons_self)
        rw [List.flatMap_cons, List.length_append, List.length_cons]
        omega
    have h1 := this _ (ends_lt o k)
    have h2 := ends_len o l3 k
    rw [Nat.pow_succ]
    omega
theorem wt_le {L : Nat} {M : Mc} (o : OkM L M) (l3 : L ≤ 3) (k s : Nat) : wt M k s ≤ 3 ^ k := Nat.le_trans List.count_le_length (ends_len o l3 k)
theorem sumTo_le {f g : Nat → Nat} (h : ∀ k, f k ≤ g k) : ∀ n, sumTo f n ≤ sumTo g n
  | 0 => Nat.le_refl _
  | n + 1 => Nat.add_le_add (sumTo_le h n) (h n)
theorem sumTo_mono (f : Nat → Nat) {m n : Nat} (h : m ≤ n) : sumTo f m ≤ sumTo f n := by
  induction n with
  | zero =>
    have : m = 0 := by omega
    subst this
    exact Nat.le_refl _
  | succ n ih =>
    by_cases e : m = n + 1
    · subst e
      exact Nat.le_refl _
    · have := ih (by omega)
      show _ ≤ sumTo f n + f n
      omega
theorem cv_some {M : Mc} {s : Nat} (h : ¬ Kern M s) : B.fin (fun k => wt M k s) = some (cv M s) := by
  unfold cv
  cases hf : B.fin (fun k => wt M k s) with
  | none => exact absurd (fin_none.mp hf) h
  | some c => rfl
theorem cv_lt {L : Nat} {M : Mc} (o : OkM L M) (l3 : L ≤ 3) {s : Nat} (h : ¬ Kern M s) : cv M s < 2 ^ 64 := by
  have hd : Dies fun k => wt M k s := Classical.byContradiction fun q => h q
  unfold cv
  rw [fin_of (wt_dies o hd)]
  show sumTo (fun k => wt M k s) M.1.length < _
  refine Nat.lt_of_le_of_lt (sumTo_le (fun k => wt_le o l3 k s) _) (Nat.lt_of_le_of_lt (sumTo_mono _ o.le8) ?_)
  decide
theorem cls_nk {M : Mc} {kd : Nat → Nat} {c s : Nat} (hk : ¬ KK M kd c) (hs : s ∈ cls M kd c) : ¬ Kern M s := fun q => hk ⟨s, (mem_cls.mp hs).1, q, (mem_cls.mp hs).2⟩
theorem sty_inc (M : Mc) (kd : Nat → Nat) (c : Nat) : (sty M kd c).Pairwise (· < ·) := List.Pairwise.filter _ (List.pairwise_lt_range' (s := 0) (n := M.1.length))
noncomputable def zCost (M : Mc) (gs ws : List Nat) (t : Nat) : Nat := ((gs.zip ws).map fun p => p.2 * gap M p.1 t).sum
theorem zip_maps {α β γ : Type} (f : α → β) (g : α → γ) : ∀ l : List α, (l.map f).zip (l.map g) = l.map fun x => (f x, g x)
  | [] => rfl
  | x :: l => by rw [List.map_cons, List.map_cons, List.zip_cons_cons, List.map_cons, zip_maps f g l]
theorem zCost_cost (M : Mc) (kd : Nat → Nat) (c a : Nat) : zCost M ((cls M kd c).map (ltr M a)) ((cls M kd c).map (cv M)) = costT M kd c a := by
  funext t
  unfold zCost costT
  rw [zip_maps, List.map_map]
  rfl
theorem zCost_beg (M : Mc) : zCost M [0] [1] = gap M 0 := by
  funext t
  show 1 * gap M 0 t + 0 = gap M 0 t
  omega
end B
namespace B
open PySem L2
def topS (i : Nat) : Stmt := PySem.Challenge.pw_butfewrows_k23_whole_least_wrong.main.body.getD i (.Pass ⟨0, 0, 0, 0⟩)
abbrev st_is_integer : Stmt := topS 7
abbrev nm_is_integer : List Str := ["thing", "low", "high"]
abbrev ps_is_integer : List Str := ["thing", "low", "high"]
theorem sc_is_integer : FnScope nm_is_integer ps_is_integer (defScope st_is_integer) := ⟨rfl, rfl, rfl, by decide +kernel, rfl, by decide +kernel, by decide +kernel⟩
abbrev st_check_steps : Stmt := topS 8
abbrev nm_check_steps : List Str := ["thing", "index", "row", "stand"]
abbrev ps_check_steps : List Str := ["thing"]
theorem sc_check_steps : FnScope nm_check_steps ps_check_steps (defScope st_check_steps) := ⟨rfl, rfl, rfl, by decide +kernel, rfl, by decide +kernel, by decide +kernel⟩
abbrev st_check_good : Stmt := topS 9
abbrev nm_check_good : List Str := ["thing", "stands", "last", "stand"]
abbrev ps_check_good : List Str := ["thing", "stands"]
theorem sc_check_good : FnScope nm_check_good ps_check_good (defScope st_check_good) := ⟨rfl, rfl, rfl, by decide +kernel, rfl, by decide +kernel, by decide +kernel⟩
abbrev st_Machine_init : Stmt := inClass (topS 10) 0
abbrev nm_Machine_init : List Str := ["self", "steps", "good"]
abbrev ps_Machine_init : List Str := ["self", "steps", "good"]
theorem sc_Machine_init : FnScope nm_Machine_init ps_Machine_init (defScope st_Machine_init) := ⟨rfl, rfl, rfl, by decide +kernel, rfl, by decide +kernel, by decide +kernel⟩
abbrev st_Machine_steps : Stmt := inClass (topS 10) 1
abbrev nm_Machine_steps : List Str := ["self"]
abbrev ps_Machine_steps : List Str := ["self"]
theorem sc_Machine_steps : FnScope nm_Machine_steps ps_Machine_steps (defScope st_Machine_steps) := ⟨rfl, rfl, rfl, by decide +kernel, rfl, by decide +kernel, by decide +kernel⟩
abbrev st_Machine_good : Stmt := inClass (topS 10) 2
abbrev nm_Machine_good : List Str := ["self"]
abbrev ps_Machine_good : List Str := ["self"]
theorem sc_Machine_good : FnScope nm_Machine_good ps_Machine_good (defScope st_Machine_good) := ⟨rfl, rfl, rfl, by decide +kernel, rfl, by decide +kernel, by decide +kernel⟩
abbrev st_Machine_len : Stmt := inClass (topS 10) 3
abbrev nm_Machine_len : List Str := ["self"]
abbrev ps_Machine_len : List Str := ["self"]
theorem sc_Machine_len : FnScope nm_Machine_len ps_Machine_len (defScope st_Machine_len) := ⟨rfl, rfl, rfl, by decide +kernel, rfl, by decide +kernel, by decide +kernel⟩
abbrev st_is_unlike : Stmt := topS 12
abbrev nm_is_unlike : List Str := ["one", "other", "pair"]
abbrev ps_is_unlike : List Str := ["one", "other", "pair"]
theorem sc_is_unlike : FnScope nm_is_unlike ps_is_unlike (defScope st_is_unlike) := ⟨rfl, rfl, rfl, by decide +kernel, rfl, by decide +kernel, by decide +kernel⟩
abbrev st_goals_of : Stmt := topS 13
abbrev nm_goals_of : List Str := ["one", "other", "pair"]
abbrev ps_goals_of : List Str := ["one", "other", "pair"]
theorem sc_goals_of : FnScope nm_goals_of ps_goals_of (defScope st_goals_of) := ⟨rfl, rfl, rfl, by decide +kernel, rfl, by decide +kernel, by decide +kernel⟩
abbrev st_come_to : Stmt := topS 14
abbrev nm_come_to : List Str := ["one", "other", "begin", "known", "line", "found", "here", "goal"]
abbrev ps_come_to : List Str := ["one", "other", "begin"]
theorem sc_come_to : FnScope nm_come_to ps_come_to (defScope st_come_to) := ⟨rfl, rfl, rfl, by decide +kernel, rfl, by decide +kernel, by decide +kernel⟩
abbrev st_useful : Stmt := topS 15
abbrev nm_useful : List Str := ["one", "other", "begin", "known", "found", "pair", "before", "goal"]
abbrev ps_useful : List Str := ["one", "other", "begin"]
theorem sc_useful : FnScope nm_useful ps_useful (defScope st_useful) := ⟨rfl, rfl, rfl, by decide +kernel, rfl, by decide +kernel, by decide +kernel⟩
abbrev st_counted : Stmt := topS 16
abbrev nm_counted : List Str := ["one", "other", "begin", "some", "known", "changed", "pair", "goals", "own", "many", "goal"]
abbrev ps_counted : List Str := ["one", "other", "begin"]
theorem sc_counted : FnScope nm_counted ps_counted (defScope st_counted) := ⟨rfl, rfl, rfl, by decide +kernel, rfl, by decide +kernel, by decide +kernel⟩
abbrev st_numbered : Stmt := topS 18
abbrev nm_numbered : List Str := ["values", "known", "found", "value"]
abbrev ps_numbered : List Str := ["values"]
theorem sc_numbered : FnScope nm_numbered ps_numbered (defScope st_numbered) := ⟨rfl, rfl, rfl, by decide +kernel, rfl, by decide +kernel, by decide +kernel⟩
abbrev st_classes_by : Stmt := topS 19
abbrev nm_classes_by : List Str := ["steps", "marks", "found", "many", "at", "row", "goal"]
abbrev ps_classes_by : List Str := ["steps", "marks"]
theorem sc_classes_by : FnScope nm_classes_by ps_classes_by (defScope st_classes_by) := ⟨rfl, rfl, rfl, by decide +kernel, rfl, by decide +kernel, by decide +kernel⟩
abbrev st_shrunk : Stmt := topS 20
abbrev nm_shrunk : List Str := ["steps", "marks", "classes", "line", "known", "rows", "found", "here", "row", "goal"]
abbrev ps_shrunk : List Str := ["steps", "marks"]
theorem sc_shrunk : FnScope nm_shrunk ps_shrunk (defScope st_shrunk) := ⟨rfl, rfl, rfl, by decide +kernel, rfl, by decide +kernel, by decide +kernel⟩
abbrev st_marks_of : Stmt := topS 21
abbrev nm_marks_of : List Str := ["machine", "stand"]
abbrev ps_marks_of : List Str := ["machine"]
theorem sc_marks_of : FnScope nm_marks_of ps_marks_of (defScope st_marks_of) := ⟨rfl, rfl, rfl, by decide +kernel, rfl, by decide +kernel, by decide +kernel⟩
abbrev st_kinds_of : Stmt := topS 23
abbrev nm_kinds_of : List Str := ["machine", "found", "firsts", "stand", "like", "at", "first"]
abbrev ps_kinds_of : List Str := ["machine"]
theorem sc_kinds_of : FnScope nm_kinds_of ps_kinds_of (defScope st_kinds_of) := ⟨rfl, rfl, rfl, by decide +kernel, rfl, by decide +kernel, by decide +kernel⟩
abbrev st_come_counts : Stmt := topS 24
abbrev nm_come_counts : List Str := ["machine", "steps", "many", "before", "found", "late", "length", "later", "stand", "row", "goal", "own", "more"]
abbrev ps_come_counts : List Str := ["machine"]
theorem sc_come_counts : FnScope nm_come_counts ps_come_counts (defScope st_come_counts) := ⟨rfl, rfl, rfl, by decide +kernel, rfl, by decide +kernel, by decide +kernel⟩
abbrev st_fewest : Stmt := topS 25
abbrev nm_fewest : List Str := ["machine"]
abbrev ps_fewest : List Str := ["machine"]
theorem sc_fewest : FnScope nm_fewest ps_fewest (defScope st_fewest) := ⟨rfl, rfl, rfl, by decide +kernel, rfl, by decide +kernel, by decide +kernel⟩
abbrev st_lean_parts : Stmt := topS 26
abbrev nm_lean_parts : List Str := ["machine", "steps", "marks", "least", "classes", "counts", "keeps", "stand", "goals", "line", "known", "rows", "row", "goal", "mark"]
abbrev ps_lean_parts : List Str := ["machine"]
theorem sc_lean_parts : FnScope nm_lean_parts ps_lean_parts (defScope st_lean_parts) := ⟨rfl, rfl, rfl, by decide +kernel, rfl, by decide +kernel, by decide +kernel⟩
abbrev st_Plan_init : Stmt := inClass (topS 30) 0
abbrev nm_Plan_init : List Str := ["self", "machine", "steps", "marks", "stand", "mark"]
abbrev ps_Plan_init : List Str := ["self", "machine"]
theorem sc_Plan_init : FnScope nm_Plan_init ps_Plan_init (defScope st_Plan_init) := ⟨rfl, rfl, rfl, by decide +kernel, rfl, by decide +kernel, by decide +kernel⟩
abbrev st_Plan_gap : Stmt := inClass (topS 30) 1
abbrev nm_Plan_gap : List Str := ["self", "one", "other"]
abbrev ps_Plan_gap : List Str := ["self", "one", "other"]
theorem sc_Plan_gap : FnScope nm_Plan_gap ps_Plan_gap (defScope st_Plan_gap) := ⟨rfl, rfl, rfl, by decide +kernel, rfl, by decide +kernel, by decide +kernel⟩
abbrev st_Plan_early : Stmt := inClass (topS 30) 2
abbrev nm_Plan_early : List Str := ["self", "kind", "stand"]
abbrev ps_Plan_early : List Str := ["self", "kind"]
theorem sc_Plan_early : FnScope nm_Plan_early ps_Plan_early (defScope st_Plan_early) := ⟨rfl, rfl, rfl, by decide +kernel, rfl, by decide +kernel, by decide +kernel⟩
abbrev st_best_stay : Stmt := topS 31
abbrev nm_best_stay : List Str := ["plan", "stands", "weights", "some", "stay", "stand", "many"]
abbrev ps_best_stay : List Str := ["plan", "stands", "weights"]
theorem sc_best_stay : FnScope nm_best_stay ps_best_stay (defScope st_best_stay) := ⟨rfl, rfl, rfl, by decide +kernel, rfl, by decide +kernel, by decide +kernel⟩
abbrev st_goal_for : Stmt := topS 32
abbrev nm_goal_for : List Str := ["plan", "kind", "letter", "stands", "goals", "later", "wrong", "stay", "stand"]
abbrev ps_goal_for : List Str := ["plan", "kind", "letter"]
theorem sc_goal_for : FnScope nm_goal_for ps_goal_for (defScope st_goal_for) := ⟨rfl, rfl, rfl, by decide +kernel, rfl, by decide +kernel, by decide +kernel⟩
abbrev st_mark_for : Stmt := topS 33
abbrev nm_mark_for : List Str := ["plan", "kind", "good", "bad", "stand"]
abbrev ps_mark_for : List Str := ["plan", "kind"]
theorem sc_mark_for : FnScope nm_mark_for ps_mark_for (defScope st_mark_for) := ⟨rfl, rfl, rfl, by decide +kernel, rfl, by decide +kernel, by decide +kernel⟩
abbrev st_begin_for : Stmt := topS 34
abbrev nm_begin_for : List Str := ["plan", "wrong", "stay"]
abbrev ps_begin_for : List Str := ["plan"]
theorem sc_begin_for : FnScope nm_begin_for ps_begin_for (defScope st_begin_for) := ⟨rfl, rfl, rfl, by decide +kernel, rfl, by decide +kernel, by decide +kernel⟩
abbrev st_built : Stmt := topS 35
abbrev nm_built : List Str := ["machine", "plan", "total", "begin", "line", "known", "rows", "marks", "sort", "name", "goals", "wrong", "mark", "row", "more", "node", "goal", "letter"]
abbrev ps_built : List Str := ["machine"]
theorem sc_built : FnScope nm_built ps_built (defScope st_built) := ⟨rfl, rfl, rfl, by decide +kernel, rfl, by decide +kernel, by decide +kernel⟩
abbrev st_least_wrong : Stmt := topS 36
abbrev nm_least_wrong : List Str := ["machine"]
abbrev ps_least_wrong : List Str := ["machine"]
theorem sc_least_wrong : FnScope nm_least_wrong ps_least_wrong (defScope st_least_wrong) := ⟨rfl, rfl, rfl, by decide +kernel, rfl, by decide +kernel, by decide +kernel⟩
abbrev st_best_lean : Stmt := topS 37
abbrev nm_best_lean : List Str := ["machine", "wrong", "steps", "marks", "stand", "mark"]
abbrev ps_best_lean : List Str := ["machine"]
theorem sc_best_lean : FnScope nm_best_lean ps_best_lean (defScope st_best_lean) := ⟨rfl, rfl, rfl, by decide +kernel, rfl, by decide +kernel, by decide +kernel⟩
abbrev st__law_mix : Stmt := topS 39
abbrev nm__law_mix : List Str := ["_law_script", "_law_seed", "_law_state", "_law_cell"]
abbrev ps__law_mix : List Str := ["_law_script", "_law_seed"]
theorem sc__law_mix : FnScope nm__law_mix ps__law_mix (defScope st__law_mix) := ⟨rfl, rfl, rfl, by decide +kernel, rfl, by decide +kernel, by decide +kernel⟩
abbrev st__law_next : Stmt := topS 40
abbrev nm__law_next : List Str := ["_law_h", "_law_cap", "_law_cell"]
abbrev ps__law_next : List Str := ["_law_h", "_law_cap"]
theorem sc__law_next : FnScope nm__law_next ps__law_next (defScope st__law_next) := ⟨rfl, rfl, rfl, by decide +kernel, rfl, by decide +kernel, by decide +kernel⟩
abbrev st__law_alike : Stmt := topS 41
abbrev nm__law_alike : List Str := ["_law_found", "_law_due", "_law_k"]
abbrev ps__law_alike : List Str := ["_law_found", "_law_due"]
theorem sc__law_alike : FnScope nm__law_alike ps__law_alike (defScope st__law_alike) := ⟨rfl, rfl, rfl, by decide +kernel, rfl, by decide +kernel, by decide +kernel⟩
abbrev st__law_pick : Stmt := topS 42
abbrev nm__law_pick : List Str := ["_law_h", "_law_things"]
abbrev ps__law_pick : List Str := ["_law_h", "_law_things"]
theorem sc__law_pick : FnScope nm__law_pick ps__law_pick (defScope st__law_pick) := ⟨rfl, rfl, rfl, by decide +kernel, rfl, by decide +kernel, by decide +kernel⟩
abbrev st__law_parts : Stmt := topS 43
abbrev nm__law_parts : List Str := ["_law_h", "_law_letters", "_law_many", "_law_early", "_law_steps", "_law_good", "_law_stand", "_law_low", "_law_letter"]
abbrev ps__law_parts : List Str := ["_law_h", "_law_letters"]
theorem sc__law_parts : FnScope nm__law_parts ps__law_parts (defScope st__law_parts) := ⟨rfl, rfl, rfl, by decide +kernel, rfl, by decide +kernel, by decide +kernel⟩
abbrev st__law_lengths : Stmt := topS 44
abbrev nm__law_lengths : List Str := ["_law_one", "_law_other", "_law_begin", "_law_most", "_law_found", "_law_here", "_law_length", "_law_later", "_law_own", "_law_pair", "_law_goal"]
abbrev ps__law_lengths : List Str := ["_law_one", "_law_other", "_law_begin", "_law_most"]
theorem sc__law_lengths : FnScope nm__law_lengths ps__law_lengths (defScope st__law_lengths) := ⟨rfl, rfl, rfl, by decide +kernel, rfl, by decide +kernel, by decide +kernel⟩
abbrev st__law_pairs : Stmt := topS 45
abbrev nm__law_pairs : List Str := ["_law_one", "_law_other", "_law_begin", "_law_known", "_law_row", "_law_pair", "_law_goal"]
abbrev ps__law_pairs : List Str := ["_law_one", "_law_other", "_law_begin"]
theorem sc__law_pairs : FnScope nm__law_pairs ps__law_pairs (defScope st__law_pairs) := ⟨rfl, rfl, rfl, by decide +kernel, rfl, by decide +kernel, by decide +kernel⟩
abbrev st__law_same : Stmt := topS 46
abbrev nm__law_same : List Str := ["_law_parts_here", "_law_one", "_law_other", "_law_known", "_law_pair"]
abbrev ps__law_same : List Str := ["_law_parts_here", "_law_one", "_law_other"]
theorem sc__law_same : FnScope nm__law_same ps__law_same (defScope st__law_same) := ⟨rfl, rfl, rfl, by decide +kernel, rfl, by decide +kernel, by decide +kernel⟩
abbrev st__law_least : Stmt := topS 47
abbrev nm__law_least : List Str := ["_law_parts_here", "_law_line", "_law_rows", "_law_k", "_law_row", "_law_goal", "_law_like", "_law_at"]
abbrev ps__law_least : List Str := ["_law_parts_here"]
theorem sc__law_least : FnScope nm__law_least ps__law_least (defScope st__law_least) := ⟨rfl, rfl, rfl, by decide +kernel, rfl, by decide +kernel, by decide +kernel⟩
abbrev st__law_unlike : Stmt := topS 48
abbrev nm__law_unlike : List Str := ["_law_one", "_law_other", "_law_begin", "_law_known", "_law_many", "_law_found", "_law_pair", "_law_k"]
abbrev ps__law_unlike : List Str := ["_law_one", "_law_other", "_law_begin"]
theorem sc__law_unlike : FnScope nm__law_unlike ps__law_unlike (defScope st__law_unlike) := ⟨rfl, rfl, rfl, by decide +kernel, rfl, by decide +kernel, by decide +kernel⟩
abbrev st__law_sorts : Stmt := topS 49
abbrev nm__law_sorts : List Str := ["_law_parts_here", "_law_many", "_law_sorts_here", "_law_firsts", "_law_stand", "_law_like", "_law_here", "_law_sums", "_law_late", "_law_length", "_law_later", "_law_goal", "_law_k"]
abbrev ps__law_sorts : List Str := ["_law_parts_here"]
theorem sc__law_sorts : FnScope nm__law_sorts ps__law_sorts (defScope st__law_sorts) := ⟨rfl, rfl, rfl, by decide +kernel, rfl, by decide +kernel, by decide +kernel⟩
abbrev st__law_cost : Stmt := topS 50
abbrev nm__law_cost : List Str := ["_law_parts_here", "_law_stays", "_law_goals", "_law_weights", "_law_found", "_law_stay", "_law_wrong_here", "_law_k"]
abbrev ps__law_cost : List Str := ["_law_parts_here", "_law_stays", "_law_goals", "_law_weights"]
theorem sc__law_cost : FnScope nm__law_cost ps__law_cost (defScope st__law_cost) := ⟨rfl, rfl, rfl, by decide +kernel, rfl, by decide +kernel, by decide +kernel⟩
abbrev st__law_wrong : Stmt := topS 51
abbrev nm__law_wrong : List Str := ["_law_whole", "_law_parts_here", "_law_sorts_here", "_law_counts", "_law_stays", "_law_stand", "_law_total", "_law_kind", "_law_some", "_law_good", "_law_letter", "_law_goals"]
abbrev ps__law_wrong : List Str := ["_law_whole"]
theorem sc__law_wrong : FnScope nm__law_wrong ps__law_wrong (defScope st__law_wrong) := ⟨rfl, rfl, rfl, by decide +kernel, rfl, by decide +kernel, by decide +kernel⟩
abbrev st__law_all : Stmt := topS 52
abbrev nm__law_all : List Str := ["_law_letters", "_law_many", "_law_rows", "_law_tables", "_law_letter", "_law_longer", "_law_row", "_law_stand", "_law_table", "_law_found", "_law_good"]
abbrev ps__law_all : List Str := ["_law_letters", "_law_many"]
theorem sc__law_all : FnScope nm__law_all ps__law_all (defScope st__law_all) := ⟨rfl, rfl, rfl, by decide +kernel, rfl, by decide +kernel, by decide +kernel⟩
abbrev st__law_three : Stmt := topS 53
abbrev nm__law_three : List Str := ["_law_found", "_law_code", "_law_cells", "_law_left", "_law_line", "_law_k", "_law_table", "_law_stand", "_law_goal"]
abbrev ps__law_three : List Str := []
theorem sc__law_three : FnScope nm__law_three ps__law_three (defScope st__law_three) := ⟨rfl, rfl, rfl, by decide +kernel, rfl, by decide +kernel, by decide +kernel⟩
abbrev st__law_end : Stmt := topS 54
abbrev nm__law_end : List Str := ["_law_parts_here", "_law_stand", "_law_row", "_law_letter"]
abbrev ps__law_end : List Str := ["_law_parts_here", "_law_stand", "_law_row"]
theorem sc__law_end : FnScope nm__law_end ps__law_end (defScope st__law_end) := ⟨rfl, rfl, rfl, by decide +kernel, rfl, by decide +kernel, by decide +kernel⟩
abbrev st__law_long : Stmt := topS 55
abbrev nm__law_long : List Str := ["_law_h", "_law_parts_here", "_law_found", "_law_k", "_law_row", "_law_letter"]
abbrev ps__law_long : List Str := ["_law_h", "_law_parts_here"]
theorem sc__law_long : FnScope nm__law_long ps__law_long (defScope st__law_long) := ⟨rfl, rfl, rfl, by decide +kernel, rfl, by decide +kernel, by decide +kernel⟩
abbrev st__law_wrongs : Stmt := topS 56
abbrev nm__law_wrongs : List Str := ["_law_parts_here", "_law_rows", "_law_found", "_law_table", "_law_marks", "_law_some", "_law_wrong_here", "_law_k", "_law_row", "_law_lets"]
abbrev ps__law_wrongs : List Str := ["_law_parts_here", "_law_rows"]
theorem sc__law_wrongs : FnScope nm__law_wrongs ps__law_wrongs (defScope st__law_wrongs) := ⟨rfl, rfl, rfl, by decide +kernel, rfl, by decide +kernel, by decide +kernel⟩
abbrev st_law : Stmt := topS 57
abbrev nm_law : List Str := ["_law_script", "_law_h", "_law_turn", "_law_letters", "_law_parts_here", "_law_machine", "_law_due", "_law_found", "_law_many", "_law_wrong_here", "_law_some"]
abbrev ps_law : List Str := ["_law_script"]
theorem sc_law : FnScope nm_law ps_law (defScope st_law) := ⟨rfl, rfl, rfl, by decide +kernel, rfl, by decide +kernel, by decide +kernel⟩
structure Ad where
  f_is_integer : Addr
  d_is_integer : FuncData
  f_check_steps : Addr
  d_check_steps : FuncData
  f_check_good : Addr
  d_check_good : FuncData
  f_Machine_init : Addr
  d_Machine_init : FuncData
  f_Machine_steps : Addr
  d_Machine_steps : FuncData
  f_Machine_good : Addr
  d_Machine_good : FuncData
  f_Machine_len : Addr
  d_Machine_len : FuncData
  f_is_unlike : Addr
  d_is_unlike : FuncData
  f_goals_of : Addr
  d_goals_of : FuncData
  f_come_to : Addr
  d_come_to : FuncData
  f_useful : Addr
  d_useful : FuncData
  f_counted : Addr
  d_counted : FuncData
  f_numbered : Addr
  d_numbered : FuncData
  f_classes_by : Addr
  d_classes_by : FuncData
  f_shrunk : Addr
  d_shrunk : FuncData
  f_marks_of : Addr
  d_marks_of : FuncData
  f_kinds_of : Addr
  d_kinds_of : FuncData
  f_come_counts : Addr
  d_come_counts : FuncData
  f_fewest : Addr
  d_fewest : FuncData
  f_lean_parts : Addr
  d_lean_parts : FuncData
  f_Plan_init : Addr
  d_Plan_init : FuncData
  f_Plan_gap : Addr
  d_Plan_gap : FuncData
  f_Plan_early : Addr
  d_Plan_early : FuncData
  f_best_stay : Addr
  d_best_stay : FuncData
  f_goal_for : Addr
  d_goal_for : FuncData
  f_mark_for : Addr
  d_mark_for : FuncData
  f_begin_for : Addr
  d_begin_for : FuncData
  f_built : Addr
  d_built : FuncData
  f_least_wrong : Addr
  d_least_wrong : FuncData
  f_best_lean : Addr
  d_best_lean : FuncData
  f__law_mix : Addr
  d__law_mix : FuncData
  f__law_next : Addr
  d__law_next : FuncData
  f__law_alike : Addr
  d__law_alike : FuncData
  f__law_pick : Addr
  d__law_pick : FuncData
  f__law_parts : Addr
  d__law_parts : FuncData
  f__law_lengths : Addr
  d__law_lengths : FuncData
  f__law_pairs : Addr
  d__law_pairs : FuncData
  f__law_same : Addr
  d__law_same : FuncData
  f__law_least : Addr
  d__law_least : FuncData
  f__law_unlike : Addr
  d__law_unlike : FuncData
  f__law_sorts : Addr
  d__law_sorts : FuncData
  f__law_cost : Addr
  d__law_cost : FuncData
  f__law_wrong : Addr
  d__law_wrong : FuncData
  f__law_all : Addr
  d__law_all : FuncData
  f__law_three : Addr
  d__law_three : FuncData
  f__law_end : Addr
  d__law_end : FuncData
  f__law_long : Addr
  d__law_long : FuncData
  f__law_wrongs : Addr
  d__law_wrongs : FuncData
  f_law : Addr
  d_law : FuncData
  M : Addr
  P : Addr
  q_steps : Addr
  q_good : Addr
  u_stands : Tok
  u_letters : Tok
  u_kernel : Tok
  u_early : Tok
structure Txt (A : Ad) (K : PySem.W.Frag) (mg : Str → Option Value) : Prop where
  F_is_integer : Fun K "is_integer" "is_integer" st_is_integer A.f_is_integer A.d_is_integer
  b_is_integer : Binds K A.d_is_integer ps_is_integer []
  g_is_integer : mg "is_integer" = some (.ref A.f_is_integer)
  F_check_steps : Fun K "check_steps" "check_steps" st_check_steps A.f_check_steps A.d_check_steps
  b_check_steps : Binds K A.d_check_steps ps_check_steps []
  g_check_steps : mg "check_steps" = some (.ref A.f_check_steps)
  F_check_good : Fun K "check_good" "check_good" st_check_good A.f_check_good A.d_check_good
  b_check_good : Binds K A.d_check_good ps_check_good []
  g_check_good : mg "check_good" = some (.ref A.f_check_good)
  F_Machine_init : Fun K "__init__" "Machine.__init__" st_Machine_init A.f_Machine_init A.d_Machine_init
  b_Machine_init : Binds K A.d_Machine_init ps_Machine_init []
  F_Machine_steps : Fun K "steps" "Machine.steps" st_Machine_steps A.f_Machine_steps A.d_Machine_steps
  b_Machine_steps : Binds K A.d_Machine_steps ps_Machine_steps []
  F_Machine_good : Fun K "good" "Machine.good" st_Machine_good A.f_Machine_good A.d_Machine_good
  b_Machine_good : Binds K A.d_Machine_good ps_Machine_good []
  F_Machine_len : Fun K "__len__" "Machine.__len__" st_Machine_len A.f_Machine_len A.d_Machine_len
  b_Machine_len : Binds K A.d_Machine_len ps_Machine_len []
  F_is_unlike : Fun K "is_unlike" "is_unlike" st_is_unlike A.f_is_unlike A.d_is_unlike
  b_is_unlike : Binds K A.d_is_unlike ps_is_unlike []
  g_is_unlike : mg "is_unlike" = some (.ref A.f_is_unlike)
  F_goals_of : Fun K "goals_of" "goals_of" st_goals_of A.f_goals_of A.d_goals_of
  b_goals_of : Binds K A.d_goals_of ps_goals_of []
  g_goals_of : mg "goals_of" = some (.ref A.f_goals_of)
  F_come_to : Fun K "come_to" "come_to" st_come_to A.f_come_to A.d_come_to
  b_come_to : Binds K A.d_come_to ps_come_to []
  g_come_to : mg "come_to" = some (.ref A.f_come_to)
  F_useful : Fun K "useful" "useful" st_useful A.f_useful A.d_useful
  b_useful : Binds K A.d_useful ps_useful []
  g_useful : mg "useful" = some (.ref A.f_useful)
  F_counted : Fun K "counted" "counted" st_counted A.f_counted A.d_counted
  b_counted : Binds K A.d_counted ps_counted []
  g_counted : mg "counted" = some (.ref A.f_counted)
  F_numbered : Fun K "numbered" "numbered" st_numbered A.f_numbered A.d_numbered
  b_numbered : Binds K A.d_numbered ps_numbered []
  g_numbered : mg "numbered" = some (.ref A.f_numbered)
  F_classes_by : Fun K "classes_by" "classes_by" st_classes_by A.f_classes_by A.d_classes_by
  b_classes_by : Binds K A.d_classes_by ps_classes_by []
  g_classes_by : mg "classes_by" = some (.ref A.f_classes_by)
  F_shrunk : Fun K "shrunk" "shrunk" st_shrunk A.f_shrunk A.d_shrunk
  b_shrunk : Binds K A.d_shrunk ps_shrunk []
  g_shrunk : mg "shrunk" = some (.ref A.f_shrunk)
  F_marks_of : Fun K "marks_of" "marks_of" st_marks_of A.f_marks_of A.d_marks_of
  b_marks_of : Binds K A.d_marks_of ps_marks_of []
  g_marks_of : mg "marks_of" = some (.ref A.f_marks_of)
  F_kinds_of : Fun K "kinds_of" "kinds_of" st_kinds_of A.f_kinds_of A.d_kinds_of
  b_kinds_of : Binds K A.d_kinds_of ps_kinds_of []
  g_kinds_of : mg "kinds_of" = some (.ref A.f_kinds_of)
  F_come_counts : Fun K "come_counts" "come_counts" st_come_counts A.f_come_counts A.d_come_counts
  b_come_counts : Binds K A.d_come_counts ps_come_counts []
  g_come_counts : mg "come_counts" = some (.ref A.f_come_counts)
  F_fewest : Fun K "fewest" "fewest" st_fewest A.f_fewest A.d_fewest
  b_fewest : Binds K A.d_fewest ps_fewest []
  g_fewest : mg "fewest" = some (.ref A.f_fewest)
  F_lean_parts : Fun K "lean_parts" "lean_parts" st_lean_parts A.f_lean_parts A.d_lean_parts
  b_lean_parts : Binds K A.d_lean_parts ps_lean_parts []
  g_lean_parts : mg "lean_parts" = some (.ref A.f_lean_parts)
  F_Plan_init : Fun K "__init__" "Plan.__init__" st_Plan_init A.f_Plan_init A.d_Plan_init
  b_Plan_init : Binds K A.d_Plan_init ps_Plan_init []
  F_Plan_gap : Fun K "gap" "Plan.gap" st_Plan_gap A.f_Plan_gap A.d_Plan_gap
  b_Plan_gap : Binds K A.d_Plan_gap ps_Plan_gap []
  F_Plan_early : Fun K "early" "Plan.early" st_Plan_early A.f_Plan_early A.d_Plan_early
  b_Plan_early : Binds K A.d_Plan_early ps_Plan_early []
  F_best_stay : Fun K "best_stay" "best_stay" st_best_stay A.f_best_stay A.d_best_stay
  b_best_stay : Binds K A.d_best_stay ps_best_stay []
  g_best_stay : mg "best_stay" = some (.ref A.f_best_stay)
  F_goal_for : Fun K "goal_for" "goal_for" st_goal_for A.f_goal_for A.d_goal_for
  b_goal_for : Binds K A.d_goal_for ps_goal_for []
  g_goal_for : mg "goal_for" = some (.ref A.f_goal_for)
  F_mark_for : Fun K "mark_for" "mark_for" st_mark_for A.f_mark_for A.d_mark_for
  b_mark_for : Binds K A.d_mark_for ps_mark_for []
  g_mark_for : mg "mark_for" = some (.ref A.f_mark_for)
  F_begin_for : Fun K "begin_for" "begin_for" st_begin_for A.f_begin_for A.d_begin_for
  b_begin_for : Binds K A.d_begin_for ps_begin_for []
  g_begin_for : mg "begin_for" = some (.ref A.f_begin_for)
  F_built : Fun K "built" "built" st_built A.f_built A.d_built
  b_built : Binds K A.d_built ps_built []
  g_built : mg "built" = some (.ref A.f_built)
  F_least_wrong : Fun K "least_wrong" "least_wrong" st_least_wrong A.f_least_wrong A.d_least_wrong
  b_least_wrong : Binds K A.d_least_wrong ps_least_wrong []
  g_least_wrong : mg "least_wrong" = some (.ref A.f_least_wrong)
  F_best_lean : Fun K "best_lean" "best_lean" st_best_lean A.f_best_lean A.d_best_lean
  b_best_lean : Binds K A.d_best_lean ps_best_lean []
  g_best_lean : mg "best_lean" = some (.ref A.f_best_lean)
  F__law_mix : Fun K "_law_mix" "_law_mix" st__law_mix A.f__law_mix A.d__law_mix
  b__law_mix : Binds K A.d__law_mix ps__law_mix []
  g__law_mix : mg "_law_mix" = some (.ref A.f__law_mix)
  F__law_next : Fun K "_law_next" "_law_next" st__law_next A.f__law_next A.d__law_next
  b__law_next : Binds K A.d__law_next ps__law_next []
  g__law_next : mg "_law_next" = some (.ref A.f__law_next)
  F__law_alike : Fun K "_law_alike" "_law_alike" st__law_alike A.f__law_alike A.d__law_alike
  b__law_alike : Binds K A.d__law_alike ps__law_alike []
  g__law_alike : mg "_law_alike" = some (.ref A.f__law_alike)
  F__law_pick : Fun K "_law_pick" "_law_pick" st__law_pick A.f__law_pick A.d__law_pick
  b__law_pick : Binds K A.d__law_pick ps__law_pick []
  g__law_pick : mg "_law_pick" = some (.ref A.f__law_pick)
  F__law_parts : Fun K "_law_parts" "_law_parts" st__law_parts A.f__law_parts A.d__law_parts
  b__law_parts : Binds K A.d__law_parts ps__law_parts []
  g__law_parts : mg "_law_parts" = some (.ref A.f__law_parts)
  F__law_lengths : Fun K "_law_lengths" "_law_lengths" st__law_lengths A.f__law_lengths A.d__law_lengths
  b__law_lengths : Binds K A.d__law_lengths ps__law_lengths []
  g__law_lengths : mg "_law_lengths" = some (.ref A.f__law_lengths)
  F__law_pairs : Fun K "_law_pairs" "_law_pairs" st__law_pairs A.f__law_pairs A.d__law_pairs
  b__law_pairs : Binds K A.d__law_pairs ps__law_pairs []
  g__law_pairs : mg "_law_pairs" = some (.ref A.f__law_pairs)
  F__law_same : Fun K "_law_same" "_law_same" st__law_same A.f__law_same A.d__law_same
  b__law_same : Binds K A.d__law_same ps__law_same []
  g__law_same : mg "_law_same" = some (.ref A.f__law_same)
  F__law_least : Fun K "_law_least" "_law_least" st__law_least A.f__law_least A.d__law_least
  b__law_least : Binds K A.d__law_least ps__law_least []
  g__law_least : mg "_law_least" = some (.ref A.f__law_least)
  F__law_unlike : Fun K "_law_unlike" "_law_unlike" st__law_unlike A.f__law_unlike A.d__law_unlike
  b__law_unlike : Binds K A.d__law_unlike ps__law_unlike []
  g__law_unlike : mg "_law_unlike" = some (.ref A.f__law_unlike)
  F__law_sorts : Fun K "_law_sorts" "_law_sorts" st__law_sorts A.f__law_sorts A.d__law_sorts
  b__law_sorts : Binds K A.d__law_sorts ps__law_sorts []
  g__law_sorts : mg "_law_sorts" = some (.ref A.f__law_sorts)
  F__law_cost : Fun K "_law_cost" "_law_cost" st__law_cost A.f__law_cost A.d__law_cost
  b__law_cost : Binds K A.d__law_cost ps__law_cost []
  g__law_cost : mg "_law_cost" = some (.ref A.f__law_cost)
  F__law_wrong : Fun K "_law_wrong" "_law_wrong" st__law_wrong A.f__law_wrong A.d__law_wrong
  b__law_wrong : Binds K A.d__law_wrong ps__law_wrong []
  g__law_wrong : mg "_law_wrong" = some (.ref A.f__law_wrong)
  F__law_all : Fun K "_law_all" "_law_all" st__law_all A.f__law_all A.d__law_all
  b__law_all : Binds K A.d__law_all ps__law_all []
  g__law_all : mg "_law_all" = some (.ref A.f__law_all)
  F__law_three : Fun K "_law_three" "_law_three" st__law_three A.f__law_three A.d__law_three
  b__law_three : Binds K A.d__law_three ps__law_three []
  g__law_three : mg "_law_three" = some (.ref A.f__law_three)
  F__law_end : Fun K "_law_end" "_law_end" st__law_end A.f__law_end A.d__law_end
  b__law_end : Binds K A.d__law_end ps__law_end []
  g__law_end : mg "_law_end" = some (.ref A.f__law_end)
  F__law_long : Fun K "_law_long" "_law_long" st__law_long A.f__law_long A.d__law_long
  b__law_long : Binds K A.d__law_long ps__law_long []
  g__law_long : mg "_law_long" = some (.ref A.f__law_long)
  F__law_wrongs : Fun K "_law_wrongs" "_law_wrongs" st__law_wrongs A.f__law_wrongs A.d__law_wrongs
  b__law_wrongs : Binds K A.d__law_wrongs ps__law_wrongs []
  g__law_wrongs : mg "_law_wrongs" = some (.ref A.f__law_wrongs)
  F_law : Fun K "law" "law" st_law A.f_law A.d_law
  b_law : Binds K A.d_law ps_law []
  g_law : mg "law" = some (.ref A.f_law)
  n_all : mg "all" = none
  n_any : mg "any" = none
  n_bool : mg "bool" = none
  n_enumerate : mg "enumerate" = none
  n_int : mg "int" = none
  n_isinstance : mg "isinstance" = none
  n_len : mg "len" = none
  n_list : mg "list" = none
  n_max : mg "max" = none
  n_min : mg "min" = none
  n_range : mg "range" = none
  n_str : mg "str" = none
  n_sum : mg "sum" = none
  n_tuple : mg "tuple" = none
  n_zip : mg "zip" = none
  c_MOST_STANDS : mg "MOST_STANDS" = some (.int 8 A.u_stands)
  c_MOST_LETTERS : mg "MOST_LETTERS" = some (.int 3 A.u_letters)
  c_KERNEL : mg "KERNEL" = some (.str "kernel" A.u_kernel)
  c_EARLY : mg "EARLY" = some (.str "early" A.u_early)
  mgM : mg "Machine" = some (.ref A.M)
  mgP : mg "Plan" = some (.ref A.P)
  clM : Cls K A.M
  clP : Cls K A.P
  mkM : Mk K A.M A.f_Machine_init
  mkP : Mk K A.P A.f_Plan_init
  na_parts : NoAttr K A.M "parts"
  na_rows : NoAttr K A.P "rows"
  na_marks : NoAttr K A.P "marks"
  na_least : NoAttr K A.P "least"
  na_kinds : NoAttr K A.P "kinds"
  na_counts : NoAttr K A.P "counts"
  na_stays : NoAttr K A.P "stays"
  me_gap : Meth K A.P "gap" A.f_Plan_gap
  me_early : Meth K A.P "early" A.f_Plan_early
  pr_steps : PropOf K A.M "steps" A.q_steps A.f_Machine_steps
  pr_good : PropOf K A.M "good" A.q_good A.f_Machine_good
  ln : LenOwn K A.M A.f_Machine_len
  isM : IsOwn K A.M
end B
namespace B
open PySem L2
section
variable {P : Program} {w : World} {A : Ad} {K : PySem.W.Frag} {mg : Str → Option Value} {base : Heap}
abbrev rP : MR Pr := rPr rNat rNat
abbrev sg3 (C : Addr) (a : Mc × Mc × Pr) : List SS := [.is (rMach C) a.1, .is (rMach C) a.2.1, .is rP a.2.2]
abbrev sp_is_unlike (C : Addr) : Sp := prm (sg3 C) (fun _ => True) (fun _ => rBool) (fun a => unl a.1 a.2.1 a.2.2)
theorem ok_is_unlike (T : Txt A K mg) : FnOk P w K mg base CX0 1 A.f_is_unlike A.d_is_unlike ps_is_unlike (sp_is_unlike A.M) := by
  refine T.F_is_unlike.ok sc_is_unlike (fun vs H Q E h => prm_len (fun _ => rfl) h) (fun cdv Ar outer s H vs Q E hr h => ⟨_, (pss_one (ps_ret (pe_cmpR op_ne (pe_cmpR (op_in_seqK (K := K) rfl) (pe_ix (ix_tupK (K := K) rfl) (pv 2) pe_int (fun _ _ => rfl)) (pe_ix (ix_tupK (K := K) rfl) (pe_fldK (K := K) rfl (pv 0) rfl) pe_int (fun _ _ => rfl)) (by rfl)) (pe_cmpR (op_in_seqK (K := K) rfl) (pe_ix (ix_tupK (K := K) rfl) (pv 2) pe_int (fun _ _ => rfl)) (pe_ix (ix_tupK (K := K) rfl) (pe_fldK (K := K) rfl (pv 1) rfl) pe_int (fun _ _ => rfl)) (by rfl)) (nomark _)))), go_start h ?_⟩)
  rintro ⟨m1, m2, p⟩ H0 G0 hp hq
  exact go_ret hq (ev_neB (ev_inT (ev_fst (ev_var rfl)) (ev_snd (ev_parts T.clM T.na_parts (ev_var rfl)))) (ev_inT (ev_snd (ev_var rfl)) (ev_snd (ev_parts T.clM T.na_parts (ev_var rfl)))))
structure Ok2 (L : Nat) (a : Mc × Mc × Pr) : Prop where
  o1 : OkM L a.1
  o2 : OkM L a.2.1
  i : inM a.1 a.2.1 a.2.2
  l3 : L ≤ 3
abbrev sp_goals_of (C : Addr) : Sp := prm (sg3 C) (fun a => ∃ L, Ok2 L a) (fun _ => rList rP) (fun a => goals a.1 a.2.1 a.2.2)
theorem ok_goals_of (T : Txt A K mg) : FnOk P w K mg base CX0 1 A.f_goals_of A.d_goals_of ps_goals_of (sp_goals_of A.M) := by
  refine T.F_goals_of.ok sc_goals_of (fun vs H Q E h => prm_len (fun _ => rfl) h) (fun cdv Ar outer s H vs Q E hr h => ⟨_, (pss_one (ps_ret (pe_listzipK (K := K) rfl (by rfl) T.n_list (by rfl) T.n_zip (pa_cons (pe_ix (ix_tupK (K := K) rfl) (pe_ix (ix_tupK (K := K) rfl) (pe_fldK (K := K) rfl (pv 0) rfl) pe_int (fun _ _ => rfl)) (pe_ix (ix_tupK (K := K) rfl) (pv 2) pe_int (fun _ _ => rfl)) (fun _ _ => rfl)) (pa_cons (pe_ix (ix_tupK (K := K) rfl) (pe_ix (ix_tupK (K := K) rfl) (pe_fldK (K := K) rfl (pv 1) rfl) pe_int (fun _ _ => rfl)) (pe_ix (ix_tupK (K := K) rfl) (pv 2) pe_int (fun _ _ => rfl)) (fun _ _ => rfl)) pa_nil))))), go_start h ?_⟩)
  rintro ⟨m1, m2, p⟩ H0 G0 ⟨L, hp⟩ hq
  refine go_ret hq (ev_listzip (ev_ixT (ev_fst (ev_parts T.clM T.na_parts (ev_var rfl))) (ev_fst (ev_var rfl)) (row_at hp.i.1)) (ev_ixT (ev_fst (ev_parts T.clM T.na_parts (ev_var rfl))) (ev_snd (ev_var rfl)) (row_at hp.i.2)) ?_ ?_)
  · have h1 : (row m1 p.1).length = L := hp.o1.row_len hp.i.1
    show (row m1 p.1).length ≤ 1000
    have h2 : L ≤ 3 := hp.l3
    omega
  · have h1 : (row m1 p.1).length = L := hp.o1.row_len hp.i.1
    have h2 : (row m2 p.2).length = L := hp.o2.row_len hp.i.2
    exact h1.trans h2.symm
abbrev sp_come_to (C : Addr) : Sp := prm (sg3 C) (fun a => ∃ L, Ok2 L a) (fun _ => rList rP) (fun a => bfsP a.1 a.2.1 a.2.2)
structure ComeI (m1 m2 : Mc) (b : Pr) (s : List Pr × Nat) : Prop where
  eq : bfs (goals m1 m2) (65 - s.2) s.1 s.2 = bfsP m1 m2 b
  nd : s.1.Nodup
  inn : ∀ p ∈ s.1, inM m1 m2 p
  le : s.2 ≤ s.1.length
def tru (l : List Pr) : List (Pr × Bool) := l.map fun p => (p, true)
theorem look_tru (l : List Pr) (p : Pr) : (look (tru l) p).isNone = !decide (p ∈ l) := by
  have h := look_isSome (kvs := tru l) (k := p)
  rw [show (tru l).map (·.1) = l by unfold tru; rw [List.map_map]; exact List.map_id l] at h
  cases hl : look (tru l) p with
  | none =>
    rw [hl] at h
    simp at h
    simp [h]
  | some x =>
    rw [hl] at h
    simp at h
    simp [h]
theorem ok_come_to (T : Txt A K mg) : FnOk P w K mg base CX0 2 A.f_come_to A.d_come_to ps_come_to (sp_come_to A.M) := by
  refine T.F_come_to.ok sc_come_to (fun vs H Q E h => prm_len (fun _ => rfl) h) (fun cdv Ar outer s H vs Q E hr h => ⟨_, (pss_cons (ps_par (i := 3) (j := 4) (by rfl) sc_come_to.nd rfl rfl (by decide) rfl rfl (pa_cons (pe_dispT hr.units0 (pv 2) pe_bl) (pa_cons (pe_lst (pa_cons (pv 2) pa_nil)) pa_nil)) (by rfl))
      (pss_cons (ps_set (i := 5) sc_come_to.nd rfl (by first | exact Or.inl rfl | exact Or.inr rfl) (pe_lst pa_nil))
      (pss_cons (ps_while PassesOwn.never (pt_cmpR op_lt (pe_callB (call_len_seqK (K := K) rfl) (by rfl) T.n_len PySem.boot_len (pa_cons (pv 5) pa_nil)) (pe_callB (call_len_seqK (K := K) rfl) (by rfl) T.n_len PySem.boot_len (pa_cons (pv 4) pa_nil)) (nomark _)) (pss_cons (ps_set (i := 6) sc_come_to.nd rfl (by first | exact Or.inl rfl | exact Or.inr rfl) (pe_ix (ix_listK (K := K) rfl) (pv 4) (pe_callB (call_len_seqK (K := K) rfl) (by rfl) T.n_len PySem.boot_len (pa_cons (pv 5) pa_nil)) (fun _ _ => rfl)))
      (pss_cons (ps_expr (pe_bm PySem.F.plainAttrs_list PySem.F.slot_list_append PySem.F.type_list_append mt_append (pv 5) (pa_cons (pv 6) pa_nil)))
      (pss_one (ps_for PassesOwn.never rfl (pi_listK (K := K) rfl (pe_call (ok_goals_of T) (hr.mono (by decide)) (by rfl) T.g_goals_of T.F_goals_of.kp T.b_goals_of .nil pass0 (pa_cons (pv 0) (pa_cons (pv 1) (pa_cons (pv 6) pa_nil))))) (pg_name (i := 7) sc_come_to.nd rfl (by first | exact Or.inl rfl | exact Or.inr rfl)) (pss_one (ps_if (pt_cmp (pc_dnotin (hu_of hr) (pv 7) (pv 3))) (pss_cons (ps_dput (hu_of hr) (pv 3) (pv 7) pe_bl rfl)
      (pss_one (ps_expr (pe_bm PySem.F.plainAttrs_list PySem.F.slot_list_append PySem.F.type_list_append mt_append (pv 4) (pa_cons (pv 7) pa_nil))))) pss_nil)))))))
      (pss_one (ps_ret (pv 5)))))), go_start h ?_⟩)
  rintro ⟨m1, m2, b⟩ H0 G0 ⟨L, hp⟩ hq
  refine q_par (eg_dispT keyP (fun m => ev_var rfl) (fun m => ev_bl)) (eg_own (eo_one (R := rP) (ev_var rfl))) ?_
  refine q_asg (eg_own (eo_nil (R := rP))) ?_
  refine q_while (σt := List Pr × Nat) (fun s => [.is (rMach A.M) m1, .is (rMach A.M) m2, .is rP b, .own 0, .own 1, .own 2, .no, .no]) (fun s => [some (oDT encP rBool (tru s.1)), some (oList rP s.1), some (oList rP (s.1.take s.2))])
    (ComeI m1 m2 b) (fun s => 65 - s.2) (fun s => decide (s.2 < s.1.length)) ([b], 0) ⟨rfl, by simp, fun p h => by rw [List.mem_singleton.mp h]; exact hp.i, Nat.zero_le _⟩ (Wk.refl _) rfl ?_ ?_ ?_
  · rintro ⟨l, k⟩ ⟨h1, h2, h3, h4⟩
    refine et_eq (et_test (ev_ltN (ev_lenO rfl rfl) (ev_lenO rfl rfl))) ?_
    rw [List.length_take, Nat.min_eq_left h4]
  · rintro ⟨l, k⟩ ⟨h1, h2, h3, h4⟩ hb
    dsimp only at h1 h2 h3 h4 hb ⊢
    have hk : k < l.length := of_decide_eq_true hb
    have h64 := pairs_le hp.o1 hp.o2 h2 h3
    have hx : l[k]? = some l[k] := List.getElem?_eq_getElem hk
    have hin := h3 _ (List.getElem_mem hk)
    have hlt : (l.take k).length = k := by rw [List.length_take, Nat.min_eq_left h4]
    refine q_asg (eg_ev (ev_ixO (x := l[k]) rfl rfl (ev_lenO rfl rfl) (by rw [hlt]; exact hx))) ?_
    refine q_app (x := l[k]) rfl rfl (by rw [hlt]; omega) (ev_var rfl) ?_
    refine go_for (σt := List Pr) (fun l' => [.is (rMach A.M) m1, .is (rMach A.M) m2, .is rP b, .own 0, .own 1, .own 2, .no, .no]) (fun l' => [some (oDT encP rBool (tru l')), some (oList rP l'), some (oList rP (l.take k ++ [l[k]]))])
      (fun i l' => l' = addNew l ((goals m1 m2 l[k]).take i)) l (it_list (ev_call (m1, m2, l[k]) (ea_cons (ev_var rfl) (ea_cons (ev_var rfl) (ea_cons (ev_var rfl) ea_nil))) ⟨L, hp.o1, hp.o2, hin, hp.l3⟩)) (tg_name 7) rfl (.same (.same (.same (.same (.same (.same (.no (.same .nil)))))))) rfl ?_ ?_
    · rintro G1 bs i l' g hg rfl
      dsimp only at hg ⊢
      have hnd : (addNew l ((goals m1 m2 l[k]).take i)).Nodup := addNew_nodup _ _ h2
      have hin' : ∀ p ∈ addNew l ((goals m1 m2 l[k]).take i), inM m1 m2 p := fun p hm => by
        rcases (mem_addNew _ _).mp hm with h | h
        · exact h3 p h
        · exact goals_in hp.o1 hp.o2 hin (List.mem_of_mem_take h)
      have hle := pairs_le hp.o1 hp.o2 hnd hin'
      have etk : (goals m1 m2 l[k]).take (i + 1) = (goals m1 m2 l[k]).take i ++ [g] := by rw [List.take_add_one, hg] <;> rfl
      refine go_if (et_B (ev_dnin keyP rfl rfl isDT (ev_var rfl))) (fun hn => ?_) (fun hn => ?_)
      · rw [look_tru] at hn
        have hnm : g ∉ addNew l ((goals m1 m2 l[k]).take i) := by simpa using hn
        refine q_dput keyP rfl rfl ev_bl (ev_var rfl) (by simp [tru]; omega) ?_
        refine go_app rfl rfl (by omega) (ev_var rfl) ?_
        refine go_turn (addNew l ((goals m1 m2 l[k]).take (i + 1))) rfl (.same (.same (.same (.same (.same (.same (.same (.no .nil)))))))) ?_
        rw [etk, addNew_snoc, if_neg hnm, put_new]
        · simp [tru]
        · have := look_tru (addNew l ((goals m1 m2 l[k]).take i)) g
          simpa [hnm] using this
      · rw [look_tru] at hn
        have hnm : g ∈ addNew l ((goals m1 m2 l[k]).take i) := by simpa using hn
        refine go_next (go_turn (addNew l ((goals m1 m2 l[k]).take (i + 1))) rfl (.same (.same (.same (.same (.same (.same (.same (.no .nil)))))))) ?_)
        rw [etk, addNew_snoc, if_pos hnm]
    · rintro l' rfl
      dsimp only
      rw [List.take_length]
      obtain ⟨more, hmore⟩ := addNew_pre (goals m1 m2 l[k]) l
      refine go_turn (addNew l (goals m1 m2 l[k]), k + 1) ⟨⟨?_, addNew_nodup _ _ h2, fun p hm => ?_, ?_⟩, ?_⟩ (Wk.refl _) ?_
      · rw [← h1, show 65 - k = (65 - (k + 1)) + 1 by omega, bfs_step hx]
      · rcases (mem_addNew _ _).mp hm with h | h
        · exact h3 p h
        · exact goals_in hp.o1 hp.o2 hin h
      · show k + 1 ≤ (addNew l (goals m1 m2 l[k])).length
        rw [hmore, List.length_append]
        omega
      · show 65 - (k + 1) < 65 - k
        omega
      · show _ = [_, _, some (oList rP ((addNew l (goals m1 m2 l[k])).take (k + 1)))]
        rw [hmore, List.take_append_of_le_length (by omega), List.take_add_one, hx]
        rfl
  · rintro ⟨l, k⟩ ⟨h1, h2, h3, h4⟩ hb
    dsimp only at h1 h2 h3 h4 hb ⊢
    have hk : k = l.length := by
      have := of_decide_eq_false hb
      omega
    have e : bfsP m1 m2 b = l := by rw [← h1]; exact bfs_end (by omega)
    subst hk
    refine go_frzL (i := 5) rfl rfl (go_ret hq ?_)
    show Ev _ _ _ _ _ (bfsP m1 m2 b)
    rw [e]
    refine ev_eq (ev_var rfl) ?_
    rw [List.take_length]
end
end B
namespace B
open PySem L2
section
variable {P : Program} {w : World} {A : Ad} {K : PySem.W.Frag} {mg : Str → Option Value} {base : Heap}
structure UseP (a : Mc × Mc × Pr) (F : List Pr) : Prop where
  nd : F.Nodup
  iff : ∀ p, p ∈ F ↔ p ∈ bfsP a.1 a.2.1 a.2.2 ∧ Rch a.1 a.2.1 p
abbrev sp_useful (C : Addr) : Sp := prmO (sg3 C) (fun a => ∃ L, Ok2 L a) (fun F => oDT encP rBool (tru F)) UseP
structure UseI (m1 m2 : Mc) (kn : List Pr) (F : List Pr) : Prop where
  nd : F.Nodup
  sub : ∀ p ∈ F, p ∈ kn ∧ Rch m1 m2 p
theorem UseI.le {L : Nat} {m1 m2 : Mc} {b : Pr} {F : List Pr} (o1 : OkM L m1) (o2 : OkM L m2) (hb : inM m1 m2 b) (h : UseI m1 m2 (bfsP m1 m2 b) F) : F.length ≤ 64 :=
  pairs_le o1 o2 h.nd fun p hp => bfsP_in o1 o2 hb p (h.sub p hp).1
theorem tru_put_new {F : List Pr} {p : Pr} (h : p ∉ F) : put (tru F) p true = tru (F ++ [p]) := by
  rw [put_new]
  · simp [tru]
  · have := look_tru F p
    simpa [h] using this
theorem tru_put_old {F : List Pr} {p : Pr} (h : p ∈ F) : put (tru F) p true = tru F := by
  unfold put
  rw [look_any, show (look (tru F) p).isSome = true by
    have := look_tru F p
    simp [h] at this
    exact this, if_pos rfl]
  unfold tru
  rw [List.map_map]
  refine List.map_congr_left fun q _ => ?_
  show (if q = p then (q, true) else (q, true)) = (q, true)
  split <;> rfl
theorem tru_put (F : List Pr) (p : Pr) : put (tru F) p true = tru (addNew F [p]) := by
  by_cases h : p ∈ F
  · rw [tru_put_old h]
    rw [addNew_one, if_pos h]
  · rw [tru_put_new h]
    rw [addNew_one, if_neg h]
theorem look_tru_some (l : List Pr) (p : Pr) : (look (tru l) p).isSome = decide (p ∈ l) := by
  have := look_tru l p
  rw [← Option.not_isSome] at this
  cases h : (look (tru l) p).isSome <;> rw [h] at this <;> simp_all
theorem UseI.add {m1 m2 : Mc} {kn F : List Pr} {p : Pr} (h : UseI m1 m2 kn F) (hp : p ∈ kn) (hr : Rch m1 m2 p) : UseI m1 m2 kn (addNew F [p]) := ⟨addNew_nodup _ _ h.nd, fun q hq => by
  rcases (mem_addNew _ _).mp hq with h' | h'
  · exact h.sub q h'
  · rw [List.mem_singleton.mp h']
    exact ⟨hp, hr⟩⟩
theorem tru_len (F : List Pr) : (tru F).length = F.length := by simp [tru]
theorem take_snoc {α : Type} {l : List α} {i : Nat} {x : α} (h : l[i]? = some x) : l.take (i + 1) = l.take i ++ [x] := by rw [List.take_add_one, h] <;> rfl
theorem mem_take_succ {α : Type} {l : List α} {i : Nat} {x y : α} (h : l[i]? = some x) : y ∈ l.take (i + 1) ↔ y ∈ l.take i ∨ y = x := by rw [take_snoc h, List.mem_append, List.mem_singleton]
theorem ok_useful (T : Txt A K mg) : FnOk P w K mg base CX0 3 A.f_useful A.d_useful ps_useful (sp_useful A.M) := by
  refine T.F_useful.ok sc_useful (fun vs H Q E h => prmO_len (fun _ => rfl) h) (fun cdv Ar outer s H vs Q E hr h => ⟨_, (pss_cons (ps_set (i := 3) sc_useful.nd rfl (by first | exact Or.inl rfl | exact Or.inr rfl) (pe_call (ok_come_to T) (hr.mono (by decide)) (by rfl) T.g_come_to T.F_come_to.kp T.b_come_to .nil pass0 (pa_cons (pv 0) (pa_cons (pv 1) (pa_cons (pv 2) pa_nil)))))
      (pss_cons (ps_set (i := 4) sc_useful.nd rfl (by first | exact Or.inl rfl | exact Or.inr rfl) pe_dnewT)
      (pss_cons (ps_for PassesOwn.never rfl (pi_listK (K := K) rfl (pv 3)) (pg_name (i := 5) sc_useful.nd rfl (by first | exact Or.inl rfl | exact Or.inr rfl)) (pss_one (ps_if (pt_val (pe_call (ok_is_unlike T) (hr.mono (by decide)) (by rfl) T.g_is_unlike T.F_is_unlike.kp T.b_is_unlike .nil pass0 (pa_cons (pv 0) (pa_cons (pv 1) (pa_cons (pv 5) pa_nil))))) (pss_one (ps_dput (hu_of hr) (pv 4) (pv 5) pe_bl rfl)) pss_nil)))
      (pss_cons (ps_set (i := 6) sc_useful.nd rfl (by first | exact Or.inl rfl | exact Or.inr rfl) (pe_un un_neg pe_int))
      (pss_cons (ps_while PassesOwn.never (pt_cmpR op_lt (pv 6) (pe_callB call_len_dT (by rfl) T.n_len PySem.boot_len (pa_cons (pv 4) pa_nil)) (nomark _)) (pss_cons (ps_set (i := 6) sc_useful.nd rfl (by first | exact Or.inl rfl | exact Or.inr rfl) (pe_callB call_len_dT (by rfl) T.n_len PySem.boot_len (pa_cons (pv 4) pa_nil)))
      (pss_one (ps_for PassesOwn.never rfl (pi_listK (K := K) rfl (pv 3)) (pg_name (i := 5) sc_useful.nd rfl (by first | exact Or.inl rfl | exact Or.inr rfl)) (pss_one (ps_if (pt_val (pe_callB (cr_anyK (K := K) rfl rfl) (by rfl) T.n_any (by decide +kernel) (pa_cons (pe_lc (own := [("goal", 7)]) (g := gName 7) (by rfl) sc_useful.nd (pi_listK (K := K) rfl (pe_call (ok_goals_of T) (hr.mono (by decide)) (by rfl) T.g_goals_of T.F_goals_of.kp T.b_goals_of .nil pass0 (pa_cons (pv 0) (pa_cons (pv 1) (pa_cons (pv 5) pa_nil))))) (blkOk_by (own := [("goal", 7)]) (N := nm_useful) (sc := defScope st_useful) (by decide +kernel)) (fun _ _ _ _ _ => (pg_name (i := 7) sc_useful.nd rfl (by first | exact Or.inl rfl | exact Or.inr rfl))) (fun _ _ _ _ _ => pts_nil) (fun _ _ _ _ _ => (pe_cmp (pc_din (hu_of hr) (pv 7) (pv 4))))) pa_nil))) (pss_one (ps_dput (hu_of hr) (pv 4) (pv 5) pe_bl rfl)) pss_nil))))))
      (pss_one (ps_ret (pv 4)))))))), go_startO h ?_⟩)
  rintro ⟨m1, m2, b⟩ H0 G0 ⟨L, hp⟩ hq
  have o1 : OkM L m1 := hp.o1
  have o2 : OkM L m2 := hp.o2
  have hb0 : inM m1 m2 b := hp.i
  have sp := bfsP_spec o1 o2 hb0
  have spin := bfsP_in o1 o2 hb0
  have args : ∀ {S : Sl} {M : Mo} {i : Nat} {p : Pr}, S[0]? = some (.is (rMach A.M) m1) → S[1]? = some (.is (rMach A.M) m2) → S[i]? = some (.is rP p) → EvA (none : RS) (tCons (tVar 0) (tCons (tVar 1) (tCons (tVar i) tNil))) S M (sg3 A.M (m1, m2, p)) := fun h1 h2 h3 => ea_cons (ev_var h1) (ea_cons (ev_var h2) (ea_cons (ev_var h3) ea_nil))
  refine q_asg (eg_ev (ev_call (m1, m2, b) (args rfl rfl rfl) ⟨L, hp⟩)) ?_
  refine q_asg (eg_own (eo_dT (R := rBool) (enc := encP))) ?_
  refine q_for (σt := List Pr) (fun F => [.is (rMach A.M) m1, .is (rMach A.M) m2, .is rP b, .is (rList rP) (bfsP m1 m2 b), .own 0, .no, .no, .no]) (fun F => [some (oDT encP rBool (tru F))])
    (fun i F => UseI m1 m2 (bfsP m1 m2 b) F ∧ ∀ p ∈ (bfsP m1 m2 b).take i, unl m1 m2 p = true → p ∈ F) [] (it_list (ev_var rfl)) (tg_name 5) ⟨⟨by simp, by simp⟩, by simp⟩ (.same (.same (.same (.same (.same (.same (.same (.same .nil)))))))) rfl ?_ ?_
  · rintro G1 bs i F p hpk ⟨hI, hF⟩
    dsimp only at hpk ⊢
    have hpm := List.mem_of_getElem? hpk
    have hle := hI.le o1 o2 hb0
    refine go_when (et_B (ev_call (m1, m2, p) (args rfl rfl rfl) trivial)) (fun hu => ?_) (fun hu => ?_)
    · refine go_dput keyP rfl rfl ev_bl (ev_var rfl) (by rw [tru_len]; omega) ?_
      refine go_turn (addNew F [p]) ⟨hI.add hpm (rch_unl hu), fun q hq hqu => ?_⟩ (.same (.same (.same (.same (.same (.no (.same (.same .nil)))))))) (by rw [tru_put]; rfl)
      rcases (mem_take_succ hpk).mp hq with h | h
      · exact (mem_addNew _ _).mpr (.inl (hF q h hqu))
      · exact (mem_addNew _ _).mpr (.inr (by rw [h]; exact List.mem_singleton.mpr rfl))
    · refine go_turn F ⟨hI, fun q hq hqu => ?_⟩ (.same (.same (.same (.same (.same (.no (.same (.same .nil)))))))) rfl
      rcases (mem_take_succ hpk).mp hq with h | h
      · exact hF q h hqu
      · rw [h] at hqu
        have : unl m1 m2 p = false := hu
        rw [this] at hqu
        cases hqu
  rintro F0 ⟨hI0, hF0⟩
  rw [List.take_length] at hF0
  refine q_asg (eg_ev (ev_neg ev_int)) ?_
  refine q_while (σt := List Pr × Int) (fun s => [.is (rMach A.M) m1, .is (rMach A.M) m2, .is rP b, .is (rList rP) (bfsP m1 m2 b), .own 0, .no, .is rInt s.2, .no]) (fun s => [some (oDT encP rBool (tru s.1))])
    (fun s => UseI m1 m2 (bfsP m1 m2 b) s.1 ∧ (∀ p ∈ bfsP m1 m2 b, unl m1 m2 p = true → p ∈ s.1) ∧ s.2 ≤ s.1.length ∧ (s.2 = s.1.length → ∀ p ∈ bfsP m1 m2 b, ∀ g ∈ goals m1 m2 p, g ∈ s.1 → p ∈ s.1))
    (fun s => 2 * (64 - s.1.length) + (if s.2 < s.1.length then 1 else 0)) (fun s => decide (s.2 < (s.1.length : Int))) (F0, -1) ⟨hI0, hF0, by show (-1 : Int) ≤ F0.length; omega, fun e => by
      have : (-1 : Int) = F0.length := e
      omega⟩ (.same (.same (.same (.same (.same (.same (.same (.same .nil)))))))) rfl ?_ ?_ ?_
  · rintro ⟨F, bf⟩ ⟨h1, h2, h3, h4⟩
    refine et_eq (et_test (ev_lt (ev_var rfl) (ev_toI (ev_lenD rfl rfl)))) ?_
    rw [tru_len]
  · rintro ⟨F, bf⟩ ⟨h1, h2, h3, h4⟩ hb
    dsimp only at h1 h2 h3 h4 hb ⊢
    have hlt : bf < F.length := of_decide_eq_true hb
    have hle := h1.le o1 o2 hb0
    refine q_asg (eg_ev (ev_toI (ev_lenD rfl rfl))) ?_
    refine go_for (σt := List Pr) (fun F' => [.is (rMach A.M) m1, .is (rMach A.M) m2, .is rP b, .is (rList rP) (bfsP m1 m2 b), .own 0, .no, .is rInt ((tru F).length : Int), .no]) (fun F' => [some (oDT encP rBool (tru F'))])
      (fun i F' => UseI m1 m2 (bfsP m1 m2 b) F' ∧ (∃ more, F' = F ++ more) ∧ (F'.length = F.length → ∀ p ∈ (bfsP m1 m2 b).take i, ∀ g ∈ goals m1 m2 p, g ∈ F → p ∈ F)) F (it_list (ev_var rfl)) (tg_name 5)
      ⟨h1, ⟨[], by rw [List.append_nil]⟩, fun _ p hp => by simp at hp⟩ (.same (.same (.same (.same (.same (.same (.same (.same .nil)))))))) rfl ?_ ?_
    · rintro G1 bs i F' p hpk ⟨hI, ⟨more, hmore⟩, hC⟩
      dsimp only at hpk ⊢
      have hpm := List.mem_of_getElem? hpk
      have hle' := hI.le o1 o2 hb0
      refine go_when (b := (goals m1 m2 p).any fun g => decide (g ∈ F')) ?_ (fun hu => ?_) (fun hu => ?_)
      · refine et_eq (et_B (ev_any (ev_lc0 (T := rBool) (fun g => decide (g ∈ F')) (it_list (ev_call (m1, m2, p) (args rfl rfl rfl) ⟨L, o1, o2, spin p hpm, hp.l3⟩)) (tg_name 7) (by simp) ?_ fun g hg m => ev_eq (ev_din keyP rfl rfl isDT (ev_var rfl)) (look_tru_some F' g)))) ?_
        · have := o1.row_len (spin p hpm).1
          have := hp.l3
          show ((row m1 p.1).zip (row m2 p.2)).length ≤ _
          rw [List.length_zip]
          omega
        · rw [List.any_map]
          rfl
      · obtain ⟨g, hg, hgF⟩ := List.any_eq_true.mp hu
        have hgF : g ∈ F' := of_decide_eq_true hgF
        refine go_dput keyP rfl rfl ev_bl (ev_var rfl) (by rw [tru_len]; omega) ?_
        refine go_turn (addNew F' [p]) ⟨hI.add hpm (rch_goal hg (hI.sub g hgF).2), ?_, ?_⟩ (.same (.same (.same (.same (.same (.no (.same (.same .nil)))))))) (by rw [tru_put]; rfl)
        · obtain ⟨more', h'⟩ := addNew_pre [p] F'
          exact ⟨more ++ more', by rw [h', hmore, List.append_assoc]⟩
        · intro hlen q hq g' hg' hg'F
          have hF' : F' = F := by
            obtain ⟨more', h'⟩ := addNew_pre [p] F'
            rw [h', hmore, List.length_append, List.length_append] at hlen
            have : more = [] := List.eq_nil_of_length_eq_zero (by omega)
            rw [hmore, this, List.append_nil]
          rcases (mem_take_succ hpk).mp hq with h | h
          · exact hC (by rw [hF']) q h g' hg' hg'F
          · subst h
            by_cases hqF : q ∈ F'
            · rw [← hF']
              exact hqF
            · exfalso
              have e : addNew F' [q] = F' ++ [q] := by rw [addNew_one, if_neg hqF]
              rw [e, hF', List.length_append, List.length_singleton] at hlen
              omega
      · refine go_turn F' ⟨hI, ⟨more, hmore⟩, ?_⟩ (.same (.same (.same (.same (.same (.no (.same (.same .nil)))))))) rfl
        intro hlen q hq g' hg' hg'F
        rcases (mem_take_succ hpk).mp hq with h | h
        · exact hC hlen q h g' hg' hg'F
        · subst h
          exfalso
          have : (goals m1 m2 q).any (fun g => decide (g ∈ F')) = true := List.any_eq_true.mpr ⟨g', hg', decide_eq_true (by rw [hmore]; exact List.mem_append_left _ hg'F)⟩
          rw [this] at hu
          cases hu
    · rintro F' ⟨hI, ⟨more, hmore⟩, hC⟩
      dsimp only
      rw [List.take_length] at hC
      have hle' := hI.le o1 o2 hb0
      have hll : F.length ≤ F'.length := by rw [hmore, List.length_append]; omega
      refine go_turn (F', ((tru F).length : Int)) ⟨⟨hI, fun p hp hu => by rw [hmore]; exact List.mem_append_left _ (h2 p hp hu), ?_, ?_⟩, ?_⟩ (.same (.same (.same (.same (.same (.same (.same (.same .nil)))))))) rfl
      · show ((tru F).length : Int) ≤ F'.length
        rw [tru_len]
        omega
      · intro e p hp' g hg hgF
        have e' : ((tru F).length : Int) = F'.length := e
        rw [tru_len] at e'
        have hF' : F' = F := by
          have hl2 := congrArg List.length hmore
          rw [List.length_append] at hl2
          have : more = [] := List.eq_nil_of_length_eq_zero (by omega)
          rw [hmore, this, List.append_nil]
        have hgF' : g ∈ F := by rw [← hF']; exact hgF
        show p ∈ F'
        rw [hF']
        exact hC (by rw [hF']) p hp' g hg hgF'
      · show 2 * (64 - F'.length) + (if ((tru F).length : Int) < F'.length then 1 else 0) < 2 * (64 - F.length) + (if bf < F.length then 1 else 0)
        rw [if_pos hlt, tru_len]
        split <;> omega
  · rintro ⟨F, bf⟩ ⟨h1, h2, h3, h4⟩ hb
    dsimp only at h1 h2 h3 h4 hb ⊢
    have hge : bf = F.length := by
      have := of_decide_eq_false hb
      omega
    have main : ∀ (k : Nat) (p : Pr), p ∈ bfsP m1 m2 b → cnt m1 m2 k p ≠ 0 → p ∈ F := by
      intro k
      induction k with
      | zero =>
        intro p hk hk0
        refine h2 p hk (Classical.byContradiction fun hn => hk0 ?_)
        show (if unl m1 m2 p = true then 1 else 0) = 0
        rw [if_neg hn]
      | succ k ih =>
        intro p hk hk0
        obtain ⟨g, hg, hg0⟩ := cnt_pos.mp hk0
        exact h4 hge p hk g hg (ih g (sp.cl p hk g hg) hg0)
    exact go_retO (x := F) hq ⟨h1.nd, fun p => ⟨h1.sub p, fun ⟨hk, k, hk0⟩ => main k p hk hk0⟩⟩ rfl rfl
abbrev rC : MR (Option (Nat × Int)) := rOpt (rPr rNat rInt)
def CntP (m1 m2 : Mc) (p : Pr) (r : Option (Nat × Int)) : Prop := r.map (·.1) = tot m1 m2 p
abbrev sp_counted (C : Addr) : Sp := prm (sg3 C) (fun a => ∃ L, Ok2 L a) (fun a => rSome rC (CntP a.1 a.2.1 a.2.2)) (fun _ => ())
structure CouI (m1 m2 : Mc) (F : List Pr) (kv : List (Pr × (Nat × Int))) : Prop where
  nd : (kv.map (·.1)).Nodup
  sub : ∀ e ∈ kv, e.1 ∈ F ∧ tot m1 m2 e.1 = some e.2.1
theorem CouI.le {L : Nat} {m1 m2 : Mc} {b : Pr} {F : List Pr} {kv : List (Pr × (Nat × Int))} (o1 : OkM L m1) (o2 : OkM L m2) (hb : inM m1 m2 b) (u : UseP (m1, m2, b) F) (h : CouI m1 m2 F kv) : kv.length ≤ F.length := by
  have : (kv.map (·.1)).length ≤ F.length := nodup_le h.nd (fun p hp => by
    obtain ⟨e, he, rfl⟩ := List.mem_map.mp hp
    exact (h.sub e he).1) (Nat.le_refl _)
  rw [List.length_map] at this
  exact this
theorem UseP.le {L : Nat} {m1 m2 : Mc} {b : Pr} {F : List Pr} (o1 : OkM L m1) (o2 : OkM L m2) (hb : inM m1 m2 b) (u : UseP (m1, m2, b) F) : F.length ≤ 64 :=
  pairs_le o1 o2 u.nd fun p hp => bfsP_in o1 o2 hb p ((u.iff p).mp hp).1
theorem tru_keys (F : List Pr) : (tru F).map (·.1) = F := by
  unfold tru
  rw [List.map_map]
  exact List.map_id F
def maxI (x : Int) (l : List Int) : Int := l.foldl max x
theorem maxI_mem : ∀ (l : List Int) (x : Int), maxI x l ∈ x :: l
  | [], x => List.mem_singleton.mpr rfl
  | y :: l, x => by
    have h := maxI_mem l (max x y)
    show maxI (max x y) l ∈ _
    rcases List.mem_cons.mp h with h | h
    · rw [h]
      by_cases h' : x ≤ y
      · rw [Int.max_eq_right h']
        exact List.mem_cons_of_mem _ List.mem_cons_self
      · rw [Int.max_eq_left (by omega)]
        exact List.mem_cons_self
    · exact List.mem_cons_of_mem _ (List.mem_cons_of_mem _ h)
theorem maxI_ge : ∀ (l : List Int) (x : Int), ∀ z ∈ x :: l, z ≤ maxI x l
  | [], x, z, h => by
    rw [List.mem_singleton.mp h]
    exact Int.le_refl _
  | y :: l, x, z, h => by
    show z ≤ maxI (max x y) l
    have g := maxI_ge l (max x y)
    have g0 := g (max x y) List.mem_cons_self
    rcases List.mem_cons.mp h with rfl | h
    · omega
    · rcases List.mem_cons.mp h with rfl | h
      · omega
      · exact g z (List.mem_cons_of_mem _ h)
theorem sum_filter {α : Type} (f : α → Nat) (p : α → Bool) : ∀ l : List α, (∀ x ∈ l, p x = false → f x = 0) → ((l.filter p).map f).sum = (l.map f).sum
  | [], _ => rfl
  | x :: l, h => by
    have ih := sum_filter f p l fun y hy => h y (List.mem_cons_of_mem _ hy)
    rw [List.map_cons, List.sum_cons, List.filter_cons]
    by_cases hp : p x = true
    · rw [if_pos hp, List.map_cons, List.sum_cons, ih]
    · rw [if_neg hp, ih, h x List.mem_cons_self (by simpa using hp)]
      omega
theorem ok_counted (T : Txt A K mg) : FnOk P w K mg base CX0 4 A.f_counted A.d_counted ps_counted (sp_counted A.M) := by
  refine T.F_counted.ok sc_counted (fun vs H Q E h => prm_len (fun _ => rfl) h) (fun cdv Ar outer s H vs Q E hr h => ⟨_, (pss_cons (ps_asg (pe_tup (pa_cons (pe_call (ok_useful T) (hr.mono (by decide)) (by rfl) T.g_useful T.F_useful.kp T.b_useful .nil pass0 (pa_cons (pv 0) (pa_cons (pv 1) (pa_cons (pv 2) pa_nil)))) (pa_cons pe_dnewT pa_nil))) (pg_tupK (K := K) rfl (by rfl) (pgs_cons (pg_name (i := 3) sc_counted.nd rfl (by first | exact Or.inl rfl | exact Or.inr rfl)) (pgs_cons (pg_name (i := 4) sc_counted.nd rfl (by first | exact Or.inl rfl | exact Or.inr rfl)) pgs_nil))))
      (pss_cons (ps_set (i := 5) sc_counted.nd rfl (by first | exact Or.inl rfl | exact Or.inr rfl) pe_bl)
      (pss_cons (ps_while PassesOwn.never (pt_val (pv 5)) (pss_cons (ps_set (i := 5) sc_counted.nd rfl (by first | exact Or.inl rfl | exact Or.inr rfl) pe_bl)
      (pss_one (ps_lock (ps_for PassesOwn.never rfl (pi_keys (pv 3)) (pg_name (i := 6) sc_counted.nd rfl (by first | exact Or.inl rfl | exact Or.inr rfl)) (pss_cons (ps_setLc (i := 7) (own := [("goal", 10)]) (g := gName 10) (by rfl) sc_counted.nd rfl rfl (sw_true rfl rfl rfl (by decide +kernel)) (pi_listK (K := K) rfl (pe_call (ok_goals_of T) (hr.mono (by decide)) (by rfl) T.g_goals_of T.F_goals_of.kp T.b_goals_of .nil pass0 (pa_cons (pv 0) (pa_cons (pv 1) (pa_cons (pv 6) pa_nil))))) (blkOk_by (own := [("goal", 10)]) (N := nm_counted) (sc := defScope st_counted) (by decide +kernel)) (fun _ _ _ _ _ => (pg_name (i := 10) sc_counted.nd rfl (by first | exact Or.inl rfl | exact Or.inr rfl))) (fun _ _ _ _ _ => (pts_one (pt_cmp (pc_din (hu_of hr) (pv 10) (pv 3))))) (fun _ _ _ _ _ => (pv 10)))
      (pss_one (ps_if (PW.pt (pw_and (pt_cmp (pc_dnotin (hu_of hr) (pv 6) (pv 4))) (pw_and1 (pt_val (pe_callB (cr_allK (K := K) rfl rfl) (by rfl) T.n_all (by decide +kernel) (pa_cons (pe_lc (own := [("goal", 10)]) (g := gName 10) (by rfl) sc_counted.nd (pi_listK (K := K) rfl (pv 7)) (blkOk_by (own := [("goal", 10)]) (N := nm_counted) (sc := defScope st_counted) (by decide +kernel)) (fun _ _ _ _ _ => (pg_name (i := 10) sc_counted.nd rfl (by first | exact Or.inl rfl | exact Or.inr rfl))) (fun _ _ _ _ _ => pts_nil) (fun _ _ _ _ _ => (pe_cmp (pc_din (hu_of hr) (pv 10) (pv 4))))) pa_nil)))))) (pss_cons (ps_set (i := 8) sc_counted.nd rfl (by first | exact Or.inl rfl | exact Or.inr rfl) (pe_ifExp (pt_val (pe_call (ok_is_unlike T) (hr.mono (by decide)) (by rfl) T.g_is_unlike T.F_is_unlike.kp T.b_is_unlike .nil pass0 (pa_cons (pv 0) (pa_cons (pv 1) (pa_cons (pv 6) pa_nil))))) pe_int pe_int))
      (pss_cons (ps_set (i := 9) sc_counted.nd rfl (by first | exact Or.inl rfl | exact Or.inr rfl) (pe_op op_add (pv 8) (pe_callB (cr_sumK (K := K) rfl rfl) (by rfl) T.n_sum (by decide +kernel) (pa_cons (pe_lc (own := [("goal", 10)]) (g := gName 10) (by rfl) sc_counted.nd (pi_listK (K := K) rfl (pv 7)) (blkOk_by (own := [("goal", 10)]) (N := nm_counted) (sc := defScope st_counted) (by decide +kernel)) (fun _ _ _ _ _ => (pg_name (i := 10) sc_counted.nd rfl (by first | exact Or.inl rfl | exact Or.inr rfl))) (fun _ _ _ _ _ => pts_nil) (fun _ _ _ _ _ => (pe_ix (ix_tupK (K := K) rfl) (pe_dget (hu_of hr) (pv 4) (pv 10) (fun _ _ => rfl)) pe_int (fun _ _ => rfl)))) pa_nil))))
      (pss_cons (ps_dput (hu_of hr) (pv 4) (pv 6) (pe_tup (pa_cons (pv 9) (pa_cons (pe_callB (cr_maxK (K := K) rfl rfl) (by rfl) T.n_max (by decide +kernel) (pa_cons (pe_op op_cat (pe_lst (pa_cons (pe_op op_sub (pv 8) pe_int) pa_nil)) (pe_lc (own := [("goal", 10)]) (g := gName 10) (by rfl) sc_counted.nd (pi_listK (K := K) rfl (pv 7)) (blkOk_by (own := [("goal", 10)]) (N := nm_counted) (sc := defScope st_counted) (by decide +kernel)) (fun _ _ _ _ _ => (pg_name (i := 10) sc_counted.nd rfl (by first | exact Or.inl rfl | exact Or.inr rfl))) (fun _ _ _ _ _ => pts_nil) (fun _ _ _ _ _ => (pe_op op_add (pe_ix (ix_tupK (K := K) rfl) (pe_dget (hu_of hr) (pv 4) (pv 10) (fun _ _ => rfl)) pe_int (fun _ _ => rfl)) pe_int)))) pa_nil)) pa_nil))) rfl)
      (pss_one (ps_set (i := 5) sc_counted.nd rfl (by first | exact Or.inl rfl | exact Or.inr rfl) pe_bl))))) pss_nil))))))))
      (pss_cons (ps_if (pt_cmpR op_lt (pe_callB call_len_dT (by rfl) T.n_len PySem.boot_len (pa_cons (pv 4) pa_nil)) (pe_callB call_len_dT (by rfl) T.n_len PySem.boot_len (pa_cons (pv 3) pa_nil)) (nomark _)) (pss_one (ps_ret pe_non)) pss_nil)
      (pss_one (ps_ret (pe_dget2 (hu_of hr) (pv 4) (pv 2) (pe_tup (pa_cons pe_int (pa_cons (pe_un un_neg pe_int) pa_nil))) ⟨rfl, rfl, rfl, rfl⟩))))))), go_start h ?_⟩)
  rintro ⟨m1, m2, b⟩ H0 G0 ⟨L, hp⟩ hret
  have o1 : OkM L m1 := hp.o1
  have o2 : OkM L m2 := hp.o2
  have hb0 : inM m1 m2 b := hp.i
  have sp := bfsP_spec o1 o2 hb0
  have spin := bfsP_in o1 o2 hb0
  have args : ∀ {S : Sl} {M : Mo} {i : Nat} {p : Pr}, S[0]? = some (.is (rMach A.M) m1) → S[1]? = some (.is (rMach A.M) m2) → S[i]? = some (.is rP p) → EvA (none : RS) (tCons (tVar 0) (tCons (tVar 1) (tCons (tVar i) tNil))) S M (sg3 A.M (m1, m2, p)) := fun h1 h2 h3 => ea_cons (ev_var h1) (ea_cons (ev_var h2) (ea_cons (ev_var h3) ea_nil))
  refine q_par2X (O := fun F => oDT encP rBool (tru F)) (Post := UseP (m1, m2, b)) (M2 := fun F => [some (oDT encP rBool (tru F)), some (oDT encP (rPr rNat rInt) [])]) (s2 := fun _ => .own 1) ?_ ?_ fun F u => ?_
  · exact ex_call (m1, m2, b) (args rfl rfl rfl) ⟨L, hp⟩
  · exact fun F u => eg_own (eo_dT (R := rPr rNat rInt) (enc := encP))
  have hF64 := UseP.le o1 o2 hb0 u
  refine q_asg (eg_ev ev_bl) ?_
  refine q_while (σt := List (Pr × (Nat × Int)) × Bool) (fun s => [.is (rMach A.M) m1, .is (rMach A.M) m2, .is rP b, .own 0, .own 1, .is rBool s.2, .no, .no, .no, .no, .no]) (fun s => [some (oDT encP rBool (tru F)), some (oDT encP (rPr rNat rInt) s.1)])
    (fun s => CouI m1 m2 F s.1 ∧ (s.2 = false → ∀ p ∈ F, p ∈ s.1.map (·.1) ∨ ∃ g ∈ goals m1 m2 p, g ∈ F ∧ g ∉ s.1.map (·.1))) (fun s => 2 * (64 - s.1.length) + (if s.2 then 1 else 0)) (fun s => s.2) ([], true) ⟨⟨by simp, by simp⟩, fun e => by cases e⟩
    (.same (.same (.same (.same (.same (.same (.same (.same (.same (.same (.same .nil))))))))))) rfl ?_ ?_ ?_
  · rintro ⟨kv, ch⟩ _
    exact et_B (ev_var rfl)
  · rintro ⟨kv, ch⟩ ⟨h1, h2⟩ hb
    dsimp only at h1 h2 hb ⊢
    have hle := h1.le o1 o2 hb0 u
    refine q_asg (eg_ev ev_bl) ?_
    refine go_forD (σt := List (Pr × (Nat × Int)) × Bool) (fun s => [.is (rMach A.M) m1, .is (rMach A.M) m2, .is rP b, .own 0, .own 1, .is rBool s.2, .no, .no, .no, .no, .no]) (fun s => [some (oDT encP rBool (tru F)), some (oDT encP (rPr rNat rInt) s.1)])
      (fun i s => CouI m1 m2 F s.1 ∧ (∃ more, s.1 = kv ++ more) ∧ (s.2 = true → kv.length < s.1.length) ∧ (s.2 = false → s.1 = kv ∧ ∀ p ∈ F.take i, p ∈ kv.map (·.1) ∨ ∃ g ∈ goals m1 m2 p, g ∈ F ∧ g ∉ kv.map (·.1))) (kv, false) keyP rfl rfl (fun _ => rfl) (fun _ => rfl) (tg_name 6)
      ⟨h1, ⟨[], by rw [List.append_nil]⟩, fun e => (by cases e), fun _ => ⟨rfl, fun p hp => by simp at hp⟩⟩ (.same (.same (.same (.same (.same (.same (.same (.same (.same (.same (.same .nil))))))))))) rfl ?_ ?_
    · rintro O hO D' G1 bs i ⟨kv', ch'⟩ p hpk ⟨hI, ⟨more, hmore⟩, hC1, hC2⟩ hD'
      rw [tru_keys] at hpk
      dsimp only at hmore hC1 hC2 hI hpk ⊢
      have hpF := List.mem_of_getElem? hpk
      have hpb := ((u.iff p).mp hpF).1
      have hle' := hI.le o1 o2 hb0 u
      have hgl : (goals m1 m2 p).length ≤ 1000000 := by
        have := o1.row_len (spin p hpb).1
        have := hp.l3
        show ((row m1 p.1).zip (row m2 p.2)).length ≤ _
        rw [List.length_zip]
        omega
      refine q_asg (eg_ev (ev_lc (T := rP) (fun g => decide (g ∈ F)) id (it_list (ev_call (m1, m2, p) (args rfl rfl rfl) ⟨L, o1, o2, spin p hpb, hp.l3⟩)) (tg_name 10) (by simp) hgl (fun g hg m => et_eq (et_B (ev_din keyP rfl rfl hO (ev_var rfl))) (look_tru_some F g)) fun g hg _ m => ev_var rfl)) ?_
      rw [List.map_id]
      have gs : ∀ g ∈ (goals m1 m2 p).filter (fun g => decide (g ∈ F)), g ∈ goals m1 m2 p ∧ g ∈ F := fun g hg => ⟨(List.mem_filter.mp hg).1, of_decide_eq_true (List.mem_filter.mp hg).2⟩
      generalize hgs : (goals m1 m2 p).filter (fun g => decide (g ∈ F)) = gl at gs ⊢
      have hgl2 : gl.length ≤ 1000000 := by
        rw [← hgs]
        exact Nat.le_trans (List.length_filter_le _ _) hgl
      have lk : ∀ q : Pr, (look kv' q).isSome = decide (q ∈ kv'.map (·.1)) := fun q => by
        have := look_isSome (kvs := kv') (k := q)
        cases hl : (look kv' q).isSome with
        | true => rw [decide_eq_true (this.mp hl)]
        | false =>
          rw [decide_eq_false]
          intro hm
          rw [this.mpr hm] at hl
          cases hl
      refine go_when (b := !decide (p ∈ kv'.map (·.1)) && gl.all fun g => decide (g ∈ kv'.map (·.1))) ?_ (fun hu => ?_) (fun hu => ?_)
      · refine et_and (et_eq (et_B (ev_dnin keyP rfl rfl isDT (ev_var rfl))) (by rw [← Option.not_isSome, lk])) fun _ => ?_
        refine et_eq (et_B (ev_all (ev_lc0 (T := rBool) (fun g => decide (g ∈ kv'.map (·.1))) (it_list (ev_var rfl)) (tg_name 10) (by simp) hgl2 fun g hg m => ev_eq (ev_din keyP rfl rfl isDT (ev_var rfl)) (lk g)))) ?_
        rw [List.all_map]
        rfl
      · rw [Bool.and_eq_true] at hu
        have hnp : p ∉ kv'.map (·.1) := by simpa using hu.1
        have hall : ∀ g ∈ gl, ∃ e, look kv' g = some e := fun g hg => by
          have := of_decide_eq_true (List.all_eq_true.mp hu.2 g hg)
          exact Option.isSome_iff_exists.mp (look_isSome.mpr this)
        have hsome : ∀ g ∈ gl, look kv' g = some ((look kv' g).getD (0, 0)) := fun g hg => by
          obtain ⟨e, he⟩ := hall g hg
          rw [he]
          rfl
        refine q_asg (eg_ev (ev_ifx (x := (1 : Nat)) (x' := 0) (et_B (ev_call (m1, m2, p) (args rfl rfl rfl) trivial)) (fun _ => ev_nat1) fun _ => ev_nat0)) ?_
        refine q_asg (eg_ev (ev_addN (ev_var rfl) (ev_sumN (ev_lc0 (T := rNat) (fun g => ((look kv' g).getD (0, 0)).1) (it_list (ev_var rfl)) (tg_name 10) (by simp) hgl2 fun g hg m => ev_fst (ev_dget keyP rfl rfl isDT (ev_var rfl) (hsome g hg)))))) ?_
        generalize hown : (if unl m1 m2 p = true then 1 else 0) = own
        refine q_dput keyP rfl rfl (ev_pr (ev_var rfl) (ev_maxI (m := maxI ((own : Int) - 1) (gl.map fun g => ((look kv' g).getD (0, 0)).2 + 1)) (ev_cat (ev_lst (xs := [(own : Int) - 1]) (ea_cons (ev_sub (ev_toI (ev_var rfl)) ev_int) ea_nil) (by simp)) (ev_lc0 (T := rInt) (fun g => ((look kv' g).getD (0, 0)).2 + 1) (it_list (ev_var rfl)) (tg_name 10) (by simp) hgl2 fun g hg m => ev_add (ev_snd (ev_dget keyP rfl rfl isDT (ev_var rfl) (hsome g hg))) ev_int) (by
          rw [List.length_map, List.length_singleton]
          have : gl.length ≤ 1000 := by
            rw [← hgs]
            refine Nat.le_trans (List.length_filter_le _ _) ?_
            have := o1.row_len (spin p hpb).1
            have := hp.l3
            show ((row m1 p.1).zip (row m2 p.2)).length ≤ _
            rw [List.length_zip]
            omega
          omega)) (maxI_mem _ _) (maxI_ge _ _))) (ev_var rfl) (by omega) ?_
        refine go_asg (eg_ev ev_bl) ?_
        have hnew : put kv' p (own + (gl.map fun g => ((look kv' g).getD (0, 0)).1).sum, maxI ((own : Int) - 1) (gl.map fun g => ((look kv' g).getD (0, 0)).2 + 1)) = kv' ++ [(p, own + (gl.map fun g => ((look kv' g).getD (0, 0)).1).sum, maxI ((own : Int) - 1) (gl.map fun g => ((look kv' g).getD (0, 0)).2 + 1))] := put_new _ (by
          have := lk p
          rw [decide_eq_false hnp] at this
          simpa using this)
        rw [hnew]
        have htot : tot m1 m2 p = some (own + (gl.map fun g => ((look kv' g).getD (0, 0)).1).sum) := by
          have hg0 : ∀ g ∈ goals m1 m2 p, g ∉ F → tot m1 m2 g = some 0 := fun g hg hgF => tot_zero fun hr' => hgF ((u.iff g).mpr ⟨sp.cl p hpb g hg, hr'⟩)
          have hgt : ∀ g ∈ gl, tot m1 m2 g = some ((look kv' g).getD (0, 0)).1 := fun g hg => (hI.sub _ (look_mem (hsome g hg))).2
          rw [tot_step fun g hg => by
            by_cases hgF : g ∈ F
            · rw [hgt g (by rw [← hgs]; exact List.mem_filter.mpr ⟨hg, decide_eq_true hgF⟩)]
              rfl
            · rw [hg0 g hg hgF]
              rfl, hown]
          congr 1
          congr 1
          rw [← sum_filter (fun g => (tot m1 m2 g).getD 0) (fun g => decide (g ∈ F)) (goals m1 m2 p) fun g hg hgF => by rw [hg0 g hg (of_decide_eq_false hgF)]; rfl, hgs]
          congr 1
          exact List.map_congr_left fun g hg => by rw [hgt g hg]; rfl
        refine go_turnE hD' (kv' ++ [(p, _, _)], true) ⟨⟨?_, ?_⟩, ⟨more ++ [(p, _, _)], by rw [hmore, List.append_assoc]⟩, ?_, fun e => (by cases e)⟩ (.same (.same (.same (.same (.same (.same (.no (.no (.no (.no (.same .nil))))))))))) rfl
        · rw [List.map_append, List.nodup_append]
          refine ⟨hI.nd, by simp, fun a ha c hc => ?_⟩
          rw [List.map_singleton, List.mem_singleton] at hc
          rw [hc]
          exact fun e => hnp ((show a = p from e) ▸ ha)
        · intro e he
          rcases List.mem_append.mp he with h | h
          · exact hI.sub e h
          · rw [List.mem_singleton.mp h]
            exact ⟨hpF, htot⟩
        · intro _
          show kv.length < (kv' ++ [_]).length
          rw [hmore, List.length_append, List.length_append, List.length_singleton]
          omega
      · refine go_turnE hD' (kv', ch') ⟨hI, ⟨more, hmore⟩, hC1, fun e => ?_⟩ (.same (.same (.same (.same (.same (.same (.no (.no (.same (.same (.same .nil))))))))))) rfl
        obtain ⟨hkv, hall⟩ := hC2 e
        refine ⟨hkv, fun q hq => ?_⟩
        rcases (mem_take_succ hpk).mp hq with h | h
        · exact hall q h
        · subst h
          rw [Bool.and_eq_false_iff] at hu
          rw [← hkv]
          rcases hu with hu | hu
          · exact .inl (by simpa using hu)
          · obtain ⟨g, hg, hgn⟩ := List.all_eq_false.mp hu
            obtain ⟨hg1, hg2⟩ := gs g hg
            exact .inr ⟨g, hg1, hg2, by simpa using hgn⟩
    · rintro ⟨kv', ch'⟩ ⟨hI, ⟨more, hmore⟩, hC1, hC2⟩
      dsimp only at hI hmore hC1 hC2 ⊢
      have hle' := hI.le o1 o2 hb0 u
      rw [tru_len, List.take_length] at hC2
      refine go_turn (kv', ch') ⟨⟨hI, fun e => ?_⟩, ?_⟩ (.same (.same (.same (.same (.same (.same (.same (.same (.same (.same (.same .nil))))))))))) rfl
      · obtain ⟨hkv, hall⟩ := hC2 e
        rw [hkv]
        exact hall
      · show 2 * (64 - kv'.length) + (if ch' = true then 1 else 0) < 2 * (64 - kv.length) + (if ch = true then 1 else 0)
        have hch : ch = true := hb
        rw [if_pos hch]
        have hlen : kv.length ≤ kv'.length := by rw [hmore, List.length_append]; omega
        cases ch' with
        | true =>
          have := hC1 rfl
          rw [if_pos rfl]
          omega
        | false =>
          rw [if_neg Bool.false_ne_true]
          omega
  · rintro ⟨kv, ch⟩ ⟨h1, h2⟩ hb
    dsimp only at h1 h2 hb ⊢
    have hall := h2 hb
    have hle := h1.le o1 o2 hb0 u
    refine q_when (et_test (ev_ltN (ev_lenD rfl rfl) (ev_lenD rfl rfl))) (fun hu => ?_) (fun hu => ?_)
    · have hlt : kv.length < F.length := by
        have := of_decide_eq_true hu
        rw [tru_len] at this
        exact this
      have step : ∀ q ∈ F, q ∉ kv.map (·.1) → ∃ g ∈ goals m1 m2 q, g ∈ F ∧ g ∉ kv.map (·.1) := fun q hq hqn => (hall q hq).elim (fun h => absurd h hqn) id
      have long : ∀ (N : Nat) (q : Pr), q ∈ F → q ∉ kv.map (·.1) → ∃ k, N ≤ k ∧ cnt m1 m2 k q ≠ 0 := by
        intro N
        induction N with
        | zero =>
          intro q hq _
          obtain ⟨k, hk⟩ := ((u.iff q).mp hq).2
          exact ⟨k, Nat.zero_le _, hk⟩
        | succ N ih =>
          intro q hq hqn
          obtain ⟨g, hg, hgF, hgn⟩ := step q hq hqn
          obtain ⟨k, hk, hk0⟩ := ih g hgF hgn
          exact ⟨k + 1, by omega, cnt_pos.mpr ⟨g, hg, hk0⟩⟩
      obtain ⟨q, hq, hqn⟩ : ∃ q ∈ F, q ∉ kv.map (·.1) := Classical.byContradiction fun hno => by
        have hsub : ∀ q ∈ F, q ∈ kv.map (·.1) := fun q hq => Classical.byContradiction fun hqn => hno ⟨q, hq, hqn⟩
        have := nodup_le u.nd hsub (Nat.le_refl _)
        rw [List.length_map] at this
        omega
      have hnone : tot m1 m2 b = none := by
        refine fin_none.mpr fun hd => ?_
        have hdq : Dies fun k => cnt m1 m2 k q := by
          refine sp.ind (fun p => Dies fun k => cnt m1 m2 k p) (fun x hx => ?_) (fun x hx g hg => ?_) q ((u.iff q).mp hq).1
          · rw [List.mem_singleton.mp hx]
            exact hd
          · exact fin_isSome.mp (tot_goal (fin_isSome.mpr hx) hg)
        obtain ⟨N, hN⟩ := hdq
        obtain ⟨k, hk, hk0⟩ := long N q hq hqn
        exact hk0 (hN k hk)
      refine go_ret hret (ev_rel (R' := rSome rC (CntP m1 m2 b)) (y := ()) ev_non fun G v r => ⟨none, ?_, r⟩)
      show none = tot m1 m2 b
      rw [hnone]
    · have hge : F.length ≤ kv.length := by
        have := of_decide_eq_false hu
        rw [tru_len] at this
        omega
      have hsub : ∀ q ∈ F, q ∈ kv.map (·.1) := fun q hq => Classical.byContradiction fun hqn => by
        have h1' : (q :: kv.map (·.1)).Nodup := List.nodup_cons.mpr ⟨hqn, h1.nd⟩
        have := nodup_le (n := F.length) h1' (fun p hp => by
          rcases List.mem_cons.mp hp with rfl | hp
          · exact hq
          · obtain ⟨e, he, rfl⟩ := List.mem_map.mp hp
            exact (h1.sub e he).1) (Nat.le_refl _)
        rw [List.length_cons, List.length_map] at this
        omega
      refine go_ret hret (ev_rel (R' := rSome rC (CntP m1 m2 b)) (y := ()) (ev_dget2 keyP rfl rfl isDT (ev_var rfl) (ev_pr ev_nat0 (ev_neg ev_int))) fun G v r => ⟨some ((look kv b).getD (0, -1)), ?_, ?_, r⟩)
      · show some ((look kv b).getD (0, -1)).1 = tot m1 m2 b
        cases hl : look kv b with
        | none =>
          refine (tot_zero fun hr' => ?_).symm
          have := hsub b ((u.iff b).mpr ⟨sp.sub b (List.mem_singleton.mpr rfl), hr'⟩)
          have h2' := look_isSome.mpr this
          rw [hl] at h2'
          cases h2'
        | some e => exact ((h1.sub _ (look_mem hl)).2).symm
      · obtain ⟨a, _, _, e, _⟩ := r
        rw [e]
        intro z
        cases z
end
end B
namespace B
open PySem L2
section
variable {P : Program} {w : World} {A : Ad} {K : PySem.W.Frag} {mg : Str → Option Value} {base : Heap}
theorem go_fin {rs : RS} {H0 G0 : Hp} {S : Sl} {M : Mo} {Q : VK} (hq : ∀ v H', RetK H0 G0 rNon () v H' → Q v H') : Go rs H0 G0 (fun _ H' => Q .non H') S M := fun H G as σ Z => hq _ _ ⟨G, Z.h, Z.sub, Z.bs, rfl⟩
theorem et_not1 {rs : RS} {S : Sl} {M : Mo} {tt : TT} {b : Bool} (h : EvT rs tt S M b) (hb : b = true) : EvT rs (tNot tt) S M false := by
  subst hb
  exact et_not h
abbrev sp_is_integer : Sp := prm (fun a : Int × Int × Int => [.is rInt a.1, .is rInt a.2.1, .is rInt a.2.2]) (fun _ => True) (fun _ => rBool) (fun a => decide (a.2.1 ≤ a.1 ∧ a.1 ≤ a.2.2))
theorem ok_is_integer (T : Txt A K mg) : FnOk P w K mg base CX0 1 A.f_is_integer A.d_is_integer ps_is_integer sp_is_integer := by
  refine T.F_is_integer.ok sc_is_integer (fun vs H Q E h => prm_len (fun _ => rfl) h) (fun cdv Ar outer s H vs Q E hr h => ⟨_, (pss_one (ps_ret (pe_and (pe_callB (call_isiW (K := K) rfl) (by rfl) T.n_isinstance (by decide +kernel) (pa_cons (pv 0) (pa_cons (pe_bltn (by rfl) T.n_int (v := .ty "int") (by decide +kernel) rfl) pa_nil))) (pe_and (pe_not (pe_callB (call_isiW (K := K) rfl) (by rfl) T.n_isinstance (by decide +kernel) (pa_cons (pv 0) (pa_cons (pe_bltn (by rfl) T.n_bool (v := .ty "bool") (by decide +kernel) rfl) pa_nil)))) (pe_one (pe_chain op_le op_le (pv 1) (pv 0) (pv 2))))))), go_start h ?_⟩)
  rintro ⟨x, lo, hi⟩ H0 G0 _ hq
  refine go_ret hq ?_
  exact ev_eq (ev_and (ev_isi (ev_var rfl) ty_int (b := true) (by decide +kernel)) fun _ => ev_and (ev_not (ev_isi (ev_var rfl) ty_int (b := false) (by decide +kernel))) fun _ => ev_chain (ev_var rfl) (ev_var rfl) (ev_var rfl)) (by simp)
abbrev sp_check_steps : Sp := prm (fun st : List (List Nat) => [.is rSteps st]) (fun st => ∃ L, OkM L (st, []) ∧ 1 ≤ L ∧ L ≤ 3) (fun _ => rNon) (fun _ => ())
theorem ok_check_steps (T : Txt A K mg) : FnOk P w K mg base CX0 2 A.f_check_steps A.d_check_steps ps_check_steps sp_check_steps := by
  refine T.F_check_steps.ok sc_check_steps (fun vs H Q E h => prm_len (fun _ => rfl) h) (fun cdv Ar outer s H vs Q E hr h => ⟨_, (pss_cons (ps_if (PW.pt (pw_or (pt_not (pt_val (pe_callB (call_isiW (K := K) rfl) (by rfl) T.n_isinstance (by decide +kernel) (pa_cons (pv 0) (pa_cons (pe_bltn (by rfl) T.n_tuple (v := .ty "tuple") (by decide +kernel) rfl) pa_nil))))) (pw_or1 (pt_not (pt_chain op_le op_le pe_int (pe_callB (call_len_seqK (K := K) rfl) (by rfl) T.n_len PySem.boot_len (pa_cons (pv 0) pa_nil)) (pe_glob (v := .int 8) (by rfl) T.c_MOST_STANDS ⟨_, rfl⟩)))))) pss_never pss_nil)
      (pss_one (ps_for PassesOwn.never rfl (pi_enumTK (K := K) rfl (by rfl) T.n_enumerate (pa_cons (pv 0) pa_nil)) (pg_tupK (K := K) rfl (by rfl) (pgs_cons (pg_name (i := 1) sc_check_steps.nd rfl (by first | exact Or.inl rfl | exact Or.inr rfl)) (pgs_cons (pg_name (i := 2) sc_check_steps.nd rfl (by first | exact Or.inl rfl | exact Or.inr rfl)) pgs_nil))) (pss_cons (ps_if (PW.pt (pw_or (pt_not (pt_val (pe_callB (call_isiW (K := K) rfl) (by rfl) T.n_isinstance (by decide +kernel) (pa_cons (pv 2) (pa_cons (pe_bltn (by rfl) T.n_tuple (v := .ty "tuple") (by decide +kernel) rfl) pa_nil))))) (pw_or (pt_not (pt_chain op_le op_le pe_int (pe_callB (call_len_seqK (K := K) rfl) (by rfl) T.n_len PySem.boot_len (pa_cons (pv 2) pa_nil)) (pe_glob (v := .int 3) (by rfl) T.c_MOST_LETTERS ⟨_, rfl⟩))) (pw_or1 (pt_cmpR op_ne (pe_callB (call_len_seqK (K := K) rfl) (by rfl) T.n_len PySem.boot_len (pa_cons (pv 2) pa_nil)) (pe_callB (call_len_seqK (K := K) rfl) (by rfl) T.n_len PySem.boot_len (pa_cons (pe_ix (ix_tupK (K := K) rfl) (pv 0) pe_int (fun _ _ => rfl)) pa_nil)) (nomark _)))))) pss_never pss_nil)
      (pss_one (ps_if (pt_not (pt_val (pe_callB (cr_allK (K := K) rfl rfl) (by rfl) T.n_all (by decide +kernel) (pa_cons (pe_lc (own := [("stand", 3)]) (g := gName 3) (by rfl) sc_check_steps.nd (pi_tupK (K := K) rfl (pv 2)) (blkOk_by (own := [("stand", 3)]) (N := nm_check_steps) (sc := defScope st_check_steps) (by decide +kernel)) (fun _ _ _ _ _ => (pg_name (i := 3) sc_check_steps.nd rfl (by first | exact Or.inl rfl | exact Or.inr rfl))) (fun _ _ _ _ _ => pts_nil) (fun _ _ _ _ _ => (pe_call (ok_is_integer T) (hr.mono (by decide)) (by rfl) T.g_is_integer T.F_is_integer.kp T.b_is_integer .nil pass0 (pa_cons (pv 3) (pa_cons pe_int (pa_cons (pe_op op_sub (pe_callB (call_len_seqK (K := K) rfl) (by rfl) T.n_len PySem.boot_len (pa_cons (pv 0) pa_nil)) pe_int) pa_nil)))))) pa_nil)))) pss_never pss_nil)))))), go_start h ?_⟩)
  rintro st H0 G0 ⟨L, o, l1, l3⟩ hq
  have hn1 : 1 ≤ st.length := o.pos
  have hn8 : st.length ≤ 8 := o.le8
  refine q_when (b := false) ?_ (fun z => nomatch z) fun _ => ?_
  · refine et_eq (et_or (b := false) (et_not1 (et_B (ev_isi (b := true) (ev_var rfl) ty_tup (by decide +kernel))) rfl) fun _ => et_not1 (et_B (ev_chainN ev_nat1 (ev_lenT (ev_var rfl)) (ev_nat (n := 8)))) ?_) rfl
    exact decide_eq_true ⟨hn1, hn8⟩
  refine go_for (σt := Unit) (fun _ => [.is rSteps st, .no, .no, .no]) (fun _ => []) (fun _ _ => True) () (it_enumT (ev_var rfl)) (tg_pr 1 2) trivial (Wk.refl _) rfl ?_ (fun _ _ => go_fin hq)
  rintro G1 bs i _ ⟨k, r⟩ hk _
  rw [zipI_at] at hk
  cases hx : st[i]? with
  | none =>
    rw [hx] at hk
    cases hk
  | some r' =>
    rw [hx] at hk
    cases hk
    have hrm : r ∈ st := List.mem_of_getElem? hx
    have hrl : r.length = L := o.len r hrm
    dsimp only
    obtain ⟨r0, hr0⟩ : ∃ r0, st[0]? = some r0 := ⟨_, List.getElem?_eq_getElem hn1⟩
    refine q_when (b := false) ?_ (fun z => nomatch z) fun _ => ?_
    · refine et_eq (et_or (b := false) (et_not1 (et_B (ev_isi (b := true) (ev_var rfl) (ty_tup (R := rNat)) (by decide +kernel))) rfl) fun _ => et_or (b := false) (et_not1 (et_B (ev_chainN ev_nat1 (ev_lenT (R := rNat) (ev_var rfl)) (ev_nat (n := 3)))) ?_) fun _ =>
        et_eq (b' := false) (et_B (ev_neN (ev_lenT (R := rNat) (ev_var rfl)) (ev_lenT (R := rNat) (ev_ixT (ev_var rfl) ev_nat0 hr0)))) ?_) rfl
      · exact decide_eq_true ⟨by show 1 ≤ r.length; omega, by show r.length ≤ 3; omega⟩
      · rw [o.len r0 (List.mem_of_getElem? hr0), hrl]
        simp
    refine go_when (b := false) ?_ (fun z => nomatch z) fun _ => go_turn () trivial (.same (.no (.no (.same .nil)))) rfl
    refine et_not1 (et_B (ev_all (ev_lc0 (T := rBool) (xs := r) (fun g : Nat => decide ((0 : Int) ≤ (g : Int) ∧ (g : Int) ≤ (st.length : Int) - 1)) (it_tup (R := rNat) (ev_var rfl)) (tg_name 3) (by simp) (by omega) fun g hg m =>
      ev_call (((g : Int), (0 : Int), (st.length : Int) - 1) : Int × Int × Int) (ea_cons (ev_toI (n := g) (ev_var rfl)) (ea_cons ev_int (ea_cons (ev_sub (ev_toI (ev_lenT (ev_var rfl))) ev_int) ea_nil))) trivial))) ?_
    rw [List.all_map, List.all_eq_true]
    intro g hg
    have : g < st.length := o.lt r hrm g hg
    exact decide_eq_true ⟨by omega, by omega⟩
abbrev sp_check_good : Sp := prm (fun a : List Nat × Nat => [.is rRow a.1, .is rNat a.2]) (fun a => OkG a.2 a.1 ∧ a.1.length ≤ 1000) (fun _ => rNon) (fun _ => ())
theorem inc_at {l : List Nat} (h : l.Pairwise (· < ·)) {i j : Nat} {x y : Nat} (hi : l[i]? = some x) (hj : l[j]? = some y) (hij : i < j) : x < y := by
  obtain ⟨h1, rfl⟩ := List.getElem?_eq_some_iff.mp hi
  obtain ⟨h2, rfl⟩ := List.getElem?_eq_some_iff.mp hj
  exact List.pairwise_iff_getElem.mp h i j h1 h2 hij
theorem ok_check_good (T : Txt A K mg) : FnOk P w K mg base CX0 2 A.f_check_good A.d_check_good ps_check_good sp_check_good := by
  refine T.F_check_good.ok sc_check_good (fun vs H Q E h => prm_len (fun _ => rfl) h) (fun cdv Ar outer s H vs Q E hr h => ⟨_, (pss_cons (ps_if (pt_not (pt_val (pe_callB (call_isiW (K := K) rfl) (by rfl) T.n_isinstance (by decide +kernel) (pa_cons (pv 0) (pa_cons (pe_bltn (by rfl) T.n_tuple (v := .ty "tuple") (by decide +kernel) rfl) pa_nil))))) pss_never pss_nil)
      (pss_cons (ps_set (i := 2) sc_check_good.nd rfl (by first | exact Or.inl rfl | exact Or.inr rfl) (pe_un un_neg pe_int))
      (pss_one (ps_for PassesOwn.never rfl (pi_tupK (K := K) rfl (pv 0)) (pg_name (i := 3) sc_check_good.nd rfl (by first | exact Or.inl rfl | exact Or.inr rfl)) (pss_cons (ps_if (pt_not (pt_val (pe_call (ok_is_integer T) (hr.mono (by decide)) (by rfl) T.g_is_integer T.F_is_integer.kp T.b_is_integer .nil pass0 (pa_cons (pv 3) (pa_cons (pe_op op_add (pv 2) pe_int) (pa_cons (pe_op op_sub (pv 1) pe_int) pa_nil)))))) pss_never pss_nil)
      (pss_one (ps_set (i := 2) sc_check_good.nd rfl (by first | exact Or.inl rfl | exact Or.inr rfl) (pv 3)))))))), go_start h ?_⟩)
  rintro ⟨gd, n⟩ H0 G0 ⟨o, hl⟩ hq
  dsimp only at o hl ⊢
  refine q_when (b := false) (et_not1 (et_B (ev_isi (b := true) (ev_var rfl) (ty_tup (R := rNat)) (by decide +kernel))) rfl) (fun z => nomatch z) fun _ => ?_
  refine q_asg (eg_ev (ev_neg ev_int)) ?_
  refine go_for (σt := Int) (fun l => [.is rRow gd, .is rNat n, .is rInt l, .no]) (fun _ => []) (fun i l => (i = 0 → l = -1) ∧ ∀ j x, i = j + 1 → gd[j]? = some x → l = x) (-1) (it_tup (ev_var rfl)) (tg_name 3) ⟨fun _ => rfl, fun j x e => by omega⟩ (Wk.refl _) rfl ?_ (fun _ _ => go_fin hq)
  rintro G1 bs i l x hx ⟨hI0, hI1⟩
  dsimp only
  have hlx : l + 1 ≤ x := by
    cases i with
    | zero =>
      rw [hI0 rfl]
      omega
    | succ j =>
      have hj : j < gd.length := by
        have := (List.getElem?_eq_some_iff.mp hx).1
        omega
      have hjx : gd[j]? = some gd[j] := List.getElem?_eq_getElem hj
      have := inc_at o.inc hjx hx (Nat.lt_succ_self j)
      rw [hI1 j _ rfl hjx]
      omega
  have hxn : x < n := o.lt x (List.mem_of_getElem? hx)
  refine q_when (b := false) (et_not1 (et_B (ev_call (((x : Int), l + 1, (n : Int) - 1) : Int × Int × Int) (ea_cons (ev_toI (n := x) (ev_var rfl)) (ea_cons (ev_add (ev_var rfl) ev_int) (ea_cons (ev_sub (ev_toI (ev_var rfl)) ev_int) ea_nil))) trivial)) (decide_eq_true ⟨hlx, by show (x : Int) ≤ (n : Int) - 1; omega⟩)) (fun z => nomatch z) fun _ => ?_
  refine go_asg (eg_ev (ev_toI (n := x) (ev_var rfl))) ?_
  refine go_turn (x : Int) ⟨fun e => by omega, fun j y e hy => ?_⟩ (.same (.same (.same (.no .nil)))) rfl
  have : j = i := by omega
  subst this
  rw [hx] at hy
  cases hy
  rfl
abbrev sp_Machine_init (C : Addr) : Sp := prmI C (fun m : Mc => [.is rSteps m.1, .is rRow m.2]) (fun m => ∃ L, OkW L m) (fun m => [("parts", .is rPm m)])
theorem OkG.len {n : Nat} {g : List Nat} (h : OkG n g) : g.length ≤ n := by
  have := nodup_le (n := n) (l := g) (all := List.range n) (h.inc.imp fun h => Nat.ne_of_lt h) (fun x hx => List.mem_range.mpr (h.lt x hx)) (by simp)
  exact this
theorem OkM.withG {L : Nat} {m : Mc} (o : OkM L m) (g : List Nat) : OkM L (m.1, g) := ⟨o.pos, o.le8, o.len, o.lt⟩
theorem ok_Machine_init (T : Txt A K mg) : FnOk P w K mg base CX0 3 A.f_Machine_init A.d_Machine_init ps_Machine_init (sp_Machine_init A.M) := by
  refine T.F_Machine_init.ok sc_Machine_init (fun vs H Q E h => prmI_len (fun _ => rfl) h) (fun cdv Ar outer s H vs Q E hr h => ⟨_, (pss_cons (ps_expr (pe_call (ok_check_steps T) (hr.mono (by decide)) (by rfl) T.g_check_steps T.F_check_steps.kp T.b_check_steps .nil pass0 (pa_cons (pv 1) pa_nil)))
      (pss_cons (ps_expr (pe_call (ok_check_good T) (hr.mono (by decide)) (by rfl) T.g_check_good T.F_check_good.kp T.b_check_good .nil pass0 (pa_cons (pv 2) (pa_cons (pe_callB (call_len_seqK (K := K) rfl) (by rfl) T.n_len PySem.boot_len (pa_cons (pv 1) pa_nil)) pa_nil))))
      (pss_one (ps_fld (pv 0) (pe_tup (pa_cons (pv 1) (pa_cons (pv 2) pa_nil))) rfl)))), go_startI h ?_⟩)
  rintro ⟨st, gd⟩ H0 G0 p dx ⟨L, o⟩ hend
  refine q_drop (ev_call (A := List (List Nat)) st (ea_cons (ev_var rfl) ea_nil) ⟨L, o.ok.withG [], o.l1, o.l3⟩) ?_
  refine q_drop (ev_call ((gd, st.length) : List Nat × Nat) (ea_cons (ev_var rfl) (ea_cons (ev_lenT (R := rRow) (ev_var rfl)) ea_nil)) ⟨o.g, by
    have h1 : gd.length ≤ st.length := o.g.len
    have h2 : st.length ≤ 8 := o.ok.le8
    show gd.length ≤ 1000
    omega⟩) ?_
  refine go_fld (j := 0) (R := rPm) (x := (st, gd)) T.clM T.na_parts rfl rfl (by simp) (by decide) (ev_pr (ev_var rfl) (ev_var rfl)) ?_
  exact hend _ _ rfl
abbrev sp_Machine_steps (C : Addr) : Sp := prm (fun m : Mc => [.is (rMach C) m]) (fun _ => True) (fun _ => rSteps) (fun m => m.1)
theorem ok_Machine_steps (T : Txt A K mg) : FnOk P w K mg base CX0 1 A.f_Machine_steps A.d_Machine_steps ps_Machine_steps (sp_Machine_steps A.M) := by
  refine T.F_Machine_steps.ok sc_Machine_steps (fun vs H Q E h => prm_len (fun _ => rfl) h) (fun cdv Ar outer s H vs Q E hr h => ⟨_, (pss_one (ps_ret (pe_ix (ix_tupK (K := K) rfl) (pe_fldK (K := K) rfl (pv 0) rfl) pe_int (fun _ _ => rfl)))), go_start h ?_⟩)
  rintro m H0 G0 _ hq
  exact go_ret hq (ev_fst (ev_parts T.clM T.na_parts (ev_var rfl)))
abbrev sp_Machine_good (C : Addr) : Sp := prm (fun m : Mc => [.is (rMach C) m]) (fun _ => True) (fun _ => rRow) (fun m => m.2)
theorem ok_Machine_good (T : Txt A K mg) : FnOk P w K mg base CX0 1 A.f_Machine_good A.d_Machine_good ps_Machine_good (sp_Machine_good A.M) := by
  refine T.F_Machine_good.ok sc_Machine_good (fun vs H Q E h => prm_len (fun _ => rfl) h) (fun cdv Ar outer s H vs Q E hr h => ⟨_, (pss_one (ps_ret (pe_ix (ix_tupK (K := K) rfl) (pe_fldK (K := K) rfl (pv 0) rfl) pe_int (fun _ _ => rfl)))), go_start h ?_⟩)
  rintro m H0 G0 _ hq
  exact go_ret hq (ev_snd (ev_parts T.clM T.na_parts (ev_var rfl)))
abbrev sp_Machine_len (C : Addr) : Sp := prm (fun m : Mc => [.is (rMach C) m]) (fun _ => True) (fun _ => rNat) (fun m => m.1.length)
theorem ok_Machine_len (T : Txt A K mg) : FnOk P w K mg base CX0 1 A.f_Machine_len A.d_Machine_len ps_Machine_len (sp_Machine_len A.M) := by
  refine T.F_Machine_len.ok sc_Machine_len (fun vs H Q E h => prm_len (fun _ => rfl) h) (fun cdv Ar outer s H vs Q E hr h => ⟨_, (pss_one (ps_ret (pe_callB (call_len_seqK (K := K) rfl) (by rfl) T.n_len PySem.boot_len (pa_cons (pe_ix (ix_tupK (K := K) rfl) (pe_fldK (K := K) rfl (pv 0) rfl) pe_int (fun _ _ => rfl)) pa_nil)))), go_start h ?_⟩)
  rintro m H0 G0 _ hq
  exact go_ret hq (ev_lenT (ev_fst (ev_parts T.clM T.na_parts (ev_var rfl))))
def marksF (m : Mc) : List Bool := (List.range' 0 m.1.length).map fun s => decide (s ∈ m.2)
abbrev sp_marks_of (C : Addr) : Sp := prm (fun m : Mc => [.is (rMach C) m]) (fun m => m.1.length ≤ 8) (fun _ => rList rBool) marksF
theorem ok_marks_of (T : Txt A K mg) : FnOk P w K mg base CX0 1 A.f_marks_of A.d_marks_of ps_marks_of (sp_marks_of A.M) := by
  refine T.F_marks_of.ok sc_marks_of (fun vs H Q E h => prm_len (fun _ => rfl) h) (fun cdv Ar outer s H vs Q E hr h => ⟨_, (pss_one (ps_ret (pe_lc (own := [("stand", 1)]) (g := gName 1) (by rfl) sc_marks_of.nd (pi_range1 (by rfl) T.n_range (pa_cons (pe_callB (call_len_seqK (K := K) rfl) (by rfl) T.n_len PySem.boot_len (pa_cons (pe_ix (ix_tupK (K := K) rfl) (pe_fldK (K := K) rfl (pv 0) rfl) pe_int (fun _ _ => rfl)) pa_nil)) pa_nil)) (blkOk_by (own := [("stand", 1)]) (N := nm_marks_of) (sc := defScope st_marks_of) (by decide +kernel)) (fun _ _ _ _ _ => (pg_name (i := 1) sc_marks_of.nd rfl (by first | exact Or.inl rfl | exact Or.inr rfl))) (fun _ _ _ _ _ => pts_nil) (fun _ _ _ _ _ => (pe_cmpR (op_in_seqK (K := K) rfl) (pv 1) (pe_ix (ix_tupK (K := K) rfl) (pe_fldK (K := K) rfl (pv 0) rfl) pe_int (fun _ _ => rfl)) (by rfl)))))), go_start h ?_⟩)
  rintro m H0 G0 hp hq
  refine go_ret hq (ev_lc0 (T := rBool) (fun s => decide (s ∈ m.2)) (it_range1 (ev_lenT (ev_fst (ev_parts T.clM T.na_parts (ev_var rfl)))) (by omega)) (tg_name 1) (by simp) (by rw [List.length_range']; omega) fun x hx mm => ?_)
  exact ev_inT (ev_var rfl) (ev_snd (ev_parts T.clM T.na_parts (ev_var rfl)))
end
end B
namespace B
open PySem L2
theorem zipI_map (fs : List Nat) : zipI fs = (List.range' 0 fs.length).map fun k => (k, fs.getD k 0) := List.ext_getElem? fun i => by
  rw [zipI_at, List.getElem?_map]
  rcases Nat.lt_or_ge i fs.length with h | h
  · rw [rng_at h, List.getElem?_eq_getElem h]
    show some _ = some (i, fs.getD i 0)
    rw [List.getD_eq_getElem?_getD, List.getElem?_eq_getElem h]
    rfl
  · rw [List.getElem?_eq_none h, List.getElem?_eq_none (by simpa using h)]
    rfl
theorem like_zip (M : Mc) (fs : List Nat) (s : Nat) : ((zipI fs).filter fun e => finB M e.2 s).map (·.1) = likeL M fs s := by
  rw [zipI_map, List.filter_map, List.map_map]
  exact List.map_id _
section
variable {P : Program} {w : World} {A : Ad} {K : PySem.W.Frag} {mg : Str → Option Value} {base : Heap}
abbrev sg1 (C : Addr) (a : Mc) : List SS := [.is (rMach C) a]
abbrev Ok1 (m : Mc) : Prop := ∃ L, OkM L m ∧ L ≤ 3
noncomputable abbrev sp_kinds_of (C : Addr) : Sp := prm (sg1 C) Ok1 (fun _ => rList rNat) kindL
theorem ok_kinds_of (T : Txt A K mg) : FnOk P w K mg base CX0 5 A.f_kinds_of A.d_kinds_of ps_kinds_of (sp_kinds_of A.M) := by
  refine T.F_kinds_of.ok sc_kinds_of (fun vs H Q E h => prm_len (fun _ => rfl) h) (fun cdv Ar outer s H vs Q E hr h => ⟨_, (pss_cons (ps_par (i := 1) (j := 2) (by rfl) sc_kinds_of.nd rfl rfl (by decide) rfl rfl (pa_cons (pe_lst pa_nil) (pa_cons (pe_lst pa_nil) pa_nil)) (by rfl))
      (pss_cons (ps_for PassesOwn.never rfl (pi_range1 (by rfl) T.n_range (pa_cons (pe_callB (call_len_seqK (K := K) rfl) (by rfl) T.n_len PySem.boot_len (pa_cons (pe_ix (ix_tupK (K := K) rfl) (pe_fldK (K := K) rfl (pv 0) rfl) pe_int (fun _ _ => rfl)) pa_nil)) pa_nil)) (pg_name (i := 3) sc_kinds_of.nd rfl (by first | exact Or.inl rfl | exact Or.inr rfl)) (pss_cons (ps_setLc (i := 4) (own := [("at", 5), ("first", 6)]) (g := gTup K 2 (gCons (gName 5) (gCons (gName 6) gNil))) (by rfl) sc_kinds_of.nd rfl rfl (sw_true rfl rfl rfl (by decide +kernel)) (pi_enumK (K := K) rfl (by rfl) T.n_enumerate (pa_cons (pv 2) pa_nil)) (blkOk_by (own := [("at", 5), ("first", 6)]) (N := nm_kinds_of) (sc := defScope st_kinds_of) (by decide +kernel)) (fun _ _ _ _ _ => (pg_tupK (K := K) rfl (by rfl) (pgs_cons (pg_name (i := 5) sc_kinds_of.nd rfl (by first | exact Or.inl rfl | exact Or.inr rfl)) (pgs_cons (pg_name (i := 6) sc_kinds_of.nd rfl (by first | exact Or.inl rfl | exact Or.inr rfl)) pgs_nil)))) (fun _ _ _ _ _ => (pts_one (pt_cmpR op_notN (pe_call (ok_counted T) (hr.mono (by decide)) (by rfl) T.g_counted T.F_counted.kp T.b_counted .nil pass0 (pa_cons (pv 0) (pa_cons (pv 0) (pa_cons (pe_tup (pa_cons (pv 6) (pa_cons (pv 3) pa_nil))) pa_nil)))) pe_non (nomark _)))) (fun _ _ _ _ _ => (pv 5)))
      (pss_one (ps_if (pt_cmpR (op_eqDK (K := K) rfl hr.units) (pv 4) (pe_lst pa_nil) (nomark _)) (pss_cons (ps_expr (pe_bm PySem.F.plainAttrs_list PySem.F.slot_list_append PySem.F.type_list_append mt_append (pv 1) (pa_cons (pe_callB (call_len_seqK (K := K) rfl) (by rfl) T.n_len PySem.boot_len (pa_cons (pv 2) pa_nil)) pa_nil)))
      (pss_one (ps_expr (pe_bm PySem.F.plainAttrs_list PySem.F.slot_list_append PySem.F.type_list_append mt_append (pv 2) (pa_cons (pv 3) pa_nil))))) (pss_one (ps_expr (pe_bm PySem.F.plainAttrs_list PySem.F.slot_list_append PySem.F.type_list_append mt_append (pv 1) (pa_cons (pe_ix (ix_listK (K := K) rfl) (pv 4) pe_int (fun _ _ => rfl)) pa_nil))))))))
      (pss_one (ps_ret (pv 1))))), go_start h ?_⟩)
  rintro m H0 G0 ⟨L, o, l3⟩ hq
  have h8 := o.le8
  refine q_par (eg_own (eo_nil (R := rNat))) (eg_own (eo_nil (R := rNat))) ?_
  refine q_for (σt := List Nat × List Nat) (fun s => [.is (rMach A.M) m, .own 0, .own 1, .no, .no, .no, .no]) (fun s => [some (oList rNat s.1), some (oList rNat s.2)]) (fun i s => i ≤ m.1.length ∧ s = kSt m i) ([], [])
    (it_range1 (ev_lenT (ev_fst (ev_parts T.clM T.na_parts (ev_var rfl)))) (by omega)) (tg_name 3) ⟨Nat.zero_le _, rfl⟩ (Wk.refl _) rfl ?_ ?_
  · rintro G1 bs i ⟨f, fs⟩ x hx ⟨hi, hs⟩
    obtain ⟨hin, ex⟩ := List.getElem?_eq_some_iff.mp hx
    rw [List.getElem_range'] at ex
    rw [List.length_range'] at hin
    have ex : x = i := by omega
    subst ex
    have sp := kSt_spec o x hi
    rw [← hs] at sp
    dsimp only at sp ⊢
    have hfl : f.length = x := sp.len
    have hfs : fs.length ≤ x := by
      have : fs.length ≤ (List.range x).length := nodup_le (l := fs) (all := List.range x) (by
        rw [List.nodup_iff_pairwise_ne, List.pairwise_iff_getElem]
        intro a b ha hb hab e
        have h1 := List.getElem?_eq_getElem ha
        have h2 := List.getElem?_eq_getElem hb
        rw [e] at h1
        have := sp.ne a b _ _ h1 h2 (Fq.refl m _)
        omega) (fun t ht => by
        obtain ⟨c, hc⟩ := List.mem_iff_getElem?.mp ht
        exact List.mem_range.mpr (sp.fst_ c t hc).1) (Nat.le_refl _)
      simpa using this
    refine q_asg (eg_ev (ev_lcP (T := rNat) (fun e => finB m e.2 x) (fun e => e.1) rfl rfl (tg_pr 5 6) (by simp) (by omega) (fun e he O mm => ?_) (fun e he _ O mm => ev_var rfl))) ?_
    · have hel : e.2 < m.1.length := by
        rw [zipI_map] at he
        obtain ⟨k, hk, rfl⟩ := List.mem_map.mp he
        rw [List.mem_range'_1] at hk
        have h1 := List.getElem?_eq_getElem (l := fs) (i := k) (by omega)
        have := (sp.fst_ k _ h1).1
        show fs.getD k 0 < _
        rw [List.getD_eq_getElem?_getD, h1]
        show fs[k] < _
        omega
      refine et_notN (ev_call (m, m, ((e.2, x) : Pr)) (ea_cons (ev_var rfl) (ea_cons (ev_var rfl) (ea_cons (ev_pr (ev_var rfl) (ev_var rfl)) ea_nil))) ⟨L, o, o, ⟨hel, hin⟩, l3⟩) fun r hr => ?_
      show r.isSome = (tot m m (e.2, x)).isSome
      rw [← show r.map (·.1) = tot m m (e.2, x) from hr]
      cases r <;> rfl
    · rw [like_zip]
      refine go_if (b := (likeL m fs x).isEmpty) (et_test (ev_eqNil dat_nat (by decide) (ev_var rfl))) (fun he => ?_) (fun he => ?_)
      · have hl := List.isEmpty_iff.mp he
        refine q_app rfl rfl (by omega) (ev_lenO rfl rfl) ?_
        refine go_app rfl rfl (by omega) (ev_var rfl) ?_
        refine go_turn (f ++ [fs.length], fs ++ [x]) ⟨hin, ?_⟩ (.same (.same (.same (.no (.no (.same (.same .nil))))))) rfl
        rw [kSt_succ, ← hs]
        unfold kStep
        dsimp only
        rw [hl]
      · cases hl : likeL m fs x with
        | nil =>
          rw [hl] at he
          cases he
        | cons k r =>
          refine go_app (x := k) rfl rfl (by omega) (ev_ixL (ev_var rfl) ev_nat0 rfl) ?_
          refine go_turn (f ++ [k], fs) ⟨hin, ?_⟩ (.same (.same (.same (.no (.no (.same (.same .nil))))))) rfl
          rw [kSt_succ, ← hs]
          unfold kStep
          dsimp only
          rw [hl]
  · rintro ⟨f, fs⟩ ⟨hi, hs⟩
    rw [List.length_range'] at hs
    refine go_frzL (i := 1) rfl rfl (go_ret hq (ev_eq (ev_var rfl) ?_))
    show f = (kSt m m.1.length).1
    rw [← hs]
end
end B
namespace B
open PySem L2
noncomputable def countsF (m : Mc) : List (Option Nat) := (List.range' 0 m.1.length).map fun s => B.fin fun k => wt m k s
def wtL (m : Mc) (k : Nat) : List Nat := (List.range' 0 m.1.length).map (wt m k)
def fsL (m : Mc) (k : Nat) : List Nat := (List.range' 0 m.1.length).map fun s => sumTo (fun j => wt m j s) (k + 1)
theorem map_rng_at {β : Type} {f : Nat → β} {n k : Nat} (h : k < n) : ((List.range' 0 n).map f)[k]? = some (f k) := by
  rw [List.getElem?_map, rng_at h]
  rfl
theorem map_rng_ext {β : Type} {f : Nat → β} {n : Nat} {l : List β} (hl : l.length = n) (h : ∀ k, k < n → l[k]? = some (f k)) : l = (List.range' 0 n).map f := List.ext_getElem? fun k => by
  rcases Nat.lt_or_ge k n with hk | hk
  · rw [h k hk, map_rng_at hk]
  · rw [List.getElem?_eq_none (by omega), List.getElem?_eq_none (by simpa using hk)]
def accW (m : Mc) (k i : Nat) (g : Nat) : Nat := ((List.range i).map fun s => wt m k s * (row m s).count g).sum
theorem accW_succ (m : Mc) (k i g : Nat) : accW m k (i + 1) g = accW m k i g + wt m k i * (row m i).count g := by
  unfold accW
  rw [List.range_succ, List.map_append, List.sum_append]
  simp
theorem accW_all {L : Nat} {m : Mc} (o : OkM L m) (k g : Nat) : accW m k m.1.length g = wt m (k + 1) g := by
  unfold accW
  show _ = ((ends m k).flatMap (row m)).count g
  rw [List.count_flatMap, sum_count (n := m.1.length) _ _ (ends_lt o k)]
  rfl
theorem wt_zero {L : Nat} {m : Mc} (o : OkM L m) : wtL m 0 = [1] ++ List.replicate (m.1.length - 1) 0 := by
  symm
  refine map_rng_ext ?_ fun k hk => ?_
  · have := o.pos
    simp
    omega
  · cases k with
    | zero => rfl
    | succ k =>
      rw [List.getElem?_append_right (by simp), List.getElem?_replicate, if_pos (by simp; omega)]
      show some 0 = some (([0] : List Nat).count (k + 1))
      congr 1
section
variable {P : Program} {w : World} {A : Ad} {K : PySem.W.Frag} {mg : Str → Option Value} {base : Heap}
noncomputable abbrev sp_come_counts (C : Addr) : Sp := prm (sg1 C) Ok1 (fun _ => rList (rOpt rNat)) countsF
structure ComeC (m : Mc) (k : Nat) (kv : List (Nat × Bool)) : Prop where
  len : kv.length ≤ 8 * k
  iff : ∀ s, s < m.1.length → ((look kv s).isSome = true ↔ ∃ j, m.1.length ≤ j ∧ j ≤ k ∧ wt m j s ≠ 0)
theorem ok_come_counts (T : Txt A K mg) : FnOk P w K mg base CX0 1 A.f_come_counts A.d_come_counts ps_come_counts (sp_come_counts A.M) := by
  refine T.F_come_counts.ok sc_come_counts (fun vs H Q E h => prm_len (fun _ => rfl) h) (fun cdv Ar outer s H vs Q E hr h => ⟨_, (pss_cons (ps_set (i := 1) sc_come_counts.nd rfl (by first | exact Or.inl rfl | exact Or.inr rfl) (pe_ix (ix_tupK (K := K) rfl) (pe_fldK (K := K) rfl (pv 0) rfl) pe_int (fun _ _ => rfl)))
      (pss_cons (ps_set (i := 2) sc_come_counts.nd rfl (by first | exact Or.inl rfl | exact Or.inr rfl) (pe_callB (call_len_seqK (K := K) rfl) (by rfl) T.n_len PySem.boot_len (pa_cons (pv 1) pa_nil)))
      (pss_cons (ps_asg (pe_tup (pa_cons (pe_op op_cat (pe_lst (pa_cons pe_int pa_nil)) (pe_op op_rep (pe_lst (pa_cons pe_int pa_nil)) (pe_op op_sub (pv 2) pe_int))) (pa_cons (pe_op op_cat (pe_lst (pa_cons pe_int pa_nil)) (pe_op op_rep (pe_lst (pa_cons pe_int pa_nil)) (pe_op op_sub (pv 2) pe_int))) pa_nil))) (pg_tupK (K := K) rfl (by rfl) (pgs_cons (pg_name (i := 3) sc_come_counts.nd rfl (by first | exact Or.inl rfl | exact Or.inr rfl)) (pgs_cons (pg_name (i := 4) sc_come_counts.nd rfl (by first | exact Or.inl rfl | exact Or.inr rfl)) pgs_nil))))
      (pss_cons (ps_set (i := 5) sc_come_counts.nd rfl (by first | exact Or.inl rfl | exact Or.inr rfl) pe_dnewK)
      (pss_cons (ps_for PassesOwn.never rfl (pi_range2 (by rfl) T.n_range (pa_cons pe_int (pa_cons (pe_op op_add (pe_op op_mul pe_int (pv 2)) pe_int) pa_nil))) (pg_name (i := 6) sc_come_counts.nd rfl (by first | exact Or.inl rfl | exact Or.inr rfl)) (pss_cons (ps_set (i := 7) sc_come_counts.nd rfl (by first | exact Or.inl rfl | exact Or.inr rfl) (pe_op op_rep (pe_lst (pa_cons pe_int pa_nil)) (pv 2)))
      (pss_cons (ps_for PassesOwn.never rfl (pi_enumTK (K := K) rfl (by rfl) T.n_enumerate (pa_cons (pv 1) pa_nil)) (pg_tupK (K := K) rfl (by rfl) (pgs_cons (pg_name (i := 8) sc_come_counts.nd rfl (by first | exact Or.inl rfl | exact Or.inr rfl)) (pgs_cons (pg_name (i := 9) sc_come_counts.nd rfl (by first | exact Or.inl rfl | exact Or.inr rfl)) pgs_nil))) (pss_one (ps_for PassesOwn.never rfl (pi_tupK (K := K) rfl (pv 9)) (pg_name (i := 10) sc_come_counts.nd rfl (by first | exact Or.inl rfl | exact Or.inr rfl)) (pss_one (ps_augS (pv 7) (pv 10) (get_listK (K := K) rfl) (pe_ix (ix_listK (K := K) rfl) (pv 3) (pv 8) (fun _ _ => rfl)) ip_add set_list)))))
      (pss_cons (ps_set (i := 4) sc_come_counts.nd rfl (by first | exact Or.inl rfl | exact Or.inr rfl) (pe_lc (own := [("own", 11), ("more", 12)]) (g := gTup K 2 (gCons (gName 11) (gCons (gName 12) gNil))) (by rfl) sc_come_counts.nd (pi_zipK (K := K) rfl (by rfl) T.n_zip (pa_cons (pv 4) (pa_cons (pv 7) pa_nil))) (blkOk_by (own := [("own", 11), ("more", 12)]) (N := nm_come_counts) (sc := defScope st_come_counts) (by decide +kernel)) (fun _ _ _ _ _ => (pg_tupK (K := K) rfl (by rfl) (pgs_cons (pg_name (i := 11) sc_come_counts.nd rfl (by first | exact Or.inl rfl | exact Or.inr rfl)) (pgs_cons (pg_name (i := 12) sc_come_counts.nd rfl (by first | exact Or.inl rfl | exact Or.inr rfl)) pgs_nil)))) (fun _ _ _ _ _ => pts_nil) (fun _ _ _ _ _ => (pe_op op_add (pv 11) (pv 12)))))
      (pss_cons (ps_set (i := 3) sc_come_counts.nd rfl (by first | exact Or.inl rfl | exact Or.inr rfl) (pv 7))
      (pss_one (ps_if (pt_cmpR op_ge (pv 6) (pv 2) (nomark _)) (pss_one (ps_for PassesOwn.never rfl (pi_range1 (by rfl) T.n_range (pa_cons (pv 2) pa_nil)) (pg_name (i := 8) sc_come_counts.nd rfl (by first | exact Or.inl rfl | exact Or.inr rfl)) (pss_one (ps_if (pt_cmpR op_gt (pe_ix (ix_listK (K := K) rfl) (pv 7) (pv 8) (fun _ _ => rfl)) pe_int (nomark _)) (pss_one (ps_dput (hu_of hr) (pv 5) (pv 8) pe_bl rfl)) pss_nil)))) pss_nil)))))))
      (pss_one (ps_ret (pe_lc (own := [("stand", 8)]) (g := gName 8) (by rfl) sc_come_counts.nd (pi_range1 (by rfl) T.n_range (pa_cons (pv 2) pa_nil)) (blkOk_by (own := [("stand", 8)]) (N := nm_come_counts) (sc := defScope st_come_counts) (by decide +kernel)) (fun _ _ _ _ _ => (pg_name (i := 8) sc_come_counts.nd rfl (by first | exact Or.inl rfl | exact Or.inr rfl))) (fun _ _ _ _ _ => pts_nil) (fun _ _ _ _ _ => (pe_ifExp (pt_cmp (pc_din (hu_of hr) (pv 8) (pv 5))) pe_non (pe_ix (ix_listK (K := K) rfl) (pv 4) (pv 8) (fun _ _ => rfl)))))))))))), go_start h ?_⟩)
  rintro m H0 G0 ⟨L, o, l3⟩ hq
  have h8 := o.le8
  have h1 := o.pos
  refine q_asg (eg_ev (ev_fst (ev_parts T.clM T.na_parts (ev_var rfl)))) ?_
  refine q_asg (eg_ev (ev_lenT (ev_var rfl))) ?_
  have hbeg : ∀ {S : Sl} {M : Mo}, S[2]? = some (.is rNat m.1.length) → Ev none (tOp rCat (tLst (tCons (tC (.int 1)) tNil)) (tOp rRep (tLst (tCons (tC (.int 0)) tNil)) (tOp (rI0 fun i j => .int (i - j)) (tVar 2) (tC (.int 1))))) S M (rList rNat) (wtL m 0) := fun hS => by
    rw [wt_zero o]
    exact ev_cat (ev_lst (xs := [1]) (ea_cons ev_nat1 ea_nil) (by simp)) (ev_rep (ev_lst (xs := [0]) (ea_cons ev_nat0 ea_nil) (by simp)) (ev_subN (ev_var hS) ev_nat1 h1) (by omega)) (by simp; omega)
  refine q_parN (n := 2) (S := [.is (rMach A.M) m, .is rSteps m.1, .is rNat m.1.length, .no, .no, .no, .no, .no, .no, .no, .no, .no, .no]) (ss := [.is (rList rNat) (wtL m 0), .is (rList rNat) (wtL m 0)]) [3, 4] rfl rfl (by decide) (egs_cons (eg_ev (hbeg rfl)) (egs_cons (eg_ev (hbeg rfl)) egs_nil)) ?_
  refine q_asg (eg_own (eo_dK (R := rBool))) ?_
  refine q_for (σt := List (Nat × Bool) × List Nat × List Nat) (fun s => [.is (rMach A.M) m, .is rSteps m.1, .is rNat m.1.length, .is (rList rNat) s.2.1, .is (rList rNat) s.2.2, .own 0, .no, .no, .no, .no, .no, .no, .no]) (fun s => [some (oDK rBool s.1)])
    (fun i s => i ≤ 2 * m.1.length ∧ ComeC m i s.1 ∧ s.2.1 = wtL m i ∧ s.2.2 = fsL m i) ([], wtL m 0, wtL m 0) (it_range2 ev_nat1 (ev_addN (ev_mulN ev_nat2 (ev_var rfl) (by omega)) ev_nat1) (by omega) (by omega)) (tg_name 6) ?_ (Wk.refl _) rfl ?_ ?_
  · refine ⟨Nat.zero_le _, ⟨by simp, fun s hs => ?_⟩, rfl, ?_⟩
    · constructor
      · intro h
        cases h
      · rintro ⟨j, h1, h2, _⟩
        omega
    · unfold wtL fsL
      refine List.map_congr_left fun s _ => ?_
      show wt m 0 s = 0 + wt m 0 s
      omega
  · rintro G1 bs i ⟨kv, bf, fd⟩ x hx ⟨hi, hC, hb, hf⟩
    obtain ⟨hin, ex⟩ := List.getElem?_eq_some_iff.mp hx
    rw [List.getElem_range'] at ex
    rw [List.length_range'] at hin
    have ex : x = i + 1 := by omega
    subst ex
    dsimp only at hC hb hf ⊢
    subst hb hf
    refine q_asg (eg_own (eo_rep (ev_lst (xs := [0]) (ea_cons ev_nat0 ea_nil) (by simp)) (ev_var rfl) (by omega))) ?_
    refine q_for (σt := List Nat) (fun l => [.is (rMach A.M) m, .is rSteps m.1, .is rNat m.1.length, .is (rList rNat) (wtL m i), .is (rList rNat) (fsL m i), .own 0, .is rNat (i + 1), .own 1, .no, .no, .no, .no, .no]) (fun l => [some (oDK rBool kv), some (oList rNat l)])
      (fun st l => l = (List.range' 0 m.1.length).map (accW m i st)) (List.replicate m.1.length 0) (it_enumT (ev_var rfl)) (tg_pr 8 9) ?_ (Wk.refl _) rfl ?_ ?_
    · refine map_rng_ext (by simp) fun k hk => ?_
      rw [List.getElem?_replicate, if_pos hk]
      rfl
    · rintro G2 bs2 st l ⟨st', r⟩ hst rfl
      rw [zipI_at] at hst
      cases hr' : m.1[st]? with
      | none =>
        rw [hr'] at hst
        cases hst
      | some r' =>
        rw [hr'] at hst
        cases hst
        have hsn := (List.getElem?_eq_some_iff.mp hr').1
        have er : row m st = r := by
          have := row_at hsn
          rw [hr'] at this
          exact (Option.some.inj this).symm
        dsimp only
        refine go_for (σt := List Nat) (fun l => [.is (rMach A.M) m, .is rSteps m.1, .is rNat m.1.length, .is (rList rNat) (wtL m i), .is (rList rNat) (fsL m i), .own 0, .is rNat (i + 1), .own 1, .is rNat st, .no, .no, .no, .no]) (fun l => [some (oDK rBool kv), some (oList rNat l)])
          (fun j l => l = (List.range' 0 m.1.length).map fun g => accW m i st g + wt m i st * (r.take j).count g) _ (it_tup (R := rNat) (ev_var rfl)) (tg_name 10) (by simp) (.same (.same (.same (.same (.same (.same (.same (.same (.same (.no (.same (.same (.same .nil))))))))))))) rfl ?_ ?_
        · rintro G3 bs3 j l g hg rfl
          have hgn : g < m.1.length := o.row_lt hsn (by rw [er]; exact List.mem_of_getElem? hg)
          dsimp only
          refine go_augLN (z := accW m i st g + wt m i st * (r.take j).count g) rfl rfl (ev_var rfl) (map_rng_at hgn) (ev_ixL (x := wt m i st) (ev_var rfl) (ev_var rfl) (map_rng_at hsn)) ?_
          refine go_turn _ ?_ (.same (.same (.same (.same (.same (.same (.same (.same (.same (.same (.no (.same (.same .nil))))))))))))) rfl
          refine map_rng_ext (by simp) fun k hk => ?_
          rw [take_snoc hg, List.count_append]
          by_cases e : g = k
          · subst e
            rw [List.getElem?_set_self (by simpa using hgn)]
            congr 1
            simp
            rw [Nat.mul_add]
            omega
          · rw [List.getElem?_set_ne e, map_rng_at hk]
            congr 1
            rw [show List.count k [g] = 0 by simp [e], Nat.add_zero]
        · rintro l rfl
          refine go_turn _ ?_ (.same (.same (.same (.same (.same (.same (.same (.same (.no (.same (.same (.same (.same .nil))))))))))))) rfl
          rw [List.take_length]
          refine List.map_congr_left fun g _ => ?_
          show accW m i st g + _ = accW m i (st + 1) g
          rw [accW_succ, er]
    · rintro l rfl
      rw [zipI_len]
      have el : (List.range' 0 m.1.length).map (accW m i m.1.length) = wtL m (i + 1) := List.map_congr_left fun g _ => accW_all o i g
      rw [el]
      refine go_frzL (i := 7) rfl rfl ?_
      refine q_asg (eg_ev (ev_lc0 (T := rNat) (fun p => p.1 + p.2) (it_zip (R := rNat) (T := rNat) (ev_var rfl) (ev_var rfl)) (tg_pr 11 12) (by simp) (by
        rw [List.length_zip]
        unfold fsL
        rw [List.length_map, List.length_range']
        omega) fun p hp mm => ev_addN (ev_var rfl) (ev_var rfl))) ?_
      have ef : ((fsL m i).zip (wtL m (i + 1))).map (fun p => p.1 + p.2) = fsL m (i + 1) := by
        refine map_rng_ext (by simp [fsL, wtL]) fun k hk => ?_
        have hz : ((fsL m i).zip (wtL m (i + 1)))[k]? = some (sumTo (fun j => wt m j k) (i + 1), wt m (i + 1) k) := List.getElem?_zip_eq_some.mpr ⟨map_rng_at hk, map_rng_at hk⟩
        rw [List.getElem?_map, hz]
        rfl
      rw [ef]
      refine q_asg (eg_ev (ev_var rfl)) ?_
      refine go_when (b := decide (m.1.length ≤ i + 1)) (et_test (ev_geN (ev_var rfl) (ev_var rfl))) (fun hge => ?_) (fun hge => ?_)
      · have hge := of_decide_eq_true hge
        refine go_for (σt := List (Nat × Bool)) (fun kv' => [.is (rMach A.M) m, .is rSteps m.1, .is rNat m.1.length, .is (rList rNat) (wtL m (i + 1)), .is (rList rNat) (fsL m (i + 1)), .own 0, .is rNat (i + 1), .is (rList rNat) (wtL m (i + 1)), .no, .no, .no, .no, .no]) (fun kv' => [some (oDK rBool kv'), none])
          (fun st kv' => kv'.length ≤ 8 * i + st ∧ ∀ s, s < m.1.length → ((look kv' s).isSome = true ↔ (look kv s).isSome = true ∨ (s < st ∧ wt m (i + 1) s ≠ 0))) kv (it_range1 (ev_var rfl) (by omega)) (tg_name 8) ⟨hC.len, fun s hs => by simp⟩ (Wk.refl _) rfl ?_ ?_
        · rintro G2 bs2 st kv' x' hx' ⟨hl', hI'⟩
          obtain ⟨hin', ex'⟩ := List.getElem?_eq_some_iff.mp hx'
          rw [List.getElem_range'] at ex'
          rw [List.length_range'] at hin'
          have ex' : x' = st := by omega
          subst ex'
          dsimp only
          refine go_when (b := decide (0 < wt m (i + 1) x')) (et_test (ev_gtN (ev_ixL (x := wt m (i + 1) x') (ev_var rfl) (ev_var rfl) (map_rng_at hin')) ev_nat0)) (fun hp => ?_) (fun hp => ?_)
          · have hp := of_decide_eq_true hp
            refine go_kput rfl rfl ev_bl (ev_var rfl) (by omega) ?_
            refine go_turn (put kv' x' true) ⟨Nat.le_trans (put_len _ _ _) (by omega), fun s hs => ?_⟩ (.same (.same (.same (.same (.same (.same (.same (.same (.no (.same (.same (.same (.same .nil))))))))))))) rfl
            rw [look_put]
            by_cases e : s = x'
            · subst e
              rw [if_pos rfl]
              exact ⟨fun _ => .inr ⟨by omega, by omega⟩, fun _ => rfl⟩
            · rw [if_neg e, hI' s hs]
              constructor
              · rintro (h | ⟨h, h2⟩)
                · exact .inl h
                · exact .inr ⟨by omega, h2⟩
              · rintro (h | ⟨h, h2⟩)
                · exact .inl h
                · exact .inr ⟨by omega, h2⟩
          · have hp := of_decide_eq_false hp
            refine go_turn kv' ⟨by omega, fun s hs => ?_⟩ (.same (.same (.same (.same (.same (.same (.same (.same (.no (.same (.same (.same (.same .nil))))))))))))) rfl
            rw [hI' s hs]
            constructor
            · rintro (h | ⟨h, h2⟩)
              · exact .inl h
              · exact .inr ⟨by omega, h2⟩
            · rintro (h | ⟨h, h2⟩)
              · exact .inl h
              · by_cases e : s = x'
                · subst e
                  omega
                · exact .inr ⟨by omega, h2⟩
        · rintro kv' ⟨hl', hI'⟩
          rw [List.length_range'] at hl' hI'
          refine go_forget (M := [some (oDK rBool kv')]) rfl ?_
          refine go_turn (kv', wtL m (i + 1), fsL m (i + 1)) ⟨by omega, ⟨by show kv'.length ≤ 8 * (i + 1); omega, fun s hs => ?_⟩, rfl, rfl⟩ (.same (.same (.same (.same (.same (.same (.no (.no (.same (.same (.same (.same (.same .nil))))))))))))) rfl
          rw [hI' s hs, hC.iff s hs]
          constructor
          · rintro (⟨j, a, b, c⟩ | ⟨_, h2⟩)
            · exact ⟨j, a, by omega, c⟩
            · exact ⟨i + 1, hge, Nat.le_refl _, h2⟩
          · rintro ⟨j, a, b, c⟩
            by_cases e : j = i + 1
            · subst e
              exact .inr ⟨hs, c⟩
            · exact .inl ⟨j, a, by omega, c⟩
      · have hge := of_decide_eq_false hge
        refine go_forget (M := [some (oDK rBool kv)]) rfl ?_
        refine go_turn (kv, wtL m (i + 1), fsL m (i + 1)) ⟨by omega, ⟨by have := hC.len; show kv.length ≤ 8 * (i + 1); omega, fun s hs => ?_⟩, rfl, rfl⟩ (.same (.same (.same (.same (.same (.same (.no (.no (.no (.no (.same (.same (.same .nil))))))))))))) rfl
        rw [hC.iff s hs]
        constructor
        · rintro ⟨j, a, b, c⟩
          omega
        · rintro ⟨j, a, b, c⟩
          omega
  · rintro ⟨kv, bf, fd⟩ ⟨hi, hC, hb, hf⟩
    rw [List.length_range'] at hC hb hf
    dsimp only at hC hb hf ⊢
    subst hb hf
    have e2 : 2 * m.1.length + 1 - 1 = 2 * m.1.length := by omega
    rw [e2] at hC ⊢
    refine go_ret hq ?_
    have hval : ∀ s, s < m.1.length → B.fin (fun k => wt m k s) = if (look kv s).isSome = true then none else some (sumTo (fun j => wt m j s) (2 * m.1.length + 1)) := fun s hs => by
      by_cases hl : (look kv s).isSome = true
      · rw [if_pos hl]
        obtain ⟨j, a, b, c⟩ := (hC.iff s hs).mp hl
        exact fin_none.mpr fun hd => c (wt_dies o hd j a)
      · rw [if_neg hl]
        have hz : ∀ j, m.1.length ≤ j → j < 2 * m.1.length → wt m j s = 0 := fun j h1 h2 => Classical.byContradiction fun hne => hl ((hC.iff s hs).mpr ⟨j, h1, by omega, hne⟩)
        exact fin_of fun k hk => wt_window o hz k (by omega)
    refine ev_eq (ev_lc0 (T := rOpt rNat) (fun s => if (look kv s).isSome = true then none else some (sumTo (fun j => wt m j s) (2 * m.1.length + 1))) (it_range1 (ev_var rfl) (by omega)) (tg_name 8) (by simp) (by rw [List.length_range']; omega) fun s hs mm => ?_) ?_
    · rw [List.mem_range'_1] at hs
      exact ev_ifx (et_B (ev_kin rfl rfl (ev_var rfl))) (fun _ => ev_optN) fun _ => ev_optS nn_nat (ev_ixL (ev_var rfl) (ev_var rfl) (map_rng_at (by omega)))
    · unfold countsF
      refine List.map_congr_left fun s hs => ?_
      rw [List.mem_range'_1] at hs
      exact (hval s (by omega)).symm
end
end B
namespace B
open PySem L2
section
variable {P : Program} {w : World} {A : Ad} {K : PySem.W.Frag} {mg : Str → Option Value} {base : Heap}
abbrev spNum {P : Program} {w : World} {κ : Type} [DecidableEq κ] (D : XD P w κ) : Sp := prm (fun xs : List κ => [.is (rList D.Rk) xs]) (fun xs => xs.length ≤ 1000) (fun _ => rList rNat) numG
abbrev sp_numbered (P : Program) (w : World) : Sp := spOr (spNum (xdL P w)) (spNum (xdN P w))
theorem eo_xL {rs : RS} {S : Sl} {M : Mo} : EvO rs (tXNewL P w) S M ((xdL P w).O []) := fun H0 G0 H G as σ Z Q q => fun p hp => q p _ H G Z (Same.refl G) hp rfl
theorem eo_xN {rs : RS} {S : Sl} {M : Mo} : EvO rs (tXNewN P w) S M ((xdN P w).O []) := fun H0 G0 H G as σ Z Q q => fun p hp => q p _ H G Z (Same.refl G) hp ⟨[], rfl, .nil⟩
theorem addNew_le {κ : Type} [DecidableEq κ] (xs : List κ) : (addNew [] xs).length ≤ xs.length := dcnt_le xs
theorem ok_numbered (T : Txt A K mg) : FnOk P w K mg base CX0 1 A.f_numbered A.d_numbered ps_numbered (sp_numbered P w) := by
  refine T.F_numbered.ok sc_numbered (fun vs H Q E h => h.elim (fun h => prm_len (fun _ => rfl) h) fun h => prm_len (fun _ => rfl) h) (fun cdv Ar outer s H vs Q E hr h => ?_)
  rcases h with h | h
  · refine ⟨_, (pss_cons (ps_par (i := 1) (j := 2) (by rfl) sc_numbered.nd rfl rfl (by decide) rfl rfl (pa_cons (pe_xnewL (P := P) (w := w) rfl rfl) (pa_cons (pe_lst pa_nil) pa_nil)) (by rfl))
      (pss_cons (ps_for PassesOwn.never rfl (pi_listK (K := K) rfl (pv 0)) (pg_name (i := 3) sc_numbered.nd rfl (by first | exact Or.inl rfl | exact Or.inr rfl)) (pss_cons (ps_if (pt_cmp (pc_xnotin (P := P) (w := w) rfl rfl hr.units (pv 3) (pv 1))) (pss_one (ps_xput (P := P) (w := w) rfl rfl hr.units (pv 1) (pv 3) (pe_callB (cr_xlen (P := P) (w := w) rfl rfl) (by rfl) T.n_len PySem.boot_len (pa_cons (pv 1) pa_nil)) rfl)) pss_nil)
      (pss_one (ps_expr (pe_bm PySem.F.plainAttrs_list PySem.F.slot_list_append PySem.F.type_list_append mt_append (pv 2) (pa_cons (pe_xget (P := P) (w := w) rfl rfl hr.units (pv 1) (pv 3) (fun _ _ => rfl)) pa_nil))))))
      (pss_one (ps_ret (pv 2))))), go_start h ?_⟩
    rintro xs H0 G0 hl hq
    refine q_par (eg_own (eo_xL (P := P) (w := w))) (eg_own (eo_nil (R := rNat))) ?_
    refine q_for (σt := List Bool × List Nat) (fun s => [.is (rList (xdL P w).Rk) xs, .own 0, .own 1, .no]) (fun s => [some ((xdL P w).O s.1.zipIdx), some (oList rNat s.2)]) (fun i s => s.1 = addNew [] (xs.take i) ∧ s.2 = (xs.take i).map fun x => ixOf s.1 x) ([], [])
      (it_list (ev_var rfl)) (tg_name 3) ⟨rfl, rfl⟩ (Wk.refl _) rfl ?_ ?_
    · rintro G1 bs i ⟨ks, fd⟩ x hx ⟨h1, h2⟩
      dsimp only at h1 h2 ⊢
      have hks : ks.length ≤ 1000 := by
        rw [h1]
        refine Nat.le_trans (addNew_le _) ?_
        rw [List.length_take]
        omega
      have hfd : fd.length ≤ 1000 := by
        rw [h2, List.length_map, List.length_take]
        omega
      have hk' : ∀ y ∈ xs.take i, y ∈ ks := fun y hy => by
        rw [h1]
        exact (mem_addNew _ _).mpr (.inr hy)
      refine q_when (b := !inB ks x) (et_eq (et_B (ev_xnin (D := xdL P w) rfl rfl (ev_var rfl))) (look_tab_none' ks x)) (fun hn => ?_) (fun hn => ?_)
      · have hn : x ∉ ks := inB_not hn
        refine go_xput (D := xdL P w) (n := ks.length) rfl rfl (ev_eq (ev_xlen (D := xdL P w) rfl rfl) (by simp)) (ev_var rfl) (by rw [look_tab, if_neg hn]) (by rw [List.length_zipIdx]; omega) ?_
        rw [← tab_snoc]
        have e1 : ks ++ [x] = addNew [] (xs.take (i + 1)) := by
          rw [take_snoc hx, addNew_snoc, ← h1, if_neg hn]
        refine go_app (x := ixOf (ks ++ [x]) x) rfl rfl (by omega) (ev_xget (D := xdL P w) rfl rfl (ev_var rfl) (look_tab_in' (by simp))) ?_
        refine go_turn (ks ++ [x], fd ++ [ixOf (ks ++ [x]) x]) ⟨e1, ?_⟩ (.same (.same (.same (.no .nil)))) rfl
        show fd ++ _ = _
        rw [take_snoc hx, List.map_append, List.map_singleton, h2]
        congr 1
        exact List.map_congr_left fun y hy => (ix_app (hk' y hy)).symm
      · have hn : x ∈ ks := inB_is hn
        have e1 : ks = addNew [] (xs.take (i + 1)) := by
          rw [take_snoc hx, addNew_snoc, ← h1, if_pos hn]
        refine go_app (x := ixOf ks x) rfl rfl (by omega) (ev_xget (D := xdL P w) rfl rfl (ev_var rfl) (look_tab_in' hn)) ?_
        refine go_turn (ks, fd ++ [ixOf ks x]) ⟨e1, ?_⟩ (.same (.same (.same (.no .nil)))) rfl
        show fd ++ _ = _
        rw [take_snoc hx, List.map_append, List.map_singleton, h2]
    · rintro ⟨ks, fd⟩ ⟨h1, h2⟩
      rw [List.take_length] at h1 h2
      dsimp only at h1 h2 ⊢
      refine go_frzL (i := 2) rfl rfl (go_ret hq (ev_eq (ev_var rfl) ?_))
      rw [h2, h1]
      rfl
  · refine ⟨_, (pss_cons (ps_par (i := 1) (j := 2) (by rfl) sc_numbered.nd rfl rfl (by decide) rfl rfl (pa_cons (pe_xnewN (P := P) (w := w) rfl rfl) (pa_cons (pe_lst pa_nil) pa_nil)) (by rfl))
      (pss_cons (ps_for PassesOwn.never rfl (pi_listK (K := K) rfl (pv 0)) (pg_name (i := 3) sc_numbered.nd rfl (by first | exact Or.inl rfl | exact Or.inr rfl)) (pss_cons (ps_if (pt_cmp (pc_xnotin (P := P) (w := w) rfl rfl hr.units (pv 3) (pv 1))) (pss_one (ps_xput (P := P) (w := w) rfl rfl hr.units (pv 1) (pv 3) (pe_callB (cr_xlen (P := P) (w := w) rfl rfl) (by rfl) T.n_len PySem.boot_len (pa_cons (pv 1) pa_nil)) rfl)) pss_nil)
      (pss_one (ps_expr (pe_bm PySem.F.plainAttrs_list PySem.F.slot_list_append PySem.F.type_list_append mt_append (pv 2) (pa_cons (pe_xget (P := P) (w := w) rfl rfl hr.units (pv 1) (pv 3) (fun _ _ => rfl)) pa_nil))))))
      (pss_one (ps_ret (pv 2))))), go_start h ?_⟩
    rintro xs H0 G0 hl hq
    refine q_par (eg_own (eo_xN (P := P) (w := w))) (eg_own (eo_nil (R := rNat))) ?_
    refine q_for (σt := List KN × List Nat) (fun s => [.is (rList (xdN P w).Rk) xs, .own 0, .own 1, .no]) (fun s => [some ((xdN P w).O s.1.zipIdx), some (oList rNat s.2)]) (fun i s => s.1 = addNew [] (xs.take i) ∧ s.2 = (xs.take i).map fun x => ixOf s.1 x) ([], [])
      (it_list (ev_var rfl)) (tg_name 3) ⟨rfl, rfl⟩ (Wk.refl _) rfl ?_ ?_
    · rintro G1 bs i ⟨ks, fd⟩ x hx ⟨h1, h2⟩
      dsimp only at h1 h2 ⊢
      have hks : ks.length ≤ 1000 := by
        rw [h1]
        refine Nat.le_trans (addNew_le _) ?_
        rw [List.length_take]
        omega
      have hfd : fd.length ≤ 1000 := by
        rw [h2, List.length_map, List.length_take]
        omega
      have hk' : ∀ y ∈ xs.take i, y ∈ ks := fun y hy => by
        rw [h1]
        exact (mem_addNew _ _).mpr (.inr hy)
      refine q_when (b := !inB ks x) (et_eq (et_B (ev_xnin (D := xdN P w) rfl rfl (ev_var rfl))) (look_tab_none' ks x)) (fun hn => ?_) (fun hn => ?_)
      · have hn : x ∉ ks := inB_not hn
        refine go_xput (D := xdN P w) (n := ks.length) rfl rfl (ev_eq (ev_xlen (D := xdN P w) rfl rfl) (by simp)) (ev_var rfl) (by rw [look_tab, if_neg hn]) (by rw [List.length_zipIdx]; omega) ?_
        rw [← tab_snoc]
        have e1 : ks ++ [x] = addNew [] (xs.take (i + 1)) := by
          rw [take_snoc hx, addNew_snoc, ← h1, if_neg hn]
        refine go_app (x := ixOf (ks ++ [x]) x) rfl rfl (by omega) (ev_xget (D := xdN P w) rfl rfl (ev_var rfl) (look_tab_in' (by simp))) ?_
        refine go_turn (ks ++ [x], fd ++ [ixOf (ks ++ [x]) x]) ⟨e1, ?_⟩ (.same (.same (.same (.no .nil)))) rfl
        show fd ++ _ = _
        rw [take_snoc hx, List.map_append, List.map_singleton, h2]
        congr 1
        exact List.map_congr_left fun y hy => (ix_app (hk' y hy)).symm
      · have hn : x ∈ ks := inB_is hn
        have e1 : ks = addNew [] (xs.take (i + 1)) := by
          rw [take_snoc hx, addNew_snoc, ← h1, if_pos hn]
        refine go_app (x := ixOf ks x) rfl rfl (by omega) (ev_xget (D := xdN P w) rfl rfl (ev_var rfl) (look_tab_in' hn)) ?_
        refine go_turn (ks, fd ++ [ixOf ks x]) ⟨e1, ?_⟩ (.same (.same (.same (.no .nil)))) rfl
        show fd ++ _ = _
        rw [take_snoc hx, List.map_append, List.map_singleton, h2]
    · rintro ⟨ks, fd⟩ ⟨h1, h2⟩
      rw [List.take_length] at h1 h2
      dsimp only at h1 h2 ⊢
      refine go_frzL (i := 2) rfl rfl (go_ret hq (ev_eq (ev_var rfl) ?_))
      rw [h2, h1]
      rfl
theorem marks_mkF (m : Mc) : marksF m = mkF m := rfl
abbrev sgS (m : Mc) : List SS := [.is rSteps m.1, .is (rList rBool) (mkF m)]
abbrev sp_classes_by : Sp := prm sgS Ok1 (fun m => rSome (rList rNat) (ClsP m)) (fun _ => ())
structure ClI (m : Mc) (f : List Nat) (many : Nat) : Prop where
  num : ∀ v ∈ f, v < dcnt f
  on : ∀ c, c < dcnt f → c ∈ f
  stg : ∃ k, Stg m k f ∧ (many = 0 ∨ ∃ k' g, k = k' + 1 ∧ Stg m k' g ∧ many = dcnt g)
theorem numG_self {κ : Type} [DecidableEq κ] (xs : List κ) : (∀ v ∈ numG xs, v < dcnt (numG xs)) ∧ ∀ c, c < dcnt (numG xs) → c ∈ numG xs := by
  rw [dcnt_num]
  exact ⟨numG_lt, fun c hc => numG_on hc⟩
theorem ClI.pos {L : Nat} {m : Mc} (o : OkM L m) {f : List Nat} {many : Nat} (I : ClI m f many) : 1 ≤ dcnt f ∧ dcnt f ≤ 8 ∧ f.length = m.1.length := by
  obtain ⟨k, S, _⟩ := I.stg
  have hl := S.len
  have h1 := o.pos
  have h8 := o.le8
  refine ⟨dcnt_pos fun e => ?_, Nat.le_trans (dcnt_le f) (by omega), hl⟩
  rw [e] at hl
  simp at hl
  omega
theorem ok_classes_by (T : Txt A K mg) : FnOk P w K mg base CX0 2 A.f_classes_by A.d_classes_by ps_classes_by sp_classes_by := by
  refine T.F_classes_by.ok sc_classes_by (fun vs H Q E h => prm_len (fun _ => rfl) h) (fun cdv Ar outer s H vs Q E hr h => ⟨_, (pss_cons (ps_asg (pe_tup (pa_cons (pe_call (ok_numbered T) (hr.mono (by decide)) (by rfl) T.g_numbered T.F_numbered.kp T.b_numbered .nil pass0 (pa_cons (pv 1) pa_nil)) (pa_cons pe_int pa_nil))) (pg_tupK (K := K) rfl (by rfl) (pgs_cons (pg_name (i := 2) sc_classes_by.nd rfl (by first | exact Or.inl rfl | exact Or.inr rfl)) (pgs_cons (pg_name (i := 3) sc_classes_by.nd rfl (by first | exact Or.inl rfl | exact Or.inr rfl)) pgs_nil))))
      (pss_cons (ps_while PassesOwn.never (pt_cmpR op_lt (pv 3) (pe_op op_add (pe_callB (cr_maxK (K := K) rfl rfl) (by rfl) T.n_max (by decide +kernel) (pa_cons (pv 2) pa_nil)) pe_int) (nomark _)) (pss_cons (ps_set (i := 3) sc_classes_by.nd rfl (by first | exact Or.inl rfl | exact Or.inr rfl) (pe_op op_add (pe_callB (cr_maxK (K := K) rfl rfl) (by rfl) T.n_max (by decide +kernel) (pa_cons (pv 2) pa_nil)) pe_int))
      (pss_one (ps_set (i := 2) sc_classes_by.nd rfl (by first | exact Or.inl rfl | exact Or.inr rfl) (pe_call (ok_numbered T) (hr.mono (by decide)) (by rfl) T.g_numbered T.F_numbered.kp T.b_numbered .nil pass0 (pa_cons (pe_lc (own := [("at", 4), ("row", 5)]) (g := gTup K 2 (gCons (gName 4) (gCons (gName 5) gNil))) (by rfl) sc_classes_by.nd (pi_enumTK (K := K) rfl (by rfl) T.n_enumerate (pa_cons (pv 0) pa_nil)) (blkOk_by (own := [("at", 4), ("row", 5)]) (N := nm_classes_by) (sc := defScope st_classes_by) (by decide +kernel)) (fun _ _ _ _ _ => (pg_tupK (K := K) rfl (by rfl) (pgs_cons (pg_name (i := 4) sc_classes_by.nd rfl (by first | exact Or.inl rfl | exact Or.inr rfl)) (pgs_cons (pg_name (i := 5) sc_classes_by.nd rfl (by first | exact Or.inl rfl | exact Or.inr rfl)) pgs_nil)))) (fun _ _ _ _ _ => pts_nil) (fun _ _ _ _ _ => (pe_tup (pa_cons (pe_ix (ix_listK (K := K) rfl) (pv 2) (pv 4) (fun _ _ => rfl)) (pa_cons (pe_callTy (call_tuple_ofK (K := K) rfl) (by rfl) T.n_tuple (by decide +kernel) (pa_cons (pe_lc (own := [("goal", 6)]) (g := gName 6) (by rfl) sc_classes_by.nd (pi_tupK (K := K) rfl (pv 5)) (blkOk_by (own := [("goal", 6)]) (N := nm_classes_by) (sc := _) rfl) (fun _ _ _ _ _ => (pg_name (i := 6) sc_classes_by.nd rfl (by first | exact Or.inl rfl | exact Or.inr rfl))) (fun _ _ _ _ _ => pts_nil) (fun _ _ _ _ _ => (pe_ix (ix_listK (K := K) rfl) (pv 2) (pv 6) (fun _ _ => rfl)))) pa_nil)) pa_nil))))) pa_nil))))))
      (pss_one (ps_ret (pv 2))))), go_start h ?_⟩)
  rintro m H0 G0 ⟨L, o, l3⟩ hq
  have h8 := o.le8
  have h1 := o.pos
  refine q_parN (n := 2) (S := [.is rSteps m.1, .is (rList rBool) (mkF m), .no, .no, .no, .no, .no]) (ss := [.is (rList rNat) (numG (mkF m)), .is rNat 0]) [2, 3] rfl rfl (by decide) (egs_cons (eg_ev (ev_callL (sp2 := spNum (xdN P w)) (mkF m) (ea_cons (ev_var rfl) ea_nil) (by simp [mkF]; omega))) (egs_cons (eg_ev ev_nat0) egs_nil)) ?_
  have hmax : ∀ {S : Sl} {M : Mo} {f : List Nat} {many : Nat}, ClI m f many → S[2]? = some (.is (rList rNat) f) → Ev none (tOp (rI0 fun i j => .int (i + j)) (tCB (rMax K) (tCons (tVar 2) tNil)) (tC (.int 1))) S M rNat (dcnt f) := fun {S M f many} I hS => by
    have hp := (I.pos o).1
    refine ev_eq (ev_addN (ev_maxN (m := dcnt f - 1) (ev_var hS) (I.on _ (by omega)) fun z hz => ?_) ev_nat1) (by omega)
    have := I.num z hz
    omega
  refine q_while (σt := List Nat × Nat) (fun s => [.is rSteps m.1, .is (rList rBool) (mkF m), .is (rList rNat) s.1, .is rNat s.2, .no, .no, .no]) (fun s => []) (fun s => ClI m s.1 s.2) (fun s => 9 - s.2) (fun s => decide (s.2 < dcnt s.1)) (numG (mkF m), 0)
    ⟨(numG_self _).1, (numG_self _).2, 0, stg_zero m, .inl rfl⟩ (Wk.refl _) rfl ?_ ?_ ?_
  · rintro ⟨f, many⟩ I
    exact et_test (ev_ltN (ev_var rfl) (hmax I rfl))
  · rintro ⟨f, many⟩ I hb
    have hb : many < dcnt f := of_decide_eq_true hb
    obtain ⟨p1, p8, hl⟩ := I.pos o
    refine q_asg (eg_ev (hmax I rfl)) ?_
    have hfat : ∀ a, a < m.1.length → f[a]? = some (f.getD a 0) := fun a ha => by
      have hl : f.length = m.1.length := hl
      rw [List.getD_eq_getElem?_getD, List.getElem?_eq_getElem (by omega)]
      rfl
    refine go_asg (eg_ev (ev_callR (sp2 := spNum (xdL P w)) (refi m f) (ea_cons (ev_eq (ev_lc0 (T := rPr rNat (rTup rNat)) (fun e => (f.getD e.1 0, e.2.map fun g => f.getD g 0)) (it_enumT (R := rRow) (ev_var rfl)) (tg_pr 4 5) (by simp) (by rw [zipI_len]; omega) fun e he mm => ?_) ?_) ea_nil) (by simp [refi]; omega))) ?_
    · obtain ⟨i, hi⟩ := List.mem_iff_getElem?.mp he
      rw [zipI_at] at hi
      cases hr' : m.1[i]? with
      | none =>
        rw [hr'] at hi
        cases hi
      | some r =>
        rw [hr'] at hi
        cases hi
        have hin := (List.getElem?_eq_some_iff.mp hr').1
        have er : row m i = r := by
          have := row_at hin
          rw [hr'] at this
          exact (Option.some.inj this).symm
        refine ev_pr (ev_ixL (ev_var rfl) (ev_var rfl) (hfat i hin)) (ev_tupOf (ev_lc0 (T := rNat) (fun g => f.getD g 0) (it_tup (R := rNat) (ev_var rfl)) (tg_name 6) (by simp) ?_ fun g hg mm2 => ev_ixL (ev_var rfl) (ev_var rfl) (hfat g ?_)))
        · have := o.row_len hin
          rw [er] at this
          show r.length ≤ _
          omega
        · exact o.row_lt hin (by rw [er]; exact hg)
    · unfold refi
      refine map_rng_ext (by simp [zipI_len]) fun k hk => ?_
      rw [List.getElem?_map, zipI_at, row_at hk]
      rfl
    · refine go_turn (numG (refi m f), dcnt f) ⟨?_, ?_⟩ (.same (.same (.same (.same (.same (.same (.same .nil))))))) rfl
      · obtain ⟨k, S, _⟩ := I.stg
        exact ⟨(numG_self _).1, (numG_self _).2, k + 1, stg_step o S, .inr ⟨k, f, rfl, S, rfl⟩⟩
      · show 9 - dcnt f < 9 - many
        have p8 : dcnt f ≤ 8 := p8
        omega
  · rintro ⟨f, many⟩ I hb
    have hb : ¬ many < dcnt f := of_decide_eq_false hb
    obtain ⟨p1, p8, hl⟩ := I.pos o
    have p1 : 1 ≤ dcnt f := p1
    refine go_ret hq (ev_someI (ev_var rfl) ?_)
    obtain ⟨k, S, hm⟩ := I.stg
    rcases hm with hm | ⟨k', g, rfl, Sg, hm⟩
    · have hm : many = 0 := hm
      omega
    · have hm : many = dcnt g := hm
      exact cls_end o Sg S (by show dcnt f ≤ dcnt g; omega)
end
end B
namespace B
open PySem L2
section
variable {P : Program} {w : World} {A : Ad} {K : PySem.W.Frag} {mg : Str → Option Value} {base : Heap}
noncomputable abbrev sp_shrunk : Sp := prm sgS Ok1 (fun _ => rPr rSteps (rList rBool)) (fun m => ((leastM m).1, mkF (leastM m)))
theorem look_some_in {κ : Type} [DecidableEq κ] {ks : List κ} {k : κ} : (look ks.zipIdx k).isNone = !inB ks k := look_tab_none ks k
theorem mk_at {m : Mc} {s : Nat} (h : s < m.1.length) : (mkF m)[s]? = some (decide (s ∈ m.2)) := rmap_at h
theorem ok_shrunk (T : Txt A K mg) : FnOk P w K mg base CX0 3 A.f_shrunk A.d_shrunk ps_shrunk sp_shrunk := by
  refine T.F_shrunk.ok sc_shrunk (fun vs H Q E h => prm_len (fun _ => rfl) h) (fun cdv Ar outer s H vs Q E hr h => ⟨_, (pss_cons (ps_set (i := 2) sc_shrunk.nd rfl (by first | exact Or.inl rfl | exact Or.inr rfl) (pe_call (ok_classes_by T) (hr.mono (by decide)) (by rfl) T.g_classes_by T.F_classes_by.kp T.b_classes_by .nil pass0 (pa_cons (pv 0) (pa_cons (pv 1) pa_nil))))
      (pss_cons (ps_par (i := 3) (j := 4) (by rfl) sc_shrunk.nd rfl rfl (by decide) rfl rfl (pa_cons (pe_lst (pa_cons pe_int pa_nil)) (pa_cons (pe_disp (pps_cons (pe_ix (ix_listK (K := K) rfl) (pv 2) pe_int (fun _ _ => rfl)) pe_int pps_nil) (by rfl) (by rfl) (fun z => by cases z) (by decide)) pa_nil)) (by rfl))
      (pss_cons (ps_par (i := 5) (j := 6) (by rfl) sc_shrunk.nd rfl rfl (by decide) rfl rfl (pa_cons (pe_lst pa_nil) (pa_cons (pe_lst pa_nil) pa_nil)) (by rfl))
      (pss_cons (ps_while PassesOwn.never (pt_cmpR op_lt (pe_callB (call_len_seqK (K := K) rfl) (by rfl) T.n_len PySem.boot_len (pa_cons (pv 5) pa_nil)) (pe_callB (call_len_seqK (K := K) rfl) (by rfl) T.n_len PySem.boot_len (pa_cons (pv 3) pa_nil)) (nomark _)) (pss_cons (ps_par (i := 7) (j := 8) (by rfl) sc_shrunk.nd rfl rfl (by decide) rfl rfl (pa_cons (pe_ix (ix_listK (K := K) rfl) (pv 3) (pe_callB (call_len_seqK (K := K) rfl) (by rfl) T.n_len PySem.boot_len (pa_cons (pv 5) pa_nil)) (fun _ _ => rfl)) (pa_cons (pe_lst pa_nil) pa_nil)) (by rfl))
      (pss_cons (ps_for PassesOwn.never rfl (pi_tupK (K := K) rfl (pe_ix (ix_tupK (K := K) rfl) (pv 0) (pv 7) (fun _ _ => rfl))) (pg_name (i := 9) sc_shrunk.nd rfl (by first | exact Or.inl rfl | exact Or.inr rfl)) (pss_cons (ps_if (pt_cmp (pc_dnotin (hu_of hr) (pe_ix (ix_listK (K := K) rfl) (pv 2) (pv 9) (fun _ _ => rfl)) (pv 4))) (pss_cons (ps_dput (hu_of hr) (pv 4) (pe_ix (ix_listK (K := K) rfl) (pv 2) (pv 9) (fun _ _ => rfl)) (pe_callB (call_len_seqK (K := K) rfl) (by rfl) T.n_len PySem.boot_len (pa_cons (pv 3) pa_nil)) rfl)
      (pss_one (ps_expr (pe_bm PySem.F.plainAttrs_list PySem.F.slot_list_append PySem.F.type_list_append mt_append (pv 3) (pa_cons (pv 9) pa_nil))))) pss_nil)
      (pss_one (ps_expr (pe_bm PySem.F.plainAttrs_list PySem.F.slot_list_append PySem.F.type_list_append mt_append (pv 8) (pa_cons (pe_dget (hu_of hr) (pv 4) (pe_ix (ix_listK (K := K) rfl) (pv 2) (pv 9) (fun _ _ => rfl)) (fun _ _ => rfl)) pa_nil))))))
      (pss_cons (ps_expr (pe_bm PySem.F.plainAttrs_list PySem.F.slot_list_append PySem.F.type_list_append mt_append (pv 5) (pa_cons (pe_callTy (call_tuple_ofK (K := K) rfl) (by rfl) T.n_tuple (by decide +kernel) (pa_cons (pv 8) pa_nil)) pa_nil)))
      (pss_one (ps_expr (pe_bm PySem.F.plainAttrs_list PySem.F.slot_list_append PySem.F.type_list_append mt_append (pv 6) (pa_cons (pe_ix (ix_listK (K := K) rfl) (pv 1) (pv 7) (fun _ _ => rfl)) pa_nil))))))))
      (pss_one (ps_ret (pe_tup (pa_cons (pe_callTy (call_tuple_ofK (K := K) rfl) (by rfl) T.n_tuple (by decide +kernel) (pa_cons (pv 5) pa_nil)) (pa_cons (pv 6) pa_nil))))))))), go_start h ?_⟩)
  rintro m H0 G0 ⟨L, o, l3⟩ hq
  have h8 := o.le8
  have h1 := o.pos
  refine q_asgP (p := ClsP m) (R := rList rNat) (ev_call m (ea_cons (ev_var rfl) (ea_cons (ev_var rfl) ea_nil)) ⟨L, o, l3⟩) fun f hf => ?_
  have hlen := hf.len
  have hfat : ∀ a, a < m.1.length → f[a]? = some (f.getD a 0) := fun a ha => by
    rw [List.getD_eq_getElem?_getD, List.getElem?_eq_getElem (by omega)]
    rfl
  obtain ⟨cl, hcl⟩ : ∃ cl : Nat → Nat, cl = fun s => f.getD s 0 := ⟨_, rfl⟩
  have hcat : ∀ a, a < m.1.length → f[a]? = some (cl a) := fun a ha => by rw [hcl]; exact hfat a ha
  have hkey : ∀ a b, a < m.1.length → b < m.1.length → (cl a = cl b ↔ canon m a = canon m b) := fun a b ha hb => by
    rw [hcl, canon_congr o ha hb]
    exact hf.iff a b ha hb
  have hidx : ∀ {x : Nat}, x < m.1.length → ∀ l : List Nat, (∀ y ∈ l, y < m.1.length) → ixOf (l.map cl) (cl x) = ixOf (l.map (canon m)) (canon m x) ∧ (cl x ∈ l.map cl ↔ canon m x ∈ l.map (canon m)) := fun hx l hl => idx_two (V := fun s => s < m.1.length) hkey hx l hl
  clear hfat
  refine q_par (eg_own (eo_one (R := rNat) (x := 0) ev_nat0)) (eg_disp1 (R := rNat) (k := cl 0) (x := 0) (fun mm => ev_ixL (ev_var rfl) ev_nat0 (hcat 0 h1)) (fun mm => ev_nat0)) ?_
  refine q_par (eg_own (eo_nil (R := rRow))) (eg_own (eo_nil (R := rBool))) ?_
  refine q_while (σt := List Nat × Nat) (fun s => [.is rSteps m.1, .is (rList rBool) (mkF m), .is (rList rNat) f, .own 0, .own 1, .own 2, .own 3, .no, .no, .no])
    (fun s => [some (oList rNat s.1), some (oDK rNat (s.1.map cl).zipIdx), some (oList rRow ((s.1.take s.2).map (lnRow m s.1))), some (oList rBool ((s.1.take s.2).map fun s => decide (s ∈ m.2)))])
    (fun s => LnI m s.1 s.2 ∧ LnC m s.1 s.2) (fun s => 65 - s.2) (fun s => decide (s.2 < s.1.length)) ([0], 0) ⟨ln_start o, fun s hs => by simp at hs⟩ (Wk.refl _) rfl ?_ ?_ ?_
  · rintro ⟨l, k⟩ ⟨I, _⟩
    have hle : k ≤ l.length := I.le
    refine et_eq (et_test (ev_ltN (ev_lenO rfl rfl) (ev_lenO rfl rfl))) ?_
    rw [List.length_map, List.length_take, Nat.min_eq_left hle]
  · rintro ⟨l, k⟩ ⟨I, C⟩ hb
    dsimp only at I C hb ⊢
    have hk : k < l.length := of_decide_eq_true hb
    have h8' := I.le8 o
    have hx : l[k]? = some l[k] := List.getElem?_eq_getElem hk
    generalize l[k] = here at hx
    have hh : here < m.1.length := I.inn _ (List.mem_of_getElem? hx)
    have hlt : ((l.take k).map (lnRow m l)).length = k := by rw [List.length_map, List.length_take]; omega
    refine q_par (eg_ev (ev_ixO (x := here) rfl rfl (ev_lenO rfl rfl) (by rw [hlt]; exact hx))) (eg_own (eo_nil (R := rNat))) ?_
    refine q_for (σt := List Nat × List Nat) (fun s => [.is rSteps m.1, .is (rList rBool) (mkF m), .is (rList rNat) f, .own 0, .own 1, .own 2, .own 3, .is rNat here, .own 4, .no])
      (fun s => [some (oList rNat s.1), some (oDK rNat (s.1.map cl).zipIdx), some (oList rRow ((l.take k).map (lnRow m l))), some (oList rBool ((l.take k).map fun s => decide (s ∈ m.2))), some (oList rNat s.2)])
      (fun i s => LnJ m l here i s.1 ∧ (∀ g ∈ (row m here).take i, canon m g ∈ s.1.map (canon m)) ∧ s.2 = ((row m here).take i).map fun g => ixOf (s.1.map (canon m)) (canon m g)) (l, [])
      (it_tup (R := rNat) (ev_ixT (ev_var rfl) (ev_var rfl) (row_at hh))) (tg_name 9) ⟨lnj_start l here I.inn, fun g hg => by simp at hg, rfl⟩ (Wk.refl _) rfl ?_ ?_
    · rintro G1 bs i ⟨l', rw'⟩ g hg ⟨J, hin, hrw⟩
      dsimp only at J hin hrw ⊢
      have hgl : g < m.1.length := o.row_lt hh (List.mem_of_getElem? hg)
      have h8'' := J.le8 o I.nd
      have hi8 : i < L := by
        have := (List.getElem?_eq_some_iff.mp hg).1
        rw [o.row_len hh] at this
        exact this
      have hrl : rw'.length ≤ 8 := by
        rw [hrw, List.length_map, List.length_take]
        omega
      obtain ⟨hix, hmem⟩ := hidx hgl l' J.inn
      have gv : ∀ {S : Sl} {M : Mo}, S[2]? = some (.is (rList rNat) f) → S[9]? = some (.is rNat g) → Ev none (tOp (rIxL K) (tVar 2) (tVar 9)) S M rNat (cl g) := fun h1 h2 => ev_ixL (ev_var h1) (ev_var h2) (hcat g hgl)
      refine q_when (b := !inB (l'.map cl) (cl g)) (et_eq (et_B (ev_knin rfl rfl (gv rfl rfl))) look_some_in) (fun hn => ?_) (fun hn => ?_)
      · have hn : cl g ∉ l'.map cl := inB_not hn
        have hn2 : canon m g ∉ l'.map (canon m) := fun q => hn (hmem.mpr q)
        refine q_kput rfl rfl (ev_lenO rfl rfl) (gv rfl rfl) (by rw [List.length_zipIdx, List.length_map]; omega) ?_
        refine go_app rfl rfl (by omega) (ev_var rfl) ?_
        have e1 : put (l'.map cl).zipIdx (cl g) l'.length = ((l' ++ [g]).map cl).zipIdx := by
          have := tab_put hn
          rw [List.length_map] at this
          rw [this, List.map_append]
          rfl
        rw [e1]
        have J2 := J.new hg hgl hn2
        have hgm : canon m g ∈ (l' ++ [g]).map (canon m) := by simp
        obtain ⟨hix2, hmem2⟩ := hidx hgl (l' ++ [g]) J2.inn
        refine go_app (x := ixOf ((l' ++ [g]).map (canon m)) (canon m g)) rfl rfl (by omega) (ev_kget rfl rfl (gv rfl rfl) (by rw [look_tab_in' (hmem2.mpr hgm), hix2])) ?_
        refine go_turn (l' ++ [g], rw' ++ [ixOf ((l' ++ [g]).map (canon m)) (canon m g)]) ⟨J2, ?_, ?_⟩ (.same (.same (.same (.same (.same (.same (.same (.same (.same (.no .nil)))))))))) rfl
        · intro x hx'
          rcases (mem_take_succ hg).mp hx' with q | q
          · rw [List.map_append]
            exact List.mem_append_left _ (hin x q)
          · rw [q]
            exact hgm
        · show rw' ++ _ = _
          have spl : ∀ F : Nat → Nat, ((row m here).take i ++ [g]).map F = ((row m here).take i).map F ++ [F g] := fun F => by simp
          rw [take_snoc hg, spl, hrw]
          congr 1
          refine List.map_congr_left fun x hx' => ?_
          rw [List.map_append]
          exact (ix_app (hin x hx')).symm
      · have hn : cl g ∈ l'.map cl := inB_is hn
        have hn2 : canon m g ∈ l'.map (canon m) := hmem.mp hn
        refine go_app (x := ixOf (l'.map (canon m)) (canon m g)) rfl rfl (by omega) (ev_kget rfl rfl (gv rfl rfl) (by rw [look_tab_in' hn, hix])) ?_
        refine go_turn (l', rw' ++ [ixOf (l'.map (canon m)) (canon m g)]) ⟨J.old hg hn2, ?_, ?_⟩ (.same (.same (.same (.same (.same (.same (.same (.same (.same (.no .nil)))))))))) rfl
        · intro x hx'
          rcases (mem_take_succ hg).mp hx' with q | q
          · exact hin x q
          · rw [q]
            exact hn2
        · show rw' ++ _ = _
          rw [take_snoc hg, List.map_append, List.map_singleton, hrw]
    · rintro ⟨l', rw'⟩ ⟨J, hin, hrw⟩
      dsimp only at J hin hrw ⊢
      rw [List.take_length] at hrw
      have h8'' := J.le8 o I.nd
      obtain ⟨C2, ht, hrows⟩ := C.next hx J
      have erow : rw' = lnRow m l' here := hrw
      refine q_app rfl rfl (by rw [hlt]; omega) (ev_tupOfO (R := rNat) rfl rfl) ?_
      refine go_app rfl rfl (by rw [List.length_map, List.length_take]; omega) (ev_ixL (ev_var rfl) (ev_var rfl) (mk_at hh)) ?_
      refine go_wk (S' := [.is rSteps m.1, .is (rList rBool) (mkF m), .is (rList rNat) f, .own 0, .own 1, .own 2, .own 3, .is rNat here, .no, .no]) (.same (.same (.same (.same (.same (.same (.same (.same (.no (.same .nil)))))))))) ?_
      refine go_forget (M := [some (oList rNat l'), some (oDK rNat (l'.map cl).zipIdx), some (oList rRow ((l.take k).map (lnRow m l) ++ [rw'])), some (oList rBool ((l.take k).map (fun s => decide (s ∈ m.2)) ++ [decide (here ∈ m.2)]))]) (m := some (oList rNat rw')) (S := [.is rSteps m.1, .is (rList rBool) (mkF m), .is (rList rNat) f, .own 0, .own 1, .own 2, .own 3, .is rNat here, .no, .no]) rfl ?_
      refine go_turn (l', k + 1) ⟨⟨I.next o hx (by omega) J, C2⟩, by show 65 - (k + 1) < 65 - k; omega⟩ (.same (.same (.same (.same (.same (.same (.same (.no (.same (.same .nil)))))))))) ?_
      show _ = [_, _, some (oList rRow ((l'.take (k + 1)).map (lnRow m l'))), some (oList rBool ((l'.take (k + 1)).map fun s => decide (s ∈ m.2)))]
      rw [ht, List.map_append, List.map_append, hrows, erow]
      rfl
  · rintro ⟨l, k⟩ ⟨I, C⟩ hb
    dsimp only at I C hb ⊢
    have hk : l.length ≤ k := by
      have := of_decide_eq_false hb
      omega
    rw [List.take_of_length_le hk]
    refine go_frzL (i := 6) rfl rfl (go_ret hq (ev_pr ?_ ?_))
    · show Ev _ _ _ _ _ (leastM m).1
      rw [← I.rows o hk]
      exact ev_tupOfO (R := rRow) rfl rfl
    · show Ev _ _ _ _ _ (mkF (leastM m))
      rw [← I.marks o hk]
      exact ev_var rfl
end
end B
namespace B
open PySem L2
section
variable {P : Program} {w : World} {A : Ad} {K : PySem.W.Frag} {mg : Str → Option Value} {base : Heap}
theorem zipI_rng {α : Type} (f : Nat → α) (n : Nat) : zipI ((List.range' 0 n).map f) = (List.range' 0 n).map fun k => (k, f k) := by
  refine map_rng_ext (by rw [zipI_len]; simp) fun k hk => ?_
  rw [zipI_at, map_rng_at hk]
  rfl
theorem goods_zip {n : Nat} {g : List Nat} (h : OkG n g) : ((zipI ((List.range' 0 n).map fun s => decide (s ∈ g))).filter fun e => e.2).map (fun e => e.1) = g := by
  rw [zipI_rng, List.filter_map, List.map_map]
  show List.map (fun k => k) (List.filter (fun k => decide (k ∈ g)) _) = g
  rw [List.map_id', goods_eq h]
theorem ev_least {rs : RS} {S : Sl} {M : Mo} {E : XK} {C : Addr} {i j a b : Nat} {L : Nat} {m : Mc} (o : OkM L m) (l1 : 1 ≤ L) (l3 : L ≤ 3) (hi : S[i]? = some (.is rSteps (leastM m).1)) (hj : S[j]? = some (.is (rList rBool) (mkF (leastM m)))) (N : Nat) (hl : S.length = N) (hne : a ≠ b) (ha : a < N) (hb : b < N) :
    Ev rs (tMake C (sp_Machine_init C) [] E (tCons (tVar i) (tCons (tCB (rTupF K) (tCons (tLc (iEnum K (tCons (tVar j) tNil)) (gTup K 2 (gCons (gName a) (gCons (gName b) gNil))) (tB (tVar b)) (tVar a) [a, b]) tNil)) tNil))) S M (rMach C) (leastM m) := by
  have h8 := (least_ok o).le8
  refine mach_of (ev_make (leastM m) (ea_cons (ev_var hi) (ea_cons (ev_tupOf (ev_eq (ev_lc (T := rNat) (R := rPr rNat rBool) (fun e => e.2) (fun e => e.1) (it_enum (ev_var hj)) (tg_pr a b) (by simp) (by rw [zipI_len]; simp [mkF]; omega) (fun e he mm => et_B (ev_var ?_)) fun e he _ mm => ev_var ?_) (goods_zip (least_good o)))) ea_nil)) ⟨L, least_ok o, l1, l3, least_good o⟩)
  · rw [List.getElem?_set_self]
    rw [List.length_set]
    have : ∀ (vs : List Nat) (S : Sl), (wipeS S vs).length = S.length := fun vs S => by
      induction vs with
      | nil => rfl
      | cons v vs ih => show ((wipeS S vs).set v .no).length = _; rw [List.length_set, ih]
    rw [this, hl]
    exact hb
  · rw [List.getElem?_set_ne (fun e => hne e.symm), List.getElem?_set_self]
    have : ∀ (vs : List Nat) (S : Sl), (wipeS S vs).length = S.length := fun vs S => by
      induction vs with
      | nil => rfl
      | cons v vs ih => show ((wipeS S vs).set v .no).length = _; rw [List.length_set, ih]
    rw [this, hl]
    exact ha
abbrev Ok1w (m : Mc) : Prop := ∃ L, OkM L m ∧ 1 ≤ L ∧ L ≤ 3
abbrev sp_lean_parts (C : Addr) : Sp := prm (sg1 C) Ok1w (fun m => rSome (rPr rSteps (rList rBool)) fun x => x.1.length = fewF m) (fun _ => ())
theorem fin_kern (M : Mc) (s : Nat) : (B.fin fun k => wt M k s).isNone = kernB M s := rfl
theorem ok_lean_parts (T : Txt A K mg) : FnOk P w K mg base CX0 6 A.f_lean_parts A.d_lean_parts ps_lean_parts (sp_lean_parts A.M) := by
  refine T.F_lean_parts.ok sc_lean_parts (fun vs H Q E h => prm_len (fun _ => rfl) h) (fun cdv Ar outer s H vs Q E hr h => ⟨_, (pss_cons (ps_asg (pe_call (ok_shrunk T) (hr.mono (by decide)) (by rfl) T.g_shrunk T.F_shrunk.kp T.b_shrunk .nil pass0 (pa_cons (pe_ix (ix_tupK (K := K) rfl) (pe_fldK (K := K) rfl (pv 0) rfl) pe_int (fun _ _ => rfl)) (pa_cons (pe_call (ok_marks_of T) (hr.mono (by decide)) (by rfl) T.g_marks_of T.F_marks_of.kp T.b_marks_of .nil pass0 (pa_cons (pv 0) pa_nil)) pa_nil))) (pg_tupK (K := K) rfl (by rfl) (pgs_cons (pg_name (i := 1) sc_lean_parts.nd rfl (by first | exact Or.inl rfl | exact Or.inr rfl)) (pgs_cons (pg_name (i := 2) sc_lean_parts.nd rfl (by first | exact Or.inl rfl | exact Or.inr rfl)) pgs_nil))))
      (pss_cons (ps_set (i := 3) sc_lean_parts.nd rfl (by first | exact Or.inl rfl | exact Or.inr rfl) (pe_make T.mkM (ok_Machine_init T) (hr.mono (by decide)) (by rfl) T.mgM T.b_Machine_init .nil pass0 (pa_cons (pv 1) (pa_cons (pe_callTy (call_tuple_ofK (K := K) rfl) (by rfl) T.n_tuple (by decide +kernel) (pa_cons (pe_lc (own := [("stand", 7), ("mark", 14)]) (g := gTup K 2 (gCons (gName 7) (gCons (gName 14) gNil))) (by rfl) sc_lean_parts.nd (pi_enumK (K := K) rfl (by rfl) T.n_enumerate (pa_cons (pv 2) pa_nil)) (blkOk_by (own := [("stand", 7), ("mark", 14)]) (N := nm_lean_parts) (sc := defScope st_lean_parts) (by decide +kernel)) (fun _ _ _ _ _ => (pg_tupK (K := K) rfl (by rfl) (pgs_cons (pg_name (i := 7) sc_lean_parts.nd rfl (by first | exact Or.inl rfl | exact Or.inr rfl)) (pgs_cons (pg_name (i := 14) sc_lean_parts.nd rfl (by first | exact Or.inl rfl | exact Or.inr rfl)) pgs_nil)))) (fun _ _ _ _ _ => (pts_one (pt_val (pv 14)))) (fun _ _ _ _ _ => (pv 7))) pa_nil)) pa_nil))))
      (pss_cons (ps_asg (pe_tup (pa_cons (pe_call (ok_kinds_of T) (hr.mono (by decide)) (by rfl) T.g_kinds_of T.F_kinds_of.kp T.b_kinds_of .nil pass0 (pa_cons (pv 3) pa_nil)) (pa_cons (pe_call (ok_come_counts T) (hr.mono (by decide)) (by rfl) T.g_come_counts T.F_come_counts.kp T.b_come_counts .nil pass0 (pa_cons (pv 3) pa_nil)) pa_nil))) (pg_tupK (K := K) rfl (by rfl) (pgs_cons (pg_name (i := 4) sc_lean_parts.nd rfl (by first | exact Or.inl rfl | exact Or.inr rfl)) (pgs_cons (pg_name (i := 5) sc_lean_parts.nd rfl (by first | exact Or.inl rfl | exact Or.inr rfl)) pgs_nil))))
      (pss_cons (ps_set (i := 6) sc_lean_parts.nd rfl (by first | exact Or.inl rfl | exact Or.inr rfl) pe_dnewK)
      (pss_cons (ps_for PassesOwn.never rfl (pi_range1 (by rfl) T.n_range (pa_cons (pe_callB (call_len_seqK (K := K) rfl) (by rfl) T.n_len PySem.boot_len (pa_cons (pv 1) pa_nil)) pa_nil)) (pg_name (i := 7) sc_lean_parts.nd rfl (by first | exact Or.inl rfl | exact Or.inr rfl)) (pss_one (ps_if (PW.pt (pw_and (pt_cmpR op_isN (pe_ix (ix_listK (K := K) rfl) (pv 5) (pv 7) (fun _ _ => rfl)) pe_non (nomark _)) (pw_and1 (pt_cmp (pc_dnotin (hu_of hr) (pe_ix (ix_listK (K := K) rfl) (pv 4) (pv 7) (fun _ _ => rfl)) (pv 6)))))) (pss_one (ps_dput (hu_of hr) (pv 6) (pe_ix (ix_listK (K := K) rfl) (pv 4) (pv 7) (fun _ _ => rfl)) (pv 7) rfl)) pss_nil)))
      (pss_cons (ps_for PassesOwn.never rfl (pi_range1 (by rfl) T.n_range (pa_cons (pe_callB (call_len_seqK (K := K) rfl) (by rfl) T.n_len PySem.boot_len (pa_cons (pv 1) pa_nil)) pa_nil)) (pg_name (i := 7) sc_lean_parts.nd rfl (by first | exact Or.inl rfl | exact Or.inr rfl)) (pss_one (ps_if (pt_cmp (pc_dnotin (hu_of hr) (pe_ix (ix_listK (K := K) rfl) (pv 4) (pv 7) (fun _ _ => rfl)) (pv 6))) (pss_one (ps_dput (hu_of hr) (pv 6) (pe_ix (ix_listK (K := K) rfl) (pv 4) (pv 7) (fun _ _ => rfl)) (pv 7) rfl)) pss_nil)))
      (pss_cons (ps_setLc (i := 8) (own := [("stand", 7)]) (g := gName 7) (by rfl) sc_lean_parts.nd rfl rfl (sw_true rfl rfl rfl (by decide +kernel)) (pi_range1 (by rfl) T.n_range (pa_cons (pe_callB (call_len_seqK (K := K) rfl) (by rfl) T.n_len PySem.boot_len (pa_cons (pv 1) pa_nil)) pa_nil)) (blkOk_by (own := [("stand", 7)]) (N := nm_lean_parts) (sc := defScope st_lean_parts) (by decide +kernel)) (fun _ _ _ _ _ => (pg_name (i := 7) sc_lean_parts.nd rfl (by first | exact Or.inl rfl | exact Or.inr rfl))) (fun _ _ _ _ _ => pts_nil) (fun _ _ _ _ _ => (pe_ifExp (pt_cmpR op_isN (pe_ix (ix_listK (K := K) rfl) (pv 5) (pv 7) (fun _ _ => rfl)) pe_non (nomark _)) (pv 7) (pe_dget (hu_of hr) (pv 6) (pe_ix (ix_listK (K := K) rfl) (pv 4) (pv 7) (fun _ _ => rfl)) (fun _ _ => rfl)))))
      (pss_cons (ps_par3 (i := 9) (j := 10) (l := 11) (by rfl) sc_lean_parts.nd rfl rfl rfl (by decide) (by decide) (by decide) rfl rfl rfl (pa_cons (pe_lst (pa_cons (pe_ix (ix_listK (K := K) rfl) (pv 8) pe_int (fun _ _ => rfl)) pa_nil)) (pa_cons (pe_disp (pps_cons (pe_ix (ix_listK (K := K) rfl) (pv 8) pe_int (fun _ _ => rfl)) pe_int pps_nil) (by rfl) (by rfl) (fun z => by cases z) (by decide)) (pa_cons (pe_lst pa_nil) pa_nil))) (by rfl))
      (pss_cons (ps_while PassesOwn.never (pt_cmpR op_lt (pe_callB (call_len_seqK (K := K) rfl) (by rfl) T.n_len PySem.boot_len (pa_cons (pv 11) pa_nil)) (pe_callB (call_len_seqK (K := K) rfl) (by rfl) T.n_len PySem.boot_len (pa_cons (pv 9) pa_nil)) (nomark _)) (pss_cons (ps_set (i := 12) sc_lean_parts.nd rfl (by first | exact Or.inl rfl | exact Or.inr rfl) (pe_lst pa_nil))
      (pss_cons (ps_for PassesOwn.never rfl (pi_tupK (K := K) rfl (pe_ix (ix_tupK (K := K) rfl) (pv 1) (pe_ix (ix_listK (K := K) rfl) (pv 9) (pe_callB (call_len_seqK (K := K) rfl) (by rfl) T.n_len PySem.boot_len (pa_cons (pv 11) pa_nil)) (fun _ _ => rfl)) (fun _ _ => rfl))) (pg_name (i := 13) sc_lean_parts.nd rfl (by first | exact Or.inl rfl | exact Or.inr rfl)) (pss_cons (ps_if (pt_cmp (pc_dnotin (hu_of hr) (pe_ix (ix_listK (K := K) rfl) (pv 8) (pv 13) (fun _ _ => rfl)) (pv 10))) (pss_cons (ps_dput (hu_of hr) (pv 10) (pe_ix (ix_listK (K := K) rfl) (pv 8) (pv 13) (fun _ _ => rfl)) (pe_callB (call_len_seqK (K := K) rfl) (by rfl) T.n_len PySem.boot_len (pa_cons (pv 9) pa_nil)) rfl)
      (pss_one (ps_expr (pe_bm PySem.F.plainAttrs_list PySem.F.slot_list_append PySem.F.type_list_append mt_append (pv 9) (pa_cons (pe_ix (ix_listK (K := K) rfl) (pv 8) (pv 13) (fun _ _ => rfl)) pa_nil))))) pss_nil)
      (pss_one (ps_expr (pe_bm PySem.F.plainAttrs_list PySem.F.slot_list_append PySem.F.type_list_append mt_append (pv 12) (pa_cons (pe_dget (hu_of hr) (pv 10) (pe_ix (ix_listK (K := K) rfl) (pv 8) (pv 13) (fun _ _ => rfl)) (fun _ _ => rfl)) pa_nil))))))
      (pss_one (ps_expr (pe_bm PySem.F.plainAttrs_list PySem.F.slot_list_append PySem.F.type_list_append mt_append (pv 11) (pa_cons (pe_callTy (call_tuple_ofK (K := K) rfl) (by rfl) T.n_tuple (by decide +kernel) (pa_cons (pv 12) pa_nil)) pa_nil)))))))
      (pss_one (ps_ret (pe_tup (pa_cons (pe_callTy (call_tuple_ofK (K := K) rfl) (by rfl) T.n_tuple (by decide +kernel) (pa_cons (pv 11) pa_nil)) (pa_cons (pe_lc (own := [("stand", 7)]) (g := gName 7) (by rfl) sc_lean_parts.nd (pi_listK (K := K) rfl (pv 9)) (blkOk_by (own := [("stand", 7)]) (N := nm_lean_parts) (sc := defScope st_lean_parts) (by decide +kernel)) (fun _ _ _ _ _ => (pg_name (i := 7) sc_lean_parts.nd rfl (by first | exact Or.inl rfl | exact Or.inr rfl))) (fun _ _ _ _ _ => pts_nil) (fun _ _ _ _ _ => (pe_ix (ix_listK (K := K) rfl) (pv 2) (pv 7) (fun _ _ => rfl)))) pa_nil)))))))))))))), go_start h ?_⟩)
  rintro m H0 G0 ⟨L, o, l1, l3⟩ hq
  have h8m := o.le8
  refine q_asgT (tg_pr 1 2) (ev_call m (ea_cons (ev_fst (ev_parts T.clM T.na_parts (ev_var rfl))) (ea_cons (ev_call m (ea_cons (ev_var rfl) ea_nil) o.le8) ea_nil)) ⟨L, o, l3⟩) ?_
  refine q_asg (eg_ev (ev_least (i := 1) (j := 2) (a := 7) (b := 14) o l1 l3 rfl rfl 15 rfl (by decide) (by decide) (by decide))) ?_
  have oM := least_ok o
  have C := least_kds o
  have h8 := oM.le8
  have h1 := oM.pos
  generalize hM : leastM m = X at oM C h8 h1 ⊢
  have hfew : fewF m = (NLs (nCof X) X (kdOf X)).length := by rw [← hM]; rfl
  have kAt : ∀ s, s < X.1.length → (kindL X)[s]? = some (kdOf X s) := fun s hs => kd_at oM hs
  have cAt : ∀ s, s < X.1.length → (countsF X)[s]? = some (B.fin fun k => wt X k s) := fun s hs => map_rng_at hs
  refine q_parN (n := 2) (S := [.is (rMach A.M) m, .is rSteps X.1, .is (rList rBool) (mkF X), .is (rMach A.M) X, .no, .no, .no, .no, .no, .no, .no, .no, .no, .no, .no]) (ss := [.is (rList rNat) (kindL X), .is (rList (rOpt rNat)) (countsF X)]) [4, 5] rfl rfl (by decide)
    (egs_cons (eg_ev (ev_call X (ea_cons (ev_var rfl) ea_nil) ⟨L, oM, l3⟩)) (egs_cons (eg_ev (ev_call X (ea_cons (ev_var rfl) ea_nil) ⟨L, oM, l3⟩)) egs_nil)) ?_
  refine q_asg (eg_own (eo_dK (R := rNat))) ?_
  refine q_for (σt := List (Nat × Nat)) (fun _ => [.is (rMach A.M) m, .is rSteps X.1, .is (rList rBool) (mkF X), .is (rMach A.M) X, .is (rList rNat) (kindL X), .is (rList (rOpt rNat)) (countsF X), .own 0, .no, .no, .no, .no, .no, .no, .no, .no]) (fun kv => [some (oDK rNat kv)])
    (fun i kv => kv.length ≤ i ∧ ∀ c, look kv c = kp1 X (kdOf X) i c) [] (it_range1 (ev_lenT (ev_var rfl)) (by omega)) (tg_name 7) ⟨Nat.le_refl _, fun c => rfl⟩ (Wk.refl _) rfl ?_ ?_
  · rintro G1 bs i kv x hx ⟨hl, hI⟩
    obtain ⟨hin, ex⟩ := List.getElem?_eq_some_iff.mp hx
    rw [List.getElem_range'] at ex
    rw [List.length_range'] at hin
    have ex : x = i := by omega
    subst ex
    dsimp only at hl hI ⊢
    refine go_when (b := kernB X x && (look kv (kdOf X x)).isNone) (et_and (et_test (ev_isN (ev_ixL (R := rOpt rNat) (ev_var rfl) (ev_var rfl) (cAt x hin)))) fun _ => et_B (ev_knin rfl rfl (ev_ixL (R := rNat) (ev_var rfl) (ev_var rfl) (kAt x hin)))) (fun hu => ?_) (fun hu => ?_)
    · rw [Bool.and_eq_true, Option.isNone_iff_eq_none] at hu
      refine go_kput rfl rfl (ev_var rfl) (ev_ixL (R := rNat) (ev_var rfl) (ev_var rfl) (kAt x hin)) (by omega) ?_
      refine go_turn (put kv (kdOf X x) x) ⟨Nat.le_trans (put_len _ _ _) (by omega), fun c => ?_⟩ (.same (.same (.same (.same (.same (.same (.same (.no (.same (.same (.same (.same (.same (.same (.same .nil))))))))))))))) rfl
      rw [look_put, kp1_succ, ← hI]
      by_cases e : c = kdOf X x
      · subst e
        rw [if_pos rfl, hu.2, hu.1, decide_eq_true rfl]
        rfl
      · rw [if_neg e, decide_eq_false (fun z => e z.symm), Bool.and_false]
        cases look kv c <;> rfl
    · refine go_turn kv ⟨by omega, fun c => ?_⟩ (.same (.same (.same (.same (.same (.same (.same (.no (.same (.same (.same (.same (.same (.same (.same .nil))))))))))))))) rfl
      rw [kp1_succ, ← hI]
      by_cases hk : kernB X x = true
      · by_cases e : kdOf X x = c
        · subst e
          rw [hk, Bool.true_and] at hu
          cases hlk : look kv (kdOf X x) with
          | none =>
            rw [hlk] at hu
            cases hu
          | some v => rfl
        · rw [decide_eq_false e, Bool.and_false]
          cases look kv c <;> rfl
      · rw [show kernB X x = false by simpa using hk, Bool.false_and]
        cases look kv c <;> rfl
  rintro kv1 ⟨hl1, hI1⟩
  rw [List.length_range'] at hl1 hI1
  dsimp only at hl1 hI1 ⊢
  refine q_for (σt := List (Nat × Nat)) (fun _ => [.is (rMach A.M) m, .is rSteps X.1, .is (rList rBool) (mkF X), .is (rMach A.M) X, .is (rList rNat) (kindL X), .is (rList (rOpt rNat)) (countsF X), .own 0, .no, .no, .no, .no, .no, .no, .no, .no]) (fun kv => [some (oDK rNat kv)])
    (fun i kv => kv.length ≤ X.1.length + i ∧ ∀ c, look kv c = (kp1 X (kdOf X) X.1.length c).or (kp2 (kdOf X) i c)) kv1 (it_range1 (ev_lenT (ev_var rfl)) (by omega)) (tg_name 7) ⟨hl1, fun c => by rw [hI1]; cases kp1 X (kdOf X) X.1.length c <;> rfl⟩ (Wk.refl _) rfl ?_ ?_
  · rintro G1 bs i kv x hx ⟨hl, hI⟩
    obtain ⟨hin, ex⟩ := List.getElem?_eq_some_iff.mp hx
    rw [List.getElem_range'] at ex
    rw [List.length_range'] at hin
    have ex : x = i := by omega
    subst ex
    dsimp only at hl hI ⊢
    refine go_when (b := (look kv (kdOf X x)).isNone) (et_B (ev_knin rfl rfl (ev_ixL (R := rNat) (ev_var rfl) (ev_var rfl) (kAt x hin)))) (fun hu => ?_) (fun hu => ?_)
    · rw [Option.isNone_iff_eq_none] at hu
      refine go_kput rfl rfl (ev_var rfl) (ev_ixL (R := rNat) (ev_var rfl) (ev_var rfl) (kAt x hin)) (by omega) ?_
      refine go_turn (put kv (kdOf X x) x) ⟨Nat.le_trans (put_len _ _ _) (by omega), fun c => ?_⟩ (.same (.same (.same (.same (.same (.same (.same (.no (.same (.same (.same (.same (.same (.same (.same .nil))))))))))))))) rfl
      rw [look_put, kp2_succ]
      by_cases e : c = kdOf X x
      · subst e
        rw [hI] at hu
        rw [if_pos rfl, if_pos rfl, ← Option.or_assoc, hu]
        rfl
      · rw [if_neg e, if_neg (fun z => e z.symm), hI, Option.or_none]
    · refine go_turn kv ⟨by omega, fun c => ?_⟩ (.same (.same (.same (.same (.same (.same (.same (.no (.same (.same (.same (.same (.same (.same (.same .nil))))))))))))))) rfl
      rw [kp2_succ, ← Option.or_assoc, ← hI]
      by_cases e : kdOf X x = c
      · subst e
        cases hlk : look kv (kdOf X x) with
        | none =>
          rw [hlk] at hu
          cases hu
        | some v => rfl
      · rw [if_neg e, Option.or_none]
  rintro kv ⟨hl, hI⟩
  rw [List.length_range'] at hl hI
  have hkeep : ∀ s, s < X.1.length → look kv (kdOf X s) = some (keepF X (kdOf X) (kdOf X s)) := fun s hs => by rw [hI]; exact kp_end hs
  refine q_asg (eg_ev (ev_lc0 (T := rNat) (glF X (kdOf X)) (it_range1 (ev_lenT (ev_var rfl)) (by omega)) (tg_name 7) (by simp) (by rw [List.length_range']; omega) fun s hs mm => ?_)) ?_
  · rw [List.mem_range'_1] at hs
    have hs : s < X.1.length := by omega
    refine ev_if (b := kernB X s) (et_test (ev_isN (ev_ixL (R := rOpt rNat) (ev_var rfl) (ev_var rfl) (cAt s hs)))) (fun hb => ev_eq (ev_var (x := s) rfl) ?_) (fun hb => ev_eq (ev_kget rfl rfl (ev_ixL (R := rNat) (ev_var rfl) (ev_var rfl) (kAt s hs)) (hkeep s hs)) ?_)
    · unfold glF
      rw [if_pos hb]
    · unfold glF
      rw [if_neg (by rw [hb]; decide)]
  have gAt : ∀ s, s < X.1.length → ((List.range' 0 X.1.length).map (glF X (kdOf X)))[s]? = some (glF X (kdOf X) s) := fun s hs => map_rng_at hs
  generalize (List.range' 0 X.1.length).map (glF X (kdOf X)) = gL at gAt ⊢
  have NO := lean_ok C
  have hlen := lean_len C
  generalize hnx : leanNx X (kdOf X) = nx at NO hlen
  generalize hV : (fun s => s < X.1.length ∧ (Kern X s ∨ (¬ KK X (kdOf X) (kdOf X s) ∧ s = keepF X (kdOf X) (kdOf X s)))) = V at NO
  have vle : ∀ l : List Nat, l.Nodup → (∀ x ∈ l, V x) → l.length ≤ 8 := fun l h1 h2 => NO.le8 C h1 h2
  have hVl : ∀ s, V s → s < X.1.length := fun s hs => by
    rw [← hV] at hs
    exact hs.1
  have nxE : ∀ s, nx s = (row X s).map (glF X (kdOf X)) := fun s => by rw [← hnx]; rfl
  have hb0 : glF X (kdOf X) 0 = leanB X (kdOf X) := rfl
  refine q_par3 (egs_cons (eg_own (eo_one (R := rNat) (ev_ixL (ev_var rfl) ev_nat0 (gAt 0 h1)))) (egs_cons (eg_disp1 (R := rNat) (x := 0) (fun mm => ev_ixL (ev_var rfl) ev_nat0 (gAt 0 h1)) (fun mm => ev_nat0)) (egs_cons (eg_own (eo_nil (R := rRow))) egs_nil))) ?_
  rw [hb0]
  generalize leanB X (kdOf X) = b0 at NO hlen hb0 ⊢
  refine q_while (σt := List Nat × Nat) (fun s => [.is (rMach A.M) m, .is rSteps X.1, .is (rList rBool) (mkF X), .is (rMach A.M) X, .is (rList rNat) (kindL X), .is (rList (rOpt rNat)) (countsF X), .own 0, .no, .is (rList rNat) gL, .own 1, .own 2, .own 3, .no, .no, .no])
    (fun s => [some (oDK rNat kv), some (oList rNat s.1), some (oDK rNat s.1.zipIdx), some (oList rRow ((s.1.take s.2).map (bfRow nx s.1)))])
    (fun s => BfI nx b0 V s.1 s.2) (fun s => 65 - s.2) (fun s => decide (s.2 < s.1.length)) ([b0], 0) (bf_start NO.vb) (Wk.refl _) rfl ?_ ?_ ?_
  · rintro ⟨l, k⟩ I
    have hle : k ≤ l.length := I.le
    refine et_eq (et_test (ev_ltN (ev_lenO rfl rfl) (ev_lenO rfl rfl))) ?_
    rw [List.length_map, List.length_take, Nat.min_eq_left hle]
  · rintro ⟨l, k⟩ I hb
    dsimp only at I hb ⊢
    have hk : k < l.length := of_decide_eq_true hb
    have h8' : l.length ≤ 8 := vle l I.nd I.inn
    have hx : l[k]? = some l[k] := List.getElem?_eq_getElem hk
    generalize l[k] = here at hx
    have hh : here < X.1.length := hVl _ (I.inn _ (List.mem_of_getElem? hx))
    have hlt : ((l.take k).map (bfRow nx l)).length = k := by rw [List.length_map, List.length_take]; omega
    refine q_asg (eg_own (eo_nil (R := rNat))) ?_
    refine q_for (σt := List Nat × List Nat) (fun s => [.is (rMach A.M) m, .is rSteps X.1, .is (rList rBool) (mkF X), .is (rMach A.M) X, .is (rList rNat) (kindL X), .is (rList (rOpt rNat)) (countsF X), .own 0, .no, .is (rList rNat) gL, .own 1, .own 2, .own 3, .own 4, .no, .no])
      (fun s => [some (oDK rNat kv), some (oList rNat s.1), some (oDK rNat s.1.zipIdx), some (oList rRow ((l.take k).map (bfRow nx l))), some (oList rNat s.2)])
      (fun i s => BfJ nx V l here i s.1 ∧ s.2 = ((nx here).take i).map fun g => ixOf s.1 g) (l, [])
      (it_tup (R := rNat) (ev_ixT (ev_var rfl) (ev_ixO (x := here) rfl rfl (ev_lenO rfl rfl) (by rw [hlt]; exact hx)) (row_at hh))) (tg_name 13) ⟨bfj_start I here, rfl⟩ (Wk.refl _) rfl ?_ ?_
    · rintro G1 bs i ⟨l', rw'⟩ g0 hg0 ⟨J, hrw⟩
      dsimp only at J hrw ⊢
      have hg0l : g0 < X.1.length := oM.row_lt hh (List.mem_of_getElem? hg0)
      have hg : (nx here)[i]? = some (glF X (kdOf X) g0) := by
        rw [nxE, List.getElem?_map, hg0]
        rfl
      have hgv := NO.vcl here (I.inn _ (List.mem_of_getElem? hx)) _ (List.mem_of_getElem? hg)
      have h8'' : l'.length ≤ 8 := vle l' J.nd J.inn
      have hi8 : i < L := by
        have := (List.getElem?_eq_some_iff.mp hg0).1
        rw [oM.row_len hh] at this
        exact this
      have hrl : rw'.length ≤ 8 := by
        rw [hrw, List.length_map, List.length_take]
        omega
      have gv : ∀ {S : Sl} {M : Mo}, S[8]? = some (.is (rList rNat) gL) → S[13]? = some (.is rNat g0) → Ev none (tOp (rIxL K) (tVar 8) (tVar 13)) S M rNat (glF X (kdOf X) g0) := fun h1 h2 => ev_ixL (ev_var h1) (ev_var h2) (gAt g0 hg0l)
      generalize glF X (kdOf X) g0 = g at hg hgv gv
      have spl : ∀ F : Nat → Nat, ((nx here).take (i + 1)).map F = ((nx here).take i).map F ++ [F g] := fun F => by rw [take_snoc hg]; simp
      refine q_when (b := !inB l' g) (et_eq (et_B (ev_knin rfl rfl (gv rfl rfl))) look_some_in) (fun hn => ?_) (fun hn => ?_)
      · have hn : g ∉ l' := inB_not hn
        refine q_kput rfl rfl (ev_lenO rfl rfl) (gv rfl rfl) (by rw [List.length_zipIdx]; omega) ?_
        rw [tab_put hn]
        refine go_app rfl rfl (by omega) (gv rfl rfl) ?_
        have J2 := J.new hg hgv hn
        refine go_app (x := ixOf (l' ++ [g]) g) rfl rfl (by omega) (ev_kget rfl rfl (gv rfl rfl) (look_tab_in' (by simp))) ?_
        refine go_turn (l' ++ [g], rw' ++ [ixOf (l' ++ [g]) g]) ⟨J2, ?_⟩ (.same (.same (.same (.same (.same (.same (.same (.same (.same (.same (.same (.same (.same (.no (.same .nil))))))))))))))) rfl
        show rw' ++ _ = _
        rw [spl, hrw]
        congr 1
        exact List.map_congr_left fun x hx' => (ix_app (J.ins x hx')).symm
      · have hn : g ∈ l' := inB_is hn
        refine go_app (x := ixOf l' g) rfl rfl (by omega) (ev_kget rfl rfl (gv rfl rfl) (look_tab_in' hn)) ?_
        refine go_turn (l', rw' ++ [ixOf l' g]) ⟨J.old hg hn, ?_⟩ (.same (.same (.same (.same (.same (.same (.same (.same (.same (.same (.same (.same (.same (.no (.same .nil))))))))))))))) rfl
        show rw' ++ _ = _
        rw [spl, hrw]
    · rintro ⟨l', rw'⟩ ⟨J, hrw⟩
      dsimp only at J hrw ⊢
      have hrl : (row X here).length = (nx here).length := by rw [nxE, List.length_map]
      rw [hrl] at J hrw
      rw [List.take_length] at hrw
      obtain ⟨I2, ht, hrows⟩ := I.next hx (by omega) J
      have erow : rw' = bfRow nx l' here := hrw
      refine go_app rfl rfl (by rw [hlt]; omega) (ev_tupOfO (R := rNat) rfl rfl) ?_
      refine go_wk (S' := [.is (rMach A.M) m, .is rSteps X.1, .is (rList rBool) (mkF X), .is (rMach A.M) X, .is (rList rNat) (kindL X), .is (rList (rOpt rNat)) (countsF X), .own 0, .no, .is (rList rNat) gL, .own 1, .own 2, .own 3, .no, .no, .no]) (.same (.same (.same (.same (.same (.same (.same (.same (.same (.same (.same (.same (.no (.same (.same .nil))))))))))))))) ?_
      refine go_forget (M := [some (oDK rNat kv), some (oList rNat l'), some (oDK rNat l'.zipIdx), some (oList rRow ((l.take k).map (bfRow nx l) ++ [rw']))]) (m := some (oList rNat rw')) rfl ?_
      refine go_turn (l', k + 1) ⟨I2, by show 65 - (k + 1) < 65 - k; omega⟩ (Wk.refl _) ?_
      show _ = [_, _, _, some (oList rRow ((l'.take (k + 1)).map (bfRow nx l')))]
      rw [ht, List.map_append, hrows, erow]
      rfl
  · rintro ⟨l, k⟩ I hb
    dsimp only at I hb ⊢
    have hk : l.length ≤ k := by
      have := of_decide_eq_false hb
      omega
    have hd := I.done hk
    rw [List.take_of_length_le hk]
    have h8' : l.length ≤ 8 := vle l I.nd I.inn
    refine go_frzL (i := 9) rfl rfl (go_ret hq (ev_someI (x := (l.map (bfRow nx l), l.map fun s => decide (s ∈ X.2))) (ev_pr (ev_tupOfO (R := rRow) rfl rfl) (ev_lc0 (T := rBool) (fun s => decide (s ∈ X.2)) (it_list (ev_var rfl)) (tg_name 7) (by simp) (by omega) fun s hs mm => ev_ixL (ev_var rfl) (ev_var rfl) (mk_at (hVl s (I.inn s hs))))) ?_))
    show (l.map _).length = fewF m
    rw [List.length_map, hfew, hd, hlen]
abbrev sp_fewest (C : Addr) : Sp := prm (sg1 C) Ok1w (fun _ => rNat) fewF
theorem ok_fewest (T : Txt A K mg) : FnOk P w K mg base CX0 7 A.f_fewest A.d_fewest ps_fewest (sp_fewest A.M) := by
  refine T.F_fewest.ok sc_fewest (fun vs H Q E h => prm_len (fun _ => rfl) h) (fun cdv Ar outer s H vs Q E hr h => ⟨_, (pss_one (ps_ret (pe_callB (call_len_seqK (K := K) rfl) (by rfl) T.n_len PySem.boot_len (pa_cons (pe_ix (ix_tupK (K := K) rfl) (pe_call (ok_lean_parts T) (hr.mono (by decide)) (by rfl) T.g_lean_parts T.F_lean_parts.kp T.b_lean_parts .nil pass0 (pa_cons (pv 0) pa_nil)) pe_int (fun _ _ => rfl)) pa_nil)))), go_start h ?_⟩)
  rintro m H0 G0 hp hq
  refine go_ret hq (ev_lenP (p := fun x => x.length = fewF m) (ev_someP1 (ev_call m (ea_cons (ev_var rfl) ea_nil) hp) fun x hx => hx) fun x hx => hx)
end
end B
namespace B
open PySem L2
noncomputable def stT (M : Mc) (i : Nat) : List (Nat × List Nat) := (List.range' 0 i).foldl (fun kv s => if kernB M s then put kv (kdOf M s) ((look kv (kdOf M s)).getD [] ++ [s]) else kv) []
theorem stT_succ (M : Mc) (i : Nat) : stT M (i + 1) = if kernB M i then put (stT M i) (kdOf M i) ((look (stT M i) (kdOf M i)).getD [] ++ [i]) else stT M i := by
  show List.foldl _ _ _ = _
  rw [rng_succ, List.foldl_append]
  rfl
theorem stT_len (M : Mc) : ∀ i, (stT M i).length ≤ i
  | 0 => Nat.le_refl _
  | i + 1 => by
    rw [stT_succ]
    have := stT_len M i
    split
    · exact Nat.le_trans (put_len _ _ _) (by omega)
    · omega
noncomputable def styI (M : Mc) (i c : Nat) : List Nat := (List.range' 0 i).filter fun s => kernB M s && decide (kdOf M s = c)
theorem styI_succ (M : Mc) (i c : Nat) : styI M (i + 1) c = styI M i c ++ if kernB M i && decide (kdOf M i = c) then [i] else [] := by
  unfold styI
  rw [rng_succ, List.filter_append]
  congr 1
  rw [List.filter_cons]
  split <;> rfl
theorem stT_look (M : Mc) : ∀ (i c : Nat), look (stT M i) c = if (styI M i c).isEmpty then none else some (styI M i c)
  | 0, c => rfl
  | i + 1, c => by
    rw [stT_succ, styI_succ]
    by_cases hk : kernB M i = true
    · rw [if_pos hk, look_put, hk, Bool.true_and]
      by_cases e : c = kdOf M i
      · subst e
        rw [if_pos rfl, decide_eq_true rfl, if_pos rfl, stT_look M i]
        cases h : styI M i (kdOf M i) with
        | nil => rfl
        | cons t r => rfl
      · rw [if_neg e, decide_eq_false fun z => e z.symm, if_neg (c := false = true) (show ¬ (false = true) by decide), List.append_nil, stT_look M i]
    · rw [if_neg hk, show kernB M i = false by simpa using hk, Bool.false_and, if_neg (c := false = true) (show ¬ (false = true) by decide), List.append_nil, stT_look M i]
theorem stT_sty (M : Mc) (c : Nat) : look (stT M M.1.length) c = if (sty M (kdOf M) c).isEmpty then none else some (sty M (kdOf M) c) := stT_look M M.1.length c
section
variable {P : Program} {w : World} {A : Ad} {K : PySem.W.Frag} {mg : Str → Option Value} {base : Heap}
noncomputable def plFl (C : Addr) (X : Mc) : Fl := [("rows", .is rSteps X.1), ("marks", .is (rList rBool) (mkF X)), ("least", .is (rMach C) X), ("kinds", .is (rList rNat) (kindL X)), ("counts", .is (rList (rOpt rNat)) (countsF X)), ("stays", .is (rDK (rList rNat)) (stT X X.1.length))]
noncomputable abbrev sp_Plan_init (C D : Addr) : Sp := prmI D (fun m : Mc => [.is (rMach C) m]) Ok1w (fun m => plFl C (leastM m))
theorem ok_Plan_init (T : Txt A K mg) : FnOk P w K mg base CX0 6 A.f_Plan_init A.d_Plan_init ps_Plan_init (sp_Plan_init A.M A.P) := by
  refine T.F_Plan_init.ok sc_Plan_init (fun vs H Q E h => prmI_len (fun _ => rfl) h) (fun cdv Ar outer s H vs Q E hr h => ⟨_, (pss_cons (ps_asg (pe_call (ok_shrunk T) (hr.mono (by decide)) (by rfl) T.g_shrunk T.F_shrunk.kp T.b_shrunk .nil pass0 (pa_cons (pe_ix (ix_tupK (K := K) rfl) (pe_fldK (K := K) rfl (pv 1) rfl) pe_int (fun _ _ => rfl)) (pa_cons (pe_call (ok_marks_of T) (hr.mono (by decide)) (by rfl) T.g_marks_of T.F_marks_of.kp T.b_marks_of .nil pass0 (pa_cons (pv 1) pa_nil)) pa_nil))) (pg_tupK (K := K) rfl (by rfl) (pgs_cons (pg_name (i := 2) sc_Plan_init.nd rfl (by first | exact Or.inl rfl | exact Or.inr rfl)) (pgs_cons (pg_name (i := 3) sc_Plan_init.nd rfl (by first | exact Or.inl rfl | exact Or.inr rfl)) pgs_nil))))
      (pss_cons (ps_fld (pv 0) (pv 2) rfl)
      (pss_cons (ps_fld (pv 0) (pv 3) rfl)
      (pss_cons (ps_fld (pv 0) (pe_make T.mkM (ok_Machine_init T) (hr.mono (by decide)) (by rfl) T.mgM T.b_Machine_init .nil pass0 (pa_cons (pv 2) (pa_cons (pe_callTy (call_tuple_ofK (K := K) rfl) (by rfl) T.n_tuple (by decide +kernel) (pa_cons (pe_lc (own := [("stand", 4), ("mark", 5)]) (g := gTup K 2 (gCons (gName 4) (gCons (gName 5) gNil))) (by rfl) sc_Plan_init.nd (pi_enumK (K := K) rfl (by rfl) T.n_enumerate (pa_cons (pv 3) pa_nil)) (blkOk_by (own := [("stand", 4), ("mark", 5)]) (N := nm_Plan_init) (sc := defScope st_Plan_init) (by decide +kernel)) (fun _ _ _ _ _ => (pg_tupK (K := K) rfl (by rfl) (pgs_cons (pg_name (i := 4) sc_Plan_init.nd rfl (by first | exact Or.inl rfl | exact Or.inr rfl)) (pgs_cons (pg_name (i := 5) sc_Plan_init.nd rfl (by first | exact Or.inl rfl | exact Or.inr rfl)) pgs_nil)))) (fun _ _ _ _ _ => (pts_one (pt_val (pv 5)))) (fun _ _ _ _ _ => (pv 4))) pa_nil)) pa_nil))) rfl)
      (pss_cons (ps_fld (pv 0) (pe_call (ok_kinds_of T) (hr.mono (by decide)) (by rfl) T.g_kinds_of T.F_kinds_of.kp T.b_kinds_of .nil pass0 (pa_cons (pe_fldK (K := K) rfl (pv 0) rfl) pa_nil)) rfl)
      (pss_cons (ps_fld (pv 0) (pe_call (ok_come_counts T) (hr.mono (by decide)) (by rfl) T.g_come_counts T.F_come_counts.kp T.b_come_counts .nil pass0 (pa_cons (pe_fldK (K := K) rfl (pv 0) rfl) pa_nil)) rfl)
      (pss_cons (ps_fld (pv 0) pe_dnewK rfl)
      (pss_one (ps_for PassesOwn.never rfl (pi_range1 (by rfl) T.n_range (pa_cons (pe_callB (call_len_seqK (K := K) rfl) (by rfl) T.n_len PySem.boot_len (pa_cons (pv 2) pa_nil)) pa_nil)) (pg_name (i := 4) sc_Plan_init.nd rfl (by first | exact Or.inl rfl | exact Or.inr rfl)) (pss_one (ps_if (pt_cmpR op_isN (pe_ix (ix_listK (K := K) rfl) (pe_fldK (K := K) rfl (pv 0) rfl) (pv 4) (fun _ _ => rfl)) pe_non (nomark _)) (pss_one (ps_dput (hu_of hr) (pe_fldK (K := K) rfl (pv 0) rfl) (pe_ix (ix_listK (K := K) rfl) (pe_fldK (K := K) rfl (pv 0) rfl) (pv 4) (fun _ _ => rfl)) (pe_op op_cat (pe_dget2 (hu_of hr) (pe_fldK (K := K) rfl (pv 0) rfl) (pe_ix (ix_listK (K := K) rfl) (pe_fldK (K := K) rfl (pv 0) rfl) (pv 4) (fun _ _ => rfl)) (pe_lst pa_nil) ⟨rfl, rfl, rfl, rfl⟩) (pe_lst (pa_cons (pv 4) pa_nil))) rfl)) pss_nil))))))))))), go_startI h ?_⟩)
  rintro m H0 G0 p dx ⟨L, o, l1, l3⟩ hend
  refine q_asgT (tg_pr 2 3) (ev_call m (ea_cons (ev_fst (ev_parts T.clM T.na_parts (ev_var rfl))) (ea_cons (ev_call m (ea_cons (ev_var rfl) ea_nil) o.le8) ea_nil)) ⟨L, o, l3⟩) ?_
  have oM := least_ok o
  have h8 := oM.le8
  have h1 := oM.pos
  refine q_fld (j := 0) (R := rSteps) (x := (leastM m).1) T.clP T.na_rows rfl rfl (by simp) (by decide) (ev_var rfl) ?_
  refine q_fld (j := 0) (R := rList rBool) (x := mkF (leastM m)) T.clP T.na_marks rfl rfl (show ("marks" : Str) ∉ [("rows" : Str)] by decide) (show 1 < 1000 by decide) (ev_var rfl) ?_
  refine q_fld (j := 0) (R := rMach A.M) (x := leastM m) T.clP T.na_least rfl rfl (show ("least" : Str) ∉ [("rows" : Str), ("marks" : Str)] by decide) (show 2 < 1000 by decide) (ev_least (i := 2) (j := 3) (a := 4) (b := 5) o l1 l3 rfl rfl 6 rfl (by decide) (by decide) (by decide)) ?_
  generalize leastM m = X at oM h8 h1 hend ⊢
  refine q_fld (j := 0) (R := rList rNat) (x := kindL X) T.clP T.na_kinds rfl rfl (show ("kinds" : Str) ∉ [("rows" : Str), ("marks" : Str), ("least" : Str)] by decide) (show 3 < 1000 by decide) (ev_call X (ea_cons (ev_fldO (x := X) T.clP T.na_least rfl rfl rfl) ea_nil) ⟨L, oM, l3⟩) ?_
  refine q_fld (j := 0) (R := rList (rOpt rNat)) (x := countsF X) T.clP T.na_counts rfl rfl (show ("counts" : Str) ∉ [("rows" : Str), ("marks" : Str), ("least" : Str), ("kinds" : Str)] by decide) (show 4 < 1000 by decide) (ev_call X (ea_cons (ev_fldO (x := X) T.clP T.na_least rfl rfl rfl) ea_nil) ⟨L, oM, l3⟩) ?_
  refine q_fldNew (j := 0) (R := rList rNat) T.clP T.na_stays rfl rfl (show ("stays" : Str) ∉ [("rows" : Str), ("marks" : Str), ("least" : Str), ("kinds" : Str), ("counts" : Str)] by decide) (show 5 < 1000 by decide) fun q => ?_
  have kAt : ∀ s, s < X.1.length → (kindL X)[s]? = some (kdOf X s) := fun s hs => kd_at oM hs
  have cAt : ∀ s, s < X.1.length → (countsF X)[s]? = some (B.fin fun k => wt X k s) := fun s hs => map_rng_at hs
  have gK : ∀ {S : Sl} {M : Mo} {s : Nat} {O : OS}, s < X.1.length → S[0]? = some (.own 0) → S[4]? = some (.is rNat s) → M[0]? = some (some (oIns A.P p dx (([("rows", .is rSteps X.1), ("marks", .is (rList rBool) (mkF X)), ("least", .is (rMach A.M) X), ("kinds", .is (rList rNat) (kindL X)), ("counts", .is (rList (rOpt rNat)) (countsF X))] : Fl) ++ ([("stays", .is (rAt q) ())] : Fl)))) → Ev none (tOp (rIxL K) (tFld K (tVar 0) "kinds") (tVar 4)) S M rNat (kdOf X s) := fun hs h0 h4 hm => ev_ixL (xs := kindL X) (ev_fldO T.clP T.na_kinds h0 hm rfl) (ev_var h4) (kAt _ hs)
  refine go_for (σt := Nat) (fun _ => [.own 0, .is (rMach A.M) m, .is rSteps X.1, .is (rList rBool) (mkF X), .no, .no]) (fun i => [some (oIns A.P p dx (([("rows", .is rSteps X.1), ("marks", .is (rList rBool) (mkF X)), ("least", .is (rMach A.M) X), ("kinds", .is (rList rNat) (kindL X)), ("counts", .is (rList (rOpt rNat)) (countsF X))] : Fl) ++ ([("stays", .is (rAt q) ())] : Fl))), some (oAt q (oDK (rList rNat) (stT X i)))]) (fun i j => j = i ∧ i ≤ X.1.length) 0 (it_range1 (n := X.1.length) (ev_lenT (R := rRow) (ev_var rfl)) (by omega)) (tg_name 4) ⟨rfl, Nat.zero_le _⟩ (Wk.refl _) rfl ?_ ?_
  · rintro G1 bs i0 i x hx ⟨ei, hi⟩
    subst ei
    obtain ⟨hin, ex⟩ := List.getElem?_eq_some_iff.mp hx
    rw [List.getElem_range'] at ex
    rw [List.length_range'] at hin
    have ex : x = i := by omega
    subst ex
    refine go_when (b := kernB X x) (et_test (ev_isN (ev_ixL (R := rOpt rNat) (xs := countsF X) (ev_fldO T.clP T.na_counts rfl rfl rfl) (ev_var rfl) (cAt x hin)))) (fun hu => ?_) (fun hu => ?_)
    · have hsl : (styI X x (kdOf X x)).length ≤ 8 := by
        refine Nat.le_trans (List.length_filter_le _ _) ?_
        rw [List.length_range']
        omega
      refine go_kputAt (j := 1) (q := q) (k := kdOf X x) (kvs := stT X x) (R := rList rNat) (x := (look (stT X x) (kdOf X x)).getD [] ++ [x]) (ev_fldO T.clP T.na_stays rfl rfl rfl) rfl (ev_cat (ev_kget2At (j := 1) (ev_fldO T.clP T.na_stays rfl rfl rfl) rfl (gK (O := oList rNat []) hin rfl rfl rfl) (ev_lst (xs := ([] : List Nat)) ea_nil (by simp))) (ev_lst (xs := [x]) (ea_cons (ev_var rfl) ea_nil) (by simp)) ?_) (gK (O := oList rNat []) hin rfl rfl rfl) (by have := stT_len X x; omega) ?_
      · rw [stT_look]
        cases h : (styI X x (kdOf X x)).isEmpty
        · show (styI X x (kdOf X x)).length + 1 ≤ _
          omega
        · show 0 + 1 ≤ _
          omega
      · refine go_turn (x + 1) ⟨rfl, hin⟩ (.same (.same (.same (.same (.no (.same .nil)))))) ?_
        show _ = [_, some (oAt q (oDK (rList rNat) (stT X (x + 1))))]
        rw [stT_succ, if_pos hu]
        rfl
    · refine go_turn (x + 1) ⟨rfl, hin⟩ (.same (.same (.same (.same (.no (.same .nil)))))) ?_
      show _ = [_, some (oAt q (oDK (rList rNat) (stT X (x + 1))))]
      rw [stT_succ, if_neg (by rw [hu]; decide)]
  · rintro _ ⟨rfl, hi⟩
    rw [List.length_range']
    refine go_frzFld (j := 0) (l := 1) rfl rfl (by decide) ?_
    exact hend _ _ rfl
structure PlP (X : Mc) : Prop where
  ex : ∃ L, Kds L (nCof X) X (kdOf X) ∧ 1 ≤ L ∧ L ≤ 3
noncomputable abbrev rPlan (C D : Addr) (X : Mc) : MR Unit := rIns D (plFl C X)
noncomputable abbrev sp_Plan_gap (C D : Addr) : Sp := prm (fun a : Mc × Nat × Nat => [.is (rPlan C D a.1) (), .is rNat a.2.1, .is rNat a.2.2]) (fun a => PlP a.1 ∧ a.2.1 < a.1.1.length ∧ a.2.2 < a.1.1.length ∧ Fq a.1 a.1 a.2.1 a.2.2) (fun _ => rNat) (fun a => gap a.1 a.2.1 a.2.2)
theorem ok_Plan_gap (T : Txt A K mg) : FnOk P w K mg base CX0 5 A.f_Plan_gap A.d_Plan_gap ps_Plan_gap (sp_Plan_gap A.M A.P) := by
  refine T.F_Plan_gap.ok sc_Plan_gap (fun vs H Q E h => prm_len (fun _ => rfl) h) (fun cdv Ar outer s H vs Q E hr h => ⟨_, (pss_one (ps_ret (pe_ix (ix_tupK (K := K) rfl) (pe_call (ok_counted T) (hr.mono (by decide)) (by rfl) T.g_counted T.F_counted.kp T.b_counted .nil pass0 (pa_cons (pe_fldK (K := K) rfl (pv 0) rfl) (pa_cons (pe_fldK (K := K) rfl (pv 0) rfl) (pa_cons (pe_tup (pa_cons (pv 1) (pa_cons (pv 2) pa_nil))) pa_nil)))) pe_int (fun _ _ => rfl)))), go_start h ?_⟩)
  rintro ⟨X, a, b⟩ H0 G0 ⟨⟨L, C, l1, l3⟩, ha, hb, hf⟩ hq
  have fl : ∀ {S : Sl} {M : Mo}, S[0]? = some (.is (rPlan A.M A.P X) ()) → Ev none (tFld K (tVar 0) "least") S M (rMach A.M) X := fun h => ev_fld T.clP T.na_least (ev_var h) rfl
  refine go_ret hq (ev_cnt0 (ev_call (X, X, ((a, b) : Pr)) (ea_cons (fl rfl) (ea_cons (fl rfl) (ea_cons (ev_pr (ev_var rfl) (ev_var rfl)) ea_nil))) ⟨L, C.k.ok, C.k.ok, ⟨ha, hb⟩, l3⟩) fun r hr => ?_)
  have hr : r.map (·.1) = tot X X (a, b) := hr
  obtain ⟨t, ht⟩ := Option.isSome_iff_exists.mp (fq_tot.mpr hf)
  rw [ht] at hr
  cases r with
  | none => cases hr
  | some x =>
    refine ⟨x.2, ?_⟩
    show some x = some (gap X a b, x.2)
    unfold gap
    rw [ht]
    exact congrArg some (Prod.ext (Option.some.inj hr) rfl)
noncomputable abbrev sp_Plan_early (C D : Addr) : Sp := prm (fun a : Mc × Nat => [.is (rPlan C D a.1) (), .is rNat a.2]) (fun a => PlP a.1) (fun _ => rList rNat) (fun a => cls a.1 (kdOf a.1) a.2)
theorem ok_Plan_early (T : Txt A K mg) : FnOk P w K mg base CX0 1 A.f_Plan_early A.d_Plan_early ps_Plan_early (sp_Plan_early A.M A.P) := by
  refine T.F_Plan_early.ok sc_Plan_early (fun vs H Q E h => prm_len (fun _ => rfl) h) (fun cdv Ar outer s H vs Q E hr h => ⟨_, (pss_one (ps_ret (pe_lc (own := [("stand", 2)]) (g := gName 2) (by rfl) sc_Plan_early.nd (pi_range1 (by rfl) T.n_range (pa_cons (pe_callB (call_len_seqK (K := K) rfl) (by rfl) T.n_len PySem.boot_len (pa_cons (pe_fldK (K := K) rfl (pv 0) rfl) pa_nil)) pa_nil)) (blkOk_by (own := [("stand", 2)]) (N := nm_Plan_early) (sc := defScope st_Plan_early) (by decide +kernel)) (fun _ _ _ _ _ => (pg_name (i := 2) sc_Plan_early.nd rfl (by first | exact Or.inl rfl | exact Or.inr rfl))) (fun _ _ _ _ _ => (pts_one (pt_cmpR op_eq (pe_ix (ix_listK (K := K) rfl) (pe_fldK (K := K) rfl (pv 0) rfl) (pv 2) (fun _ _ => rfl)) (pv 1) (nomark _)))) (fun _ _ _ _ _ => (pv 2))))), go_start h ?_⟩)
  rintro ⟨X, c⟩ H0 G0 ⟨L, C, l1, l3⟩ hq
  have h8 : X.1.length ≤ 8 := C.k.ok.le8
  refine go_ret hq (ev_eq (ev_lc (T := rNat) (R := rNat) (fun s => decide (kdOf X s = c)) id (it_range1 (n := X.1.length) (ev_lenT (R := rRow) (xs := X.1) (ev_fld T.clP T.na_rows (ev_var (x := ()) rfl) rfl)) (by omega)) (tg_name 2) (by simp) (by rw [List.length_range']; omega) (fun s hs mm => ?_) fun s hs _ mm => ev_var rfl) ?_)
  · rw [List.mem_range'_1] at hs
    exact et_test (ev_eqN (ev_ixL (xs := kindL X) (R := rNat) (ev_fld T.clP T.na_kinds (ev_var (x := ()) rfl) rfl) (ev_var rfl) (kd_at C.k.ok (show s < X.1.length by have h2 := hs.2; rw [Nat.zero_add] at h2; exact h2))) (ev_var rfl))
  · rw [List.map_id]
    rfl
end
end B
namespace B
open PySem L2
section
variable {P : Program} {w : World} {A : Ad} {K : PySem.W.Frag} {mg : Str → Option Value} {base : Heap}
abbrev rNd : MR Nd := rPr rStr rNat
structure BsP (X : Mc) (gs ws : List Nat) : Prop where
  pl : PlP X
  len : gs.length ≤ 8
  ne : ∃ g0, gs[0]? = some g0 ∧ KK X (kdOf X) (kdOf X g0) ∧ ∀ g ∈ gs, g < X.1.length ∧ kdOf X g = kdOf X g0
  ws : ∀ v ∈ ws, v < 2 ^ 64
noncomputable def bsF (X : Mc) (gs ws : List Nat) : Nat × Nat :=
  (minL ((sty X (kdOf X) (kdOf X (gs.getD 0 0))).map (zCost X gs ws)), bestSt (zCost X gs ws) (sty X (kdOf X) (kdOf X (gs.getD 0 0))))
noncomputable abbrev sp_best_stay (C D : Addr) : Sp := prm (fun a : Mc × List Nat × List Nat => [.is (rPlan C D a.1) (), .is (rList rNat) a.2.1, .is (rList rNat) a.2.2]) (fun a => BsP a.1 a.2.1 a.2.2) (fun _ => rPr rNat rNat) (fun a => bsF a.1 a.2.1 a.2.2)
theorem ok_best_stay (T : Txt A K mg) : FnOk P w K mg base CX0 6 A.f_best_stay A.d_best_stay ps_best_stay (sp_best_stay A.M A.P) := by
  refine T.F_best_stay.ok sc_best_stay (fun vs H Q E h => prm_len (fun _ => rfl) h) (fun cdv Ar outer s H vs Q E hr h => ⟨_, (pss_cons (ps_set (i := 3) sc_best_stay.nd rfl (by first | exact Or.inl rfl | exact Or.inr rfl) (pe_lst pa_nil))
      (pss_cons (ps_for PassesOwn.never rfl (pi_listK (K := K) rfl (pe_dget (hu_of hr) (pe_fldK (K := K) rfl (pv 0) rfl) (pe_ix (ix_listK (K := K) rfl) (pe_fldK (K := K) rfl (pv 0) rfl) (pe_ix (ix_listK (K := K) rfl) (pv 1) pe_int (fun _ _ => rfl)) (fun _ _ => rfl)) (fun _ _ => rfl))) (pg_name (i := 4) sc_best_stay.nd rfl (by first | exact Or.inl rfl | exact Or.inr rfl)) (pss_one (ps_expr (pe_bm PySem.F.plainAttrs_list PySem.F.slot_list_append PySem.F.type_list_append mt_append (pv 3) (pa_cons (pe_tup (pa_cons (pe_callB (cr_sumK (K := K) rfl rfl) (by rfl) T.n_sum (by decide +kernel) (pa_cons (pe_lc (own := [("stand", 5), ("many", 6)]) (g := gTup K 2 (gCons (gName 5) (gCons (gName 6) gNil))) (by rfl) sc_best_stay.nd (pi_zipK (K := K) rfl (by rfl) T.n_zip (pa_cons (pv 1) (pa_cons (pv 2) pa_nil))) (blkOk_by (own := [("stand", 5), ("many", 6)]) (N := nm_best_stay) (sc := defScope st_best_stay) (by decide +kernel)) (fun _ _ _ _ _ => (pg_tupK (K := K) rfl (by rfl) (pgs_cons (pg_name (i := 5) sc_best_stay.nd rfl (by first | exact Or.inl rfl | exact Or.inr rfl)) (pgs_cons (pg_name (i := 6) sc_best_stay.nd rfl (by first | exact Or.inl rfl | exact Or.inr rfl)) pgs_nil)))) (fun _ _ _ _ _ => pts_nil) (fun _ _ _ _ _ => (pe_op op_mul (pv 6) (pe_meth (pv 0) T.clP T.me_gap (ok_Plan_gap T) (hr.mono (by decide)) T.b_Plan_gap .nil pass0 (pa_cons (pv 5) (pa_cons (pv 4) pa_nil)))))) pa_nil)) (pa_cons (pv 4) pa_nil))) pa_nil)))))
      (pss_one (ps_ret (pe_callB (cr_minPK (K := K) rfl rfl hr.units) (by rfl) T.n_min (by decide +kernel) (pa_cons (pv 3) pa_nil)))))), go_start h ?_⟩)
  rintro ⟨X, gs, ws⟩ H0 G0 ⟨pl, hl8, ⟨g0, hg0, hkk, hgs⟩, hws⟩ hq
  obtain ⟨L, C, l1, l3⟩ := id pl
  have h8 : X.1.length ≤ 8 := C.k.ok.le8
  have eg0 : gs.getD 0 0 = g0 := by rw [List.getD_eq_getElem?_getD, hg0]; rfl
  have hg0l := (hgs g0 (List.mem_of_getElem? hg0)).1
  dsimp only at hl8 hg0 hgs hws hq ⊢
  have hbs : bsF X gs ws = (minL ((sty X (kdOf X) (kdOf X g0)).map (zCost X gs ws)), bestSt (zCost X gs ws) (sty X (kdOf X) (kdOf X g0))) := by unfold bsF; rw [eg0]
  rw [hbs] at hq
  have hst : look (stT X X.1.length) (kdOf X g0) = some (sty X (kdOf X) (kdOf X g0)) := by rw [stT_sty, if_neg (by rw [sty_kk.mpr hkk]; decide)]
  have hinc := sty_inc X (kdOf X) (kdOf X g0)
  have hmem : ∀ t ∈ sty X (kdOf X) (kdOf X g0), t < X.1.length ∧ kdOf X t = kdOf X g0 := fun t ht => ⟨(mem_sty.mp ht).1, (mem_sty.mp ht).2.2⟩
  have hsl : (sty X (kdOf X) (kdOf X g0)).length ≤ 8 := by
    refine Nat.le_trans (List.length_filter_le _ _) ?_
    rw [List.length_range']
    exact h8
  have hne : sty X (kdOf X) (kdOf X g0) ≠ [] := fun e => by
    have := sty_kk.mpr hkk
    rw [e] at this
    cases this
  generalize sty X (kdOf X) (kdOf X g0) = ts at hst hinc hmem hsl hq hne ⊢
  have pf : ∀ {S : Sl} {M : Mo} {f : Str} {α : Type} {R : MR α} {x : α}, NoAttr K A.P f → S[0]? = some (.is (rPlan A.M A.P X) ()) → (plFl A.M X).lookup f = some (.is R x) → Ev none (tFld K (tVar 0) f) S M R x := fun na h hf => ev_fld T.clP na (ev_var h) hf
  refine q_asg (eg_own (eo_nil (R := rPr rNat rNat))) ?_
  refine q_for (σt := List (Nat × Nat)) (fun _ => [.is (rPlan A.M A.P X) (), .is (rList rNat) gs, .is (rList rNat) ws, .own 0, .no, .no, .no]) (fun l => [some (oList (rPr rNat rNat) l)]) (fun i l => l = (ts.take i).map fun t => (zCost X gs ws t, t)) []
    (it_list (R := rNat) (xs := ts) (ev_fget (R := rList rNat) (kvs := stT X X.1.length) (k := kdOf X g0) (pf T.na_stays rfl rfl) (ev_ixL (xs := kindL X) (R := rNat) (pf T.na_kinds rfl rfl) (ev_ixL (R := rNat) (ev_var rfl) ev_nat0 hg0) (kd_at C.k.ok hg0l)) hst)) (tg_name 4) rfl (Wk.refl _) rfl ?_ ?_
  · rintro G1 bs i l t ht rfl
    dsimp only
    have htm := hmem t (List.mem_of_getElem? ht)
    refine go_app (x := (zCost X gs ws t, t)) rfl rfl (by rw [List.length_map, List.length_take]; omega) (ev_pr (ev_sumN (ev_lc0 (T := rNat) (fun p => p.2 * gap X p.1 t) (it_zip (R := rNat) (T := rNat) (ev_var rfl) (ev_var rfl)) (tg_pr 5 6) (by simp) (by rw [List.length_zip]; omega) fun p hp mm => ?_)) (ev_var rfl)) ?_
    · obtain ⟨p1, p2⟩ := List.of_mem_zip hp
      have hg := hgs p.1 p1
      refine ev_mulN (ev_var rfl) (ev_meth ((X, p.1, t) : Mc × Nat × Nat) rfl rfl (ev_var rfl) (ea_cons (ev_var rfl) (ea_cons (ev_var rfl) ea_nil)) ⟨pl, hg.1, htm.1, (C.k.iff _ _ hg.1 htm.1).mp (hg.2.trans htm.2.symm)⟩) (.inl (hws p.2 p2))
    · refine go_turn _ ?_ (.same (.same (.same (.same (.no (.same (.same .nil))))))) rfl
      rw [take_snoc ht, List.map_append]
      rfl
  · rintro l rfl
    rw [List.take_length]
    obtain ⟨b1, b2⟩ := bestSt_spec (f := zCost X gs ws) hne
    refine go_frzL (i := 3) rfl rfl (go_ret hq (ev_minP (ev_var rfl) (List.mem_map.mpr ⟨_, b1, by rw [b2]⟩) fun y hy => ?_))
    obtain ⟨t, ht, rfl⟩ := List.mem_map.mp hy
    rw [← b2]
    have hf := bestSt_first (f := zCost X gs ws) hinc ht
    exact hf
theorem lk_lat {X : Mc} {L : Nat} (C : Kds L (nCof X) X (kdOf X)) {c a s : Nat} (hs : s ∈ cls X (kdOf X) c) (ha : a < L) : kdOf X (ltr X a s) = lat X (kdOf X) c a := (C.lat_eq (mem_cls.mp hs).1 (mem_cls.mp hs).2 ha).symm
noncomputable abbrev sp_goal_for (C D : Addr) : Sp := prm (fun a : Mc × Nat × Nat => [.is (rPlan C D a.1) (), .is rNat a.2.1, .is rNat a.2.2]) (fun a => ∃ L, Kds L (nCof a.1) a.1 (kdOf a.1) ∧ 1 ≤ L ∧ L ≤ 3 ∧ a.2.1 < nCof a.1 ∧ ¬ KK a.1 (kdOf a.1) a.2.1 ∧ a.2.2 < L) (fun _ => rPr rNat rNd) (fun a => (exitC a.1 (kdOf a.1) a.2.1 a.2.2, goalNd a.1 (kdOf a.1) a.2.1 a.2.2))
theorem ok_goal_for (T : Txt A K mg) : FnOk P w K mg base CX0 7 A.f_goal_for A.d_goal_for ps_goal_for (sp_goal_for A.M A.P) := by
  refine T.F_goal_for.ok sc_goal_for (fun vs H Q E h => prm_len (fun _ => rfl) h) (fun cdv Ar outer s H vs Q E hr h => ⟨_, (pss_cons (ps_set (i := 3) sc_goal_for.nd rfl (by first | exact Or.inl rfl | exact Or.inr rfl) (pe_meth (pv 0) T.clP T.me_early (ok_Plan_early T) (hr.mono (by decide)) T.b_Plan_early .nil pass0 (pa_cons (pv 1) pa_nil)))
      (pss_cons (ps_setLc (i := 4) (own := [("stand", 8)]) (g := gName 8) (by rfl) sc_goal_for.nd rfl rfl (sw_true rfl rfl rfl (by decide +kernel)) (pi_listK (K := K) rfl (pv 3)) (blkOk_by (own := [("stand", 8)]) (N := nm_goal_for) (sc := defScope st_goal_for) (by decide +kernel)) (fun _ _ _ _ _ => (pg_name (i := 8) sc_goal_for.nd rfl (by first | exact Or.inl rfl | exact Or.inr rfl))) (fun _ _ _ _ _ => pts_nil) (fun _ _ _ _ _ => (pe_ix (ix_tupK (K := K) rfl) (pe_ix (ix_tupK (K := K) rfl) (pe_fldK (K := K) rfl (pv 0) rfl) (pv 8) (fun _ _ => rfl)) (pv 2) (fun _ _ => rfl))))
      (pss_cons (ps_set (i := 5) sc_goal_for.nd rfl (by first | exact Or.inl rfl | exact Or.inr rfl) (pe_ix (ix_listK (K := K) rfl) (pe_fldK (K := K) rfl (pv 0) rfl) (pe_ix (ix_listK (K := K) rfl) (pv 4) pe_int (fun _ _ => rfl)) (fun _ _ => rfl)))
      (pss_cons (ps_if (pt_cmp (pc_dnotin (hu_of hr) (pv 5) (pe_fldK (K := K) rfl (pv 0) rfl))) (pss_one (ps_ret (pe_tup (pa_cons pe_int (pa_cons (pe_tup (pa_cons (pe_glob (v := .str "early") (by rfl) T.c_EARLY ⟨_, rfl⟩) (pa_cons (pv 5) pa_nil))) pa_nil))))) pss_nil)
      (pss_cons (ps_asg (pe_call (ok_best_stay T) (hr.mono (by decide)) (by rfl) T.g_best_stay T.F_best_stay.kp T.b_best_stay .nil pass0 (pa_cons (pv 0) (pa_cons (pv 4) (pa_cons (pe_lc (own := [("stand", 8)]) (g := gName 8) (by rfl) sc_goal_for.nd (pi_listK (K := K) rfl (pv 3)) (blkOk_by (own := [("stand", 8)]) (N := nm_goal_for) (sc := defScope st_goal_for) (by decide +kernel)) (fun _ _ _ _ _ => (pg_name (i := 8) sc_goal_for.nd rfl (by first | exact Or.inl rfl | exact Or.inr rfl))) (fun _ _ _ _ _ => pts_nil) (fun _ _ _ _ _ => (pe_ix (ix_listK (K := K) rfl) (pe_fldK (K := K) rfl (pv 0) rfl) (pv 8) (fun _ _ => rfl)))) pa_nil)))) (pg_tupK (K := K) rfl (by rfl) (pgs_cons (pg_name (i := 6) sc_goal_for.nd rfl (by first | exact Or.inl rfl | exact Or.inr rfl)) (pgs_cons (pg_name (i := 7) sc_goal_for.nd rfl (by first | exact Or.inl rfl | exact Or.inr rfl)) pgs_nil))))
      (pss_one (ps_ret (pe_tup (pa_cons (pv 6) (pa_cons (pe_tup (pa_cons (pe_glob (v := .str "kernel") (by rfl) T.c_KERNEL ⟨_, rfl⟩) (pa_cons (pv 7) pa_nil))) pa_nil)))))))))), go_start h ?_⟩)
  rintro ⟨X, c, a⟩ H0 G0 ⟨L, C, l1, l3, hc, hk, ha⟩ hq
  dsimp only at C hc hk ha hq ⊢
  have o := C.k.ok
  have h8 : X.1.length ≤ 8 := o.le8
  have pl : PlP X := ⟨L, C, l1, l3⟩
  have pf : ∀ {S : Sl} {M : Mo} {f : Str} {α : Type} {R : MR α} {x : α}, NoAttr K A.P f → S[0]? = some (.is (rPlan A.M A.P X) ()) → (plFl A.M X).lookup f = some (.is R x) → Ev none (tFld K (tVar 0) f) S M R x := fun na h hf => ev_fld T.clP na (ev_var h) hf
  obtain ⟨s0, r, hcl, hs0, es0⟩ := C.cls_ne hc
  have hcl8 : (cls X (kdOf X) c).length ≤ 8 := by
    refine Nat.le_trans (List.length_filter_le _ _) ?_
    rw [List.length_range']
    exact h8
  refine q_asg (eg_ev (ev_meth ((X, c) : Mc × Nat) rfl rfl (ev_var rfl) (ea_cons (ev_var rfl) ea_nil) pl)) ?_
  refine q_asg (eg_ev (ev_lc0 (T := rNat) (ltr X a) (it_list (R := rNat) (xs := cls X (kdOf X) c) (ev_var rfl)) (tg_name 8) (by simp) (by omega) fun s hs mm => ?_)) ?_
  · have hs1 := (mem_cls.mp hs).1
    exact ev_ixT (ev_ixT (R := rRow) (xs := X.1) (pf T.na_rows rfl rfl) (ev_var rfl) (row_at hs1)) (ev_var rfl) (ltr_at o hs1 ha)
  have hg0 : ((cls X (kdOf X) c).map (ltr X a))[0]? = some (ltr X a s0) := by rw [hcl]; rfl
  have elat : kdOf X (ltr X a s0) = lat X (kdOf X) c a := lk_lat C (by rw [hcl]; exact List.mem_cons_self) ha
  have hgl0 := ltr_lt o hs0 ha
  refine q_asg (eg_ev (ev_eq (ev_ixL (xs := kindL X) (R := rNat) (pf T.na_kinds rfl rfl) (ev_ixL (R := rNat) (ev_var rfl) ev_nat0 hg0) (kd_at o hgl0)) elat)) ?_
  refine q_when (b := (sty X (kdOf X) (lat X (kdOf X) c a)).isEmpty) (et_eq (et_B (ev_fnin (R := rList rNat) (kvs := stT X X.1.length) (pf T.na_stays rfl rfl) (ev_var rfl))) ?_) (fun hb => ?_) (fun hb => ?_)
  · rw [stT_sty]
    cases (sty X (kdOf X) (lat X (kdOf X) c a)).isEmpty <;> rfl
  · refine go_ret hq (ev_eq (ev_pr ev_nat0 (ev_pr (R := rStr) (x := "early") ev_str (ev_var rfl))) ?_)
    have hnk := sty_nk.mp hb
    rw [goalNd_nk hnk]
    unfold exitC
    rw [if_pos hb]
  · have hkk := sty_kk.mp hb
    have cAt : ∀ s, s < X.1.length → (countsF X)[s]? = some (B.fin fun k => wt X k s) := fun s hs => map_rng_at hs
    refine q_asgT (tg_pr 6 7) (ev_call ((X, (cls X (kdOf X) c).map (ltr X a), (cls X (kdOf X) c).map (cv X)) : Mc × List Nat × List Nat) (ea_cons (ev_var rfl) (ea_cons (ev_var rfl) (ea_cons (ev_lc0 (T := rNat) (cv X) (it_list (R := rNat) (xs := cls X (kdOf X) c) (ev_var rfl)) (tg_name 8) (by simp) (by omega) fun s hs mm => ?_) ea_nil))) ⟨pl, by rw [List.length_map]; exact hcl8, ⟨_, hg0, by rw [elat]; exact hkk, fun g hg => ?_⟩, fun v hv => ?_⟩) ?_
    · exact ev_some (ev_ixL (R := rOpt rNat) (xs := countsF X) (pf T.na_counts rfl rfl) (ev_var rfl) (cAt s (mem_cls.mp hs).1)) (cv_some (cls_nk hk hs))
    · obtain ⟨s, hs, rfl⟩ := List.mem_map.mp hg
      exact ⟨ltr_lt o (mem_cls.mp hs).1 ha, by rw [lk_lat C hs ha, elat]⟩
    · obtain ⟨s, hs, rfl⟩ := List.mem_map.mp hv
      exact cv_lt o l3 (cls_nk hk hs)
    · refine go_ret hq (ev_eq (ev_pr (ev_var rfl) (ev_pr (R := rStr) (x := "kernel") ev_str (ev_var rfl))) ?_)
      unfold bsF exitC goalNd
      rw [zCost_cost, if_neg (by rw [hb]; decide), if_neg (by rw [hb]; decide), List.getD_eq_getElem?_getD, hg0]
      dsimp only [Option.getD_some]
      rw [elat]
noncomputable abbrev sp_mark_for (C D : Addr) : Sp := prm (fun a : Mc × Nat => [.is (rPlan C D a.1) (), .is rNat a.2]) (fun a => PlP a.1 ∧ ¬ KK a.1 (kdOf a.1) a.2) (fun _ => rPr rNat rBool) (fun a => (min (goodC a.1 (kdOf a.1) a.2) (badC a.1 (kdOf a.1) a.2), decide (badC a.1 (kdOf a.1) a.2 < goodC a.1 (kdOf a.1) a.2)))
theorem ok_mark_for (T : Txt A K mg) : FnOk P w K mg base CX0 2 A.f_mark_for A.d_mark_for ps_mark_for (sp_mark_for A.M A.P) := by
  refine T.F_mark_for.ok sc_mark_for (fun vs H Q E h => prm_len (fun _ => rfl) h) (fun cdv Ar outer s H vs Q E hr h => ⟨_, (pss_cons (ps_set (i := 2) sc_mark_for.nd rfl (by first | exact Or.inl rfl | exact Or.inr rfl) (pe_callB (cr_sumK (K := K) rfl rfl) (by rfl) T.n_sum (by decide +kernel) (pa_cons (pe_lc (own := [("stand", 4)]) (g := gName 4) (by rfl) sc_mark_for.nd (pi_listK (K := K) rfl (pe_meth (pv 0) T.clP T.me_early (ok_Plan_early T) (hr.mono (by decide)) T.b_Plan_early .nil pass0 (pa_cons (pv 1) pa_nil))) (blkOk_by (own := [("stand", 4)]) (N := nm_mark_for) (sc := defScope st_mark_for) (by decide +kernel)) (fun _ _ _ _ _ => (pg_name (i := 4) sc_mark_for.nd rfl (by first | exact Or.inl rfl | exact Or.inr rfl))) (fun _ _ _ _ _ => (pts_one (pt_val (pe_ix (ix_listK (K := K) rfl) (pe_fldK (K := K) rfl (pv 0) rfl) (pv 4) (fun _ _ => rfl))))) (fun _ _ _ _ _ => (pe_ix (ix_listK (K := K) rfl) (pe_fldK (K := K) rfl (pv 0) rfl) (pv 4) (fun _ _ => rfl)))) pa_nil)))
      (pss_cons (ps_set (i := 3) sc_mark_for.nd rfl (by first | exact Or.inl rfl | exact Or.inr rfl) (pe_callB (cr_sumK (K := K) rfl rfl) (by rfl) T.n_sum (by decide +kernel) (pa_cons (pe_lc (own := [("stand", 4)]) (g := gName 4) (by rfl) sc_mark_for.nd (pi_listK (K := K) rfl (pe_meth (pv 0) T.clP T.me_early (ok_Plan_early T) (hr.mono (by decide)) T.b_Plan_early .nil pass0 (pa_cons (pv 1) pa_nil))) (blkOk_by (own := [("stand", 4)]) (N := nm_mark_for) (sc := defScope st_mark_for) (by decide +kernel)) (fun _ _ _ _ _ => (pg_name (i := 4) sc_mark_for.nd rfl (by first | exact Or.inl rfl | exact Or.inr rfl))) (fun _ _ _ _ _ => (pts_one (pt_not (pt_val (pe_ix (ix_listK (K := K) rfl) (pe_fldK (K := K) rfl (pv 0) rfl) (pv 4) (fun _ _ => rfl)))))) (fun _ _ _ _ _ => (pe_ix (ix_listK (K := K) rfl) (pe_fldK (K := K) rfl (pv 0) rfl) (pv 4) (fun _ _ => rfl)))) pa_nil)))
      (pss_one (ps_ret (pe_tup (pa_cons (pe_callB (call_min2 rfl) (by rfl) T.n_min (by decide +kernel) (pa_cons (pv 2) (pa_cons (pv 3) pa_nil))) (pa_cons (pe_cmpR op_gt (pv 2) (pv 3) (nomark _)) pa_nil))))))), go_start h ?_⟩)
  rintro ⟨X, c⟩ H0 G0 ⟨pl, hk⟩ hq
  obtain ⟨L, C, l1, l3⟩ := id pl
  dsimp only at hk hq ⊢
  have h8 : X.1.length ≤ 8 := C.k.ok.le8
  have hcl8 : (cls X (kdOf X) c).length ≤ 1000000 := by
    refine Nat.le_trans (List.length_filter_le _ _) ?_
    rw [List.length_range']
    omega
  have pf : ∀ {S : Sl} {M : Mo} {f : Str} {α : Type} {R : MR α} {x : α}, NoAttr K A.P f → S[0]? = some (.is (rPlan A.M A.P X) ()) → (plFl A.M X).lookup f = some (.is R x) → Ev none (tFld K (tVar 0) f) S M R x := fun na h hf => ev_fld T.clP na (ev_var h) hf
  have cAt : ∀ s, s < X.1.length → (countsF X)[s]? = some (B.fin fun k => wt X k s) := fun s hs => map_rng_at hs
  refine q_asg (eg_ev (ev_sumN (ev_lc (T := rNat) (R := rNat) (fun s => decide (s ∈ X.2)) (cv X) (it_list (ev_meth ((X, c) : Mc × Nat) rfl rfl (ev_var rfl) (ea_cons (ev_var rfl) ea_nil) pl)) (tg_name 4) (by simp) hcl8 (fun s hs mm => et_B (ev_ixL (R := rBool) (xs := mkF X) (pf T.na_marks rfl rfl) (ev_var rfl) (mk_at (mem_cls.mp hs).1))) fun s hs _ mm => ev_some (ev_ixL (R := rOpt rNat) (xs := countsF X) (pf T.na_counts rfl rfl) (ev_var rfl) (cAt s (mem_cls.mp hs).1)) (cv_some (cls_nk hk hs))))) ?_
  refine q_asg (eg_ev (ev_sumN (ev_lc (T := rNat) (R := rNat) (fun s => !decide (s ∈ X.2)) (cv X) (it_list (ev_meth ((X, c) : Mc × Nat) rfl rfl (ev_var rfl) (ea_cons (ev_var rfl) ea_nil) pl)) (tg_name 4) (by simp) hcl8 (fun s hs mm => et_not (et_B (ev_ixL (R := rBool) (xs := mkF X) (pf T.na_marks rfl rfl) (ev_var rfl) (mk_at (mem_cls.mp hs).1)))) fun s hs _ mm => ev_some (ev_ixL (R := rOpt rNat) (xs := countsF X) (pf T.na_counts rfl rfl) (ev_var rfl) (cAt s (mem_cls.mp hs).1)) (cv_some (cls_nk hk hs))))) ?_
  exact go_ret hq (ev_pr (ev_min2 (ev_var rfl) (ev_var rfl)) (ev_gtN (ev_var rfl) (ev_var rfl)))
noncomputable abbrev sp_begin_for (C D : Addr) : Sp := prm (fun X : Mc => [.is (rPlan C D X) ()]) PlP (fun _ => rPr rNat rNd) (fun X => (begCost X (kdOf X), begNd X (kdOf X)))
theorem ok_begin_for (T : Txt A K mg) : FnOk P w K mg base CX0 7 A.f_begin_for A.d_begin_for ps_begin_for (sp_begin_for A.M A.P) := by
  refine T.F_begin_for.ok sc_begin_for (fun vs H Q E h => prm_len (fun _ => rfl) h) (fun cdv Ar outer s H vs Q E hr h => ⟨_, (pss_cons (ps_if (pt_cmp (pc_dnotin (hu_of hr) (pe_ix (ix_listK (K := K) rfl) (pe_fldK (K := K) rfl (pv 0) rfl) pe_int (fun _ _ => rfl)) (pe_fldK (K := K) rfl (pv 0) rfl))) (pss_one (ps_ret (pe_tup (pa_cons pe_int (pa_cons (pe_tup (pa_cons (pe_glob (v := .str "early") (by rfl) T.c_EARLY ⟨_, rfl⟩) (pa_cons (pe_ix (ix_listK (K := K) rfl) (pe_fldK (K := K) rfl (pv 0) rfl) pe_int (fun _ _ => rfl)) pa_nil))) pa_nil))))) pss_nil)
      (pss_cons (ps_asg (pe_call (ok_best_stay T) (hr.mono (by decide)) (by rfl) T.g_best_stay T.F_best_stay.kp T.b_best_stay .nil pass0 (pa_cons (pv 0) (pa_cons (pe_lst (pa_cons pe_int pa_nil)) (pa_cons (pe_lst (pa_cons pe_int pa_nil)) pa_nil)))) (pg_tupK (K := K) rfl (by rfl) (pgs_cons (pg_name (i := 1) sc_begin_for.nd rfl (by first | exact Or.inl rfl | exact Or.inr rfl)) (pgs_cons (pg_name (i := 2) sc_begin_for.nd rfl (by first | exact Or.inl rfl | exact Or.inr rfl)) pgs_nil))))
      (pss_one (ps_ret (pe_tup (pa_cons (pv 1) (pa_cons (pe_tup (pa_cons (pe_glob (v := .str "kernel") (by rfl) T.c_KERNEL ⟨_, rfl⟩) (pa_cons (pv 2) pa_nil))) pa_nil))))))), go_start h ?_⟩)
  rintro X H0 G0 pl hq
  obtain ⟨L, C, l1, l3⟩ := id pl
  have h1 := C.k.ok.pos
  have pf : ∀ {S : Sl} {M : Mo} {f : Str} {α : Type} {R : MR α} {x : α}, NoAttr K A.P f → S[0]? = some (.is (rPlan A.M A.P X) ()) → (plFl A.M X).lookup f = some (.is R x) → Ev none (tFld K (tVar 0) f) S M R x := fun na h hf => ev_fld T.clP na (ev_var h) hf
  have k0 : ∀ {S : Sl} {M : Mo}, S[0]? = some (.is (rPlan A.M A.P X) ()) → Ev none (tOp (rIxL K) (tFld K (tVar 0) "kinds") (tC (.int 0))) S M rNat (kdOf X 0) := fun h => ev_ixL (xs := kindL X) (pf T.na_kinds h rfl) ev_nat0 (kd_at C.k.ok h1)
  refine q_when (b := (sty X (kdOf X) (kdOf X 0)).isEmpty) (et_eq (et_B (ev_fnin (R := rList rNat) (kvs := stT X X.1.length) (pf T.na_stays rfl rfl) (k0 rfl))) ?_) (fun hb => ?_) (fun hb => ?_)
  · rw [stT_sty]
    cases (sty X (kdOf X) (kdOf X 0)).isEmpty <;> rfl
  · refine go_ret hq (ev_eq (ev_pr ev_nat0 (ev_pr (R := rStr) (x := "early") ev_str (k0 rfl))) ?_)
    unfold begCost begNd
    rw [if_pos hb, if_pos hb]
  · refine q_asgT (tg_pr 1 2) (ev_call ((X, [0], [1]) : Mc × List Nat × List Nat) (ea_cons (ev_var rfl) (ea_cons (ev_lst (xs := [0]) (ea_cons ev_nat0 ea_nil) (by simp)) (ea_cons (ev_lst (xs := [1]) (ea_cons ev_nat1 ea_nil) (by simp)) ea_nil))) ⟨pl, by show 1 ≤ 8; decide, ⟨0, rfl, sty_kk.mp hb, fun g hg => by rw [List.mem_singleton.mp hg]; exact ⟨h1, rfl⟩⟩, fun v hv => by rw [List.mem_singleton.mp hv]; decide⟩) ?_
    refine go_ret hq (ev_eq (ev_pr (ev_var rfl) (ev_pr (R := rStr) (x := "kernel") ev_str (ev_var rfl))) ?_)
    unfold bsF begCost begNd begC
    rw [zCost_beg, if_neg (by rw [hb]; decide), if_neg (by rw [hb]; decide)]
    rfl
end
end B
namespace B
open PySem L2
def Lof (m : Mc) : Nat := (row m 0).length
theorem lof_eq {L : Nat} {m : Mc} (o : OkM L m) : Lof m = L := o.row_len o.pos
noncomputable def builtF (L : Nat) (X : Mc) : Nat × List (List Nat) × List Bool := (builtT L X (kdOf X), bfsRows (nodeNx L X (kdOf X)) (BN L X (kdOf X)), (BN L X (kdOf X)).map (nodeMk X (kdOf X)))
section
variable {P : Program} {w : World} {A : Ad} {K : PySem.W.Frag} {mg : Str → Option Value} {base : Heap}
noncomputable abbrev sp_built (C : Addr) : Sp := prm (sg1 C) Ok1w (fun _ => rTri rNat rSteps (rList rBool)) (fun m => builtF (Lof m) (leastM m))
structure NdP (L : Nat) (X : Mc) (nd : Nd) (s : List (Nat × Nd) × Nat × Bool) : Prop where
  gl : s.1.map (·.2) = nodeNx L X (kdOf X) nd
  sum : (s.1.map (·.1)).sum + s.2.1 = nodeCost L X (kdOf X) nd
  mark : s.2.2 = nodeMk X (kdOf X) nd
theorem ok_built (T : Txt A K mg) : FnOk P w K mg base CX0 8 A.f_built A.d_built ps_built (sp_built A.M) := by
  refine T.F_built.ok sc_built (fun vs H Q E h => prm_len (fun _ => rfl) h) (fun cdv Ar outer s H vs Q E hr h => ⟨_, (pss_cons (ps_set (i := 1) sc_built.nd rfl (by first | exact Or.inl rfl | exact Or.inr rfl) (pe_make T.mkP (ok_Plan_init T) (hr.mono (by decide)) (by rfl) T.mgP T.b_Plan_init .nil pass0 (pa_cons (pv 0) pa_nil)))
      (pss_cons (ps_asg (pe_call (ok_begin_for T) (hr.mono (by decide)) (by rfl) T.g_begin_for T.F_begin_for.kp T.b_begin_for .nil pass0 (pa_cons (pv 1) pa_nil)) (pg_tupK (K := K) rfl (by rfl) (pgs_cons (pg_name (i := 2) sc_built.nd rfl (by first | exact Or.inl rfl | exact Or.inr rfl)) (pgs_cons (pg_name (i := 3) sc_built.nd rfl (by first | exact Or.inl rfl | exact Or.inr rfl)) pgs_nil))))
      (pss_cons (ps_asg (pe_tup (pa_cons (pe_lst (pa_cons (pv 3) pa_nil)) (pa_cons (pe_dispT hr.units0 (pv 3) pe_int) (pa_cons (pe_lst pa_nil) (pa_cons (pe_lst pa_nil) pa_nil))))) (pg_tupK (K := K) rfl (by rfl) (pgs_cons (pg_name (i := 4) sc_built.nd rfl (by first | exact Or.inl rfl | exact Or.inr rfl)) (pgs_cons (pg_name (i := 5) sc_built.nd rfl (by first | exact Or.inl rfl | exact Or.inr rfl)) (pgs_cons (pg_name (i := 6) sc_built.nd rfl (by first | exact Or.inl rfl | exact Or.inr rfl)) (pgs_cons (pg_name (i := 7) sc_built.nd rfl (by first | exact Or.inl rfl | exact Or.inr rfl)) pgs_nil))))))
      (pss_cons (ps_while PassesOwn.never (pt_cmpR op_lt (pe_callB (call_len_seqK (K := K) rfl) (by rfl) T.n_len PySem.boot_len (pa_cons (pv 6) pa_nil)) (pe_callB (call_len_seqK (K := K) rfl) (by rfl) T.n_len PySem.boot_len (pa_cons (pv 4) pa_nil)) (nomark _)) (pss_cons (ps_asg (pe_ix (ix_listK (K := K) rfl) (pv 4) (pe_callB (call_len_seqK (K := K) rfl) (by rfl) T.n_len PySem.boot_len (pa_cons (pv 6) pa_nil)) (fun _ _ => rfl)) (pg_tupK (K := K) rfl (by rfl) (pgs_cons (pg_name (i := 8) sc_built.nd rfl (by first | exact Or.inl rfl | exact Or.inr rfl)) (pgs_cons (pg_name (i := 9) sc_built.nd rfl (by first | exact Or.inl rfl | exact Or.inr rfl)) pgs_nil))))
      (pss_cons (ps_if (pt_cmpR op_eq (pv 8) (pe_glob (v := .str "kernel") (by rfl) T.c_KERNEL ⟨_, rfl⟩) (nomark _)) (pss_cons (ps_setLc (i := 10) (own := [("goal", 16)]) (g := gName 16) (by rfl) sc_built.nd rfl rfl (sw_true rfl rfl rfl (by decide +kernel)) (pi_tupK (K := K) rfl (pe_ix (ix_tupK (K := K) rfl) (pe_fldK (K := K) rfl (pv 1) rfl) (pv 9) (fun _ _ => rfl))) (blkOk_by (own := [("goal", 16)]) (N := nm_built) (sc := defScope st_built) (by decide +kernel)) (fun _ _ _ _ _ => (pg_name (i := 16) sc_built.nd rfl (by first | exact Or.inl rfl | exact Or.inr rfl))) (fun _ _ _ _ _ => pts_nil) (fun _ _ _ _ _ => (pe_tup (pa_cons pe_int (pa_cons (pe_tup (pa_cons (pe_glob (v := .str "kernel") (by rfl) T.c_KERNEL ⟨_, rfl⟩) (pa_cons (pv 16) pa_nil))) pa_nil)))))
      (pss_one (ps_par (i := 11) (j := 12) (by rfl) sc_built.nd rfl rfl (by decide) rfl rfl (pa_cons pe_int (pa_cons (pe_ix (ix_listK (K := K) rfl) (pe_fldK (K := K) rfl (pv 1) rfl) (pv 9) (fun _ _ => rfl)) pa_nil)) (by rfl)))) (pss_cons (ps_setLc (i := 10) (own := [("letter", 17)]) (g := gName 17) (by rfl) sc_built.nd rfl rfl (sw_true rfl rfl rfl (by decide +kernel)) (pi_range1 (by rfl) T.n_range (pa_cons (pe_callB (call_len_seqK (K := K) rfl) (by rfl) T.n_len PySem.boot_len (pa_cons (pe_ix (ix_tupK (K := K) rfl) (pe_fldK (K := K) rfl (pv 1) rfl) pe_int (fun _ _ => rfl)) pa_nil)) pa_nil)) (blkOk_by (own := [("letter", 17)]) (N := nm_built) (sc := defScope st_built) (by decide +kernel)) (fun _ _ _ _ _ => (pg_name (i := 17) sc_built.nd rfl (by first | exact Or.inl rfl | exact Or.inr rfl))) (fun _ _ _ _ _ => pts_nil) (fun _ _ _ _ _ => (pe_call (ok_goal_for T) (hr.mono (by decide)) (by rfl) T.g_goal_for T.F_goal_for.kp T.b_goal_for .nil pass0 (pa_cons (pv 1) (pa_cons (pv 9) (pa_cons (pv 17) pa_nil))))))
      (pss_one (ps_asg (pe_call (ok_mark_for T) (hr.mono (by decide)) (by rfl) T.g_mark_for T.F_mark_for.kp T.b_mark_for .nil pass0 (pa_cons (pv 1) (pa_cons (pv 9) pa_nil))) (pg_tupK (K := K) rfl (by rfl) (pgs_cons (pg_name (i := 11) sc_built.nd rfl (by first | exact Or.inl rfl | exact Or.inr rfl)) (pgs_cons (pg_name (i := 12) sc_built.nd rfl (by first | exact Or.inl rfl | exact Or.inr rfl)) pgs_nil)))))))
      (pss_cons (ps_set (i := 13) sc_built.nd rfl (by first | exact Or.inl rfl | exact Or.inr rfl) (pe_lst pa_nil))
      (pss_cons (ps_for PassesOwn.never rfl (pi_listK (K := K) rfl (pv 10)) (pg_tupK (K := K) rfl (by rfl) (pgs_cons (pg_name (i := 14) sc_built.nd rfl (by first | exact Or.inl rfl | exact Or.inr rfl)) (pgs_cons (pg_name (i := 15) sc_built.nd rfl (by first | exact Or.inl rfl | exact Or.inr rfl)) pgs_nil))) (pss_cons (ps_aug (i := 2) sc_built.nd rfl (by first | exact Or.inl rfl | exact Or.inr rfl) (pv 14) ip_add)
      (pss_cons (ps_if (pt_cmp (pc_dnotin (hu_of hr) (pv 15) (pv 5))) (pss_cons (ps_dput (hu_of hr) (pv 5) (pv 15) (pe_callB (call_len_seqK (K := K) rfl) (by rfl) T.n_len PySem.boot_len (pa_cons (pv 4) pa_nil)) rfl)
      (pss_one (ps_expr (pe_bm PySem.F.plainAttrs_list PySem.F.slot_list_append PySem.F.type_list_append mt_append (pv 4) (pa_cons (pv 15) pa_nil))))) pss_nil)
      (pss_one (ps_expr (pe_bm PySem.F.plainAttrs_list PySem.F.slot_list_append PySem.F.type_list_append mt_append (pv 13) (pa_cons (pe_dget (hu_of hr) (pv 5) (pv 15) (fun _ _ => rfl)) pa_nil)))))))
      (pss_cons (ps_aug (i := 2) sc_built.nd rfl (by first | exact Or.inl rfl | exact Or.inr rfl) (pv 11) ip_add)
      (pss_cons (ps_expr (pe_bm PySem.F.plainAttrs_list PySem.F.slot_list_append PySem.F.type_list_append mt_append (pv 6) (pa_cons (pe_callTy (call_tuple_ofK (K := K) rfl) (by rfl) T.n_tuple (by decide +kernel) (pa_cons (pv 13) pa_nil)) pa_nil)))
      (pss_one (ps_expr (pe_bm PySem.F.plainAttrs_list PySem.F.slot_list_append PySem.F.type_list_append mt_append (pv 7) (pa_cons (pv 12) pa_nil)))))))))))
      (pss_one (ps_ret (pe_tup (pa_cons (pv 2) (pa_cons (pe_callTy (call_tuple_ofK (K := K) rfl) (by rfl) T.n_tuple (by decide +kernel) (pa_cons (pv 6) pa_nil)) (pa_cons (pv 7) pa_nil)))))))))), go_start h ?_⟩)
  rintro m H0 G0 ⟨L, om, l1, l3⟩ hq
  have hq : ∀ v H', RetK H0 G0 (rTri rNat rSteps (rList rBool)) (builtF (Lof m) (leastM m)) v H' → Q v H' := hq
  rw [lof_eq om] at hq
  have C := least_kds om
  refine q_asg (eg_ev (ev_make m (ea_cons (ev_var rfl) ea_nil) ⟨L, om, l1, l3⟩)) ?_
  generalize leastM m = X at C hq ⊢
  have pl : PlP X := ⟨L, C, l1, l3⟩
  have o := C.k.ok
  have h8 : X.1.length ≤ 8 := o.le8
  have NO := built_ok C
  have vle : ∀ l : List Nd, l.Nodup → (∀ x ∈ l, x ∈ NLs (nCof X) X (kdOf X)) → l.length ≤ 8 := fun l h1 h2 => NO.le8 C h1 h2
  refine q_asgT (tg_pr 2 3) (ev_call X (ea_cons (ev_var rfl) ea_nil) pl) ?_
  refine go_toI (i := 2) rfl ?_
  refine q_parN (n := 4) (S := [.is (rMach A.M) m, .is (rPlan A.M A.P X) (), .is rInt ((begCost X (kdOf X) : Nat) : Int), .is rNd (begNd X (kdOf X)), .no, .no, .no, .no, .no, .no, .no, .no, .no, .no, .no, .no, .no, .no]) (ss := [.own 0, .own 1, .own 2, .own 3]) [4, 5, 6, 7] rfl rfl (by decide)
    (egs_cons (eg_own (eo_one (R := rNd) (ev_var rfl))) (egs_cons (eg_dispT (R := rNat) (x := 0) keyS (fun mm => ev_var rfl) (fun mm => ev_nat0)) (egs_cons (eg_own (eo_nil (R := rRow))) (egs_cons (eg_own (eo_nil (R := rBool))) egs_nil)))) ?_
  have pf : ∀ {S : Sl} {M : Mo} {f : Str} {α : Type} {R : MR α} {x : α}, NoAttr K A.P f → S[1]? = some (.is (rPlan A.M A.P X) ()) → (plFl A.M X).lookup f = some (.is R x) → Ev none (tFld K (tVar 1) f) S M R x := fun na h hf => ev_fld T.clP na (ev_var h) hf
  obtain ⟨nx, hnx⟩ : ∃ nx, nx = nodeNx L X (kdOf X) := ⟨_, rfl⟩
  refine q_while (σt := (List Nd × Nat) × Int) (fun s => [.is (rMach A.M) m, .is (rPlan A.M A.P X) (), .is rInt s.2, .is rNd (begNd X (kdOf X)), .own 0, .own 1, .own 2, .own 3, .no, .no, .no, .no, .no, .no, .no, .no, .no, .no])
    (fun s => [some (oList rNd s.1.1), some (oDT encS rNat s.1.1.zipIdx), some (oList rRow ((s.1.1.take s.1.2).map (bfRow nx s.1.1))), some (oList rBool ((s.1.1.take s.1.2).map (nodeMk X (kdOf X))))])
    (fun s => BfI nx (begNd X (kdOf X)) (fun x => x ∈ NLs (nCof X) X (kdOf X)) s.1.1 s.1.2 ∧ s.2 = ((begCost X (kdOf X) + ((s.1.1.take s.1.2).map (nodeCost L X (kdOf X))).sum : Nat) : Int)) (fun s => 65 - s.1.2) (fun s => decide (s.1.2 < s.1.1.length)) (([begNd X (kdOf X)], 0), ((begCost X (kdOf X) : Nat) : Int)) ⟨bf_start NO.vb, rfl⟩ (Wk.refl _) rfl ?_ ?_ ?_
  · rintro ⟨⟨l, k⟩, t⟩ ⟨I, _⟩
    have hle : k ≤ l.length := I.le
    refine et_eq (et_test (ev_ltN (ev_lenO rfl rfl) (ev_lenO rfl rfl))) ?_
    rw [List.length_map, List.length_take, Nat.min_eq_left hle]
  · rintro ⟨⟨l, k⟩, t⟩ ⟨I, hT⟩ hb
    dsimp only at I hT hb ⊢
    have hk : k < l.length := of_decide_eq_true hb
    have hl8 : l.length ≤ 8 := vle l I.nd I.inn
    have hx : l[k]? = some l[k] := List.getElem?_eq_getElem hk
    generalize l[k] = nd at hx
    have hnd := I.inn nd (List.mem_of_getElem? hx)
    have hlt : ((l.take k).map (bfRow nx l)).length = k := by rw [List.length_map, List.length_take]; omega
    refine q_asgT (tg_pr 8 9) (ev_ixO (x := nd) rfl rfl (ev_lenO rfl rfl) (by rw [hlt]; exact hx)) ?_
    refine q_ifJ (β := List (Nat × Nd) × Nat × Bool) (fun s => [.is (rMach A.M) m, .is (rPlan A.M A.P X) (), .is rInt t, .is rNd (begNd X (kdOf X)), .own 0, .own 1, .own 2, .own 3, .is rStr nd.1, .is rNat nd.2, .is (rList (rPr rNat rNd)) s.1, .is rNat s.2.1, .is rBool s.2.2, .no, .no, .no, .no, .no])
      (fun s => [some (oList rNd l), some (oDT encS rNat l.zipIdx), some (oList rRow ((l.take k).map (bfRow nx l))), some (oList rBool ((l.take k).map (nodeMk X (kdOf X))))]) (NdP L X nd) (b := decide (nd.1 = "kernel")) (et_test (ev_eqS (ev_var rfl) ev_str)) (fun he Pk hk' => ?_) (fun he Pk hk' => ?_) ?_
    · -- a stand that stays
      have he := of_decide_eq_true he
      obtain ⟨s, rfl⟩ : ∃ s, nd = kn s := ⟨nd.2, Prod.ext he rfl⟩
      obtain ⟨hs, hks⟩ := mem_NLs_kn.mp hnd
      have hrl : (row X s).length ≤ 1000000 := by rw [o.row_len hs]; omega
      refine q_asg (eg_ev (ev_lc0 (T := rPr rNat rNd) (fun g => (0, kn g)) (it_tup (R := rNat) (xs := row X s) (ev_ixT (R := rRow) (xs := X.1) (pf T.na_rows rfl rfl) (ev_var rfl) (row_at hs))) (tg_name 16) (by simp) hrl fun g hg mm => ev_pr ev_nat0 (ev_pr (R := rStr) (x := "kernel") ev_str (ev_var rfl)))) ?_
      refine go_par (eg_ev ev_nat0) (eg_ev (ev_ixL (R := rBool) (xs := mkF X) (pf T.na_marks rfl rfl) (ev_var rfl) (mk_at hs))) ?_
      refine hk' ((row X s).map (fun g => (0, kn g)), 0, decide (s ∈ X.2)) ⟨?_, ?_, ?_⟩
      · rw [nodeNx_kn, List.map_map]
        rfl
      · rw [nodeCost_kn, List.map_map]
        show ((row X s).map fun _ => 0).sum + 0 = 0
        rw [List.map_const', List.sum_replicate_nat, Nat.mul_zero]
      · rw [nodeMk_kn]
    · -- a kind without any
      have he := of_decide_eq_false he
      obtain ⟨c, rfl⟩ : ∃ c, nd = er c := by
        rcases NLs_cases hnd with ⟨s, rfl⟩ | ⟨c, rfl⟩
        · exact absurd rfl he
        · exact ⟨c, rfl⟩
      obtain ⟨hc, hkc⟩ := mem_NLs_er.mp hnd
      have hr0 : (row X 0).length = L := o.row_len o.pos
      refine q_asg (eg_ev (ev_lc0 (T := rPr rNat rNd) (fun a => (exitC X (kdOf X) c a, goalNd X (kdOf X) c a)) (it_range1 (n := L) (ev_eq (ev_lenT (R := rNat) (xs := row X 0) (ev_ixT (R := rRow) (xs := X.1) (pf T.na_rows rfl rfl) ev_nat0 (row_at o.pos))) hr0) (by omega)) (tg_name 17) (by simp) (by rw [List.length_range']; omega) fun a ha mm => ev_call ((X, c, a) : Mc × Nat × Nat) (ea_cons (ev_var rfl) (ea_cons (ev_var rfl) (ea_cons (ev_var rfl) ea_nil))) ⟨L, C, l1, l3, hc, hkc, ?_⟩)) ?_
      · rw [List.mem_range'_1] at ha
        show a < L
        omega
      refine go_asgT (tg_pr 11 12) (ev_call ((X, c) : Mc × Nat) (ea_cons (ev_var rfl) (ea_cons (ev_var rfl) ea_nil)) ⟨pl, hkc⟩) ?_
      refine hk' ((List.range' 0 L).map (fun a => (exitC X (kdOf X) c a, goalNd X (kdOf X) c a)), min (goodC X (kdOf X) c) (badC X (kdOf X) c), decide (badC X (kdOf X) c < goodC X (kdOf X) c)) ⟨?_, ?_, ?_⟩
      · rw [nodeNx_er, List.map_map]
        rfl
      · rw [nodeCost_er, List.map_map]
        unfold eC
        show _ + min _ _ = min _ _ + _
        rw [Nat.add_comm]
        rfl
      · rw [nodeMk_er]
    · rintro ⟨gl, wr, mk⟩ ⟨hgl, hsum, hmk⟩
      dsimp only at hgl hsum hmk ⊢
      rw [← hnx] at hgl
      have hnl : (nx nd).length ≤ 8 := by
        rw [hnx]
        rcases NLs_cases hnd with ⟨s, rfl⟩ | ⟨c, rfl⟩
        · rw [nodeNx_kn, List.length_map, o.row_len (mem_NLs_kn.mp hnd).1]
          omega
        · rw [nodeNx_er, List.length_map, List.length_range']
          omega
      refine q_asg (eg_own (eo_nil (R := rNat))) ?_
      refine q_for (σt := List Nd × List Nat × Int) (fun s => [.is (rMach A.M) m, .is (rPlan A.M A.P X) (), .is rInt s.2.2, .is rNd (begNd X (kdOf X)), .own 0, .own 1, .own 2, .own 3, .is rStr nd.1, .is rNat nd.2, .is (rList (rPr rNat rNd)) gl, .is rNat wr, .is rBool mk, .own 4, .no, .no, .no, .no])
        (fun s => [some (oList rNd s.1), some (oDT encS rNat s.1.zipIdx), some (oList rRow ((l.take k).map (bfRow nx l))), some (oList rBool ((l.take k).map (nodeMk X (kdOf X)))), some (oList rNat s.2.1)])
        (fun i s => BfJ nx (fun x => x ∈ NLs (nCof X) X (kdOf X)) l nd i s.1 ∧ s.2.1 = ((nx nd).take i).map (fun g => ixOf s.1 g) ∧ s.2.2 = t + ((((gl.take i).map (·.1)).sum : Nat) : Int)) (l, [], t)
        (it_list (ev_var rfl)) (tg_pr 14 15) ⟨bfj_start I nd, rfl, by simp⟩ (Wk.refl _) rfl ?_ ?_
      · rintro G1 bs i ⟨l', rw', t'⟩ ⟨more, g⟩ hg0 ⟨J, hrw, ht'⟩
        dsimp only at J hrw ht' ⊢
        have hg : (nx nd)[i]? = some g := by
          rw [← hgl, List.getElem?_map, hg0]
          rfl
        have hgv : g ∈ NLs (nCof X) X (kdOf X) := NO.vcl nd hnd g (by rw [← hnx]; exact List.mem_of_getElem? hg)
        have hl8' : l'.length ≤ 8 := vle l' J.nd J.inn
        have hrl : rw'.length ≤ 8 := by
          rw [hrw, List.length_map, List.length_take]
          omega
        have spl : ∀ F : Nd → Nat, ((nx nd).take (i + 1)).map F = ((nx nd).take i).map F ++ [F g] := fun F => by rw [take_snoc hg]; simp
        have ht2 : t' + (more : Int) = t + ((((gl.take (i + 1)).map (·.1)).sum : Nat) : Int) := by
          rw [take_snoc hg0, List.map_append, List.sum_append, ht']
          simp
          omega
        refine q_aug (d := (more : Int)) rfl (ev_toI (ev_var rfl)) ?_
        refine q_when (b := !inB l' g) (et_eq (et_B (ev_dnin keyS rfl rfl isDT (ev_var rfl))) look_some_in) (fun hn => ?_) (fun hn => ?_)
        · have hn : g ∉ l' := inB_not hn
          refine q_dput keyS rfl rfl (ev_lenO rfl rfl) (ev_var rfl) (by rw [List.length_zipIdx]; omega) ?_
          rw [tab_put hn]
          refine go_app rfl rfl (by omega) (ev_var rfl) ?_
          have J2 := J.new hg hgv hn
          refine go_app (x := ixOf (l' ++ [g]) g) rfl rfl (by omega) (ev_dget keyS rfl rfl isDT (ev_var rfl) (look_tab_in' (by simp))) ?_
          refine go_turn (l' ++ [g], rw' ++ [ixOf (l' ++ [g]) g], t' + (more : Int)) ⟨J2, ?_, ht2⟩ (.same (.same (.same (.same (.same (.same (.same (.same (.same (.same (.same (.same (.same (.same (.no (.no (.same (.same .nil)))))))))))))))))) rfl
          show rw' ++ _ = _
          rw [spl, hrw]
          congr 1
          exact List.map_congr_left fun x hx' => (ix_app (J.ins x hx')).symm
        · have hn : g ∈ l' := inB_is hn
          refine go_app (x := ixOf l' g) rfl rfl (by omega) (ev_dget keyS rfl rfl isDT (ev_var rfl) (look_tab_in' hn)) ?_
          refine go_turn (l', rw' ++ [ixOf l' g], t' + (more : Int)) ⟨J.old hg hn, ?_, ht2⟩ (.same (.same (.same (.same (.same (.same (.same (.same (.same (.same (.same (.same (.same (.same (.no (.no (.same (.same .nil)))))))))))))))))) rfl
          show rw' ++ _ = _
          rw [spl, hrw]
      · rintro ⟨l', rw', t'⟩ ⟨J, hrw, ht'⟩
        dsimp only at J hrw ht' ⊢
        have hll : gl.length = (nx nd).length := by rw [← hgl, List.length_map]
        rw [List.take_length] at ht'
        rw [hll] at J hrw
        rw [List.take_length] at hrw
        obtain ⟨I2, ht, hrows⟩ := I.next hx (by omega) J
        have erow : rw' = bfRow nx l' nd := hrw
        refine q_aug (d := (wr : Int)) rfl (ev_toI (ev_var rfl)) ?_
        refine q_app rfl rfl (by rw [hlt]; omega) (ev_tupOfO (R := rNat) rfl rfl) ?_
        refine go_app rfl rfl (by rw [List.length_map, List.length_take]; omega) (ev_var rfl) ?_
        refine go_wk (S' := [.is (rMach A.M) m, .is (rPlan A.M A.P X) (), .is rInt (t' + (wr : Int)), .is rNd (begNd X (kdOf X)), .own 0, .own 1, .own 2, .own 3, .no, .no, .no, .no, .no, .no, .no, .no, .no, .no]) (.same (.same (.same (.same (.same (.same (.same (.same (.no (.no (.no (.no (.no (.no (.no (.no (.same (.same .nil)))))))))))))))))) ?_
        refine go_forget (M := [some (oList rNd l'), some (oDT encS rNat l'.zipIdx), some (oList rRow ((l.take k).map (bfRow nx l) ++ [rw'])), some (oList rBool ((l.take k).map (nodeMk X (kdOf X)) ++ [mk]))]) (m := some (oList rNat rw')) rfl ?_
        refine go_turn ((l', k + 1), t' + (wr : Int)) ⟨⟨I2, ?_⟩, by show 65 - (k + 1) < 65 - k; omega⟩ (Wk.refl _) ?_
        · show t' + (wr : Int) = _
          rw [ht, List.map_append, List.sum_append, ht', hT, List.map_singleton, List.sum_singleton, ← hsum]
          omega
        · show _ = [_, _, some (oList rRow ((l'.take (k + 1)).map (bfRow nx l'))), some (oList rBool ((l'.take (k + 1)).map (nodeMk X (kdOf X))))]
          rw [ht, List.map_append, List.map_append, hrows, erow, hmk]
          rfl
  · rintro ⟨⟨l, k⟩, t⟩ ⟨I, hT⟩ hb
    dsimp only at I hT hb ⊢
    have hk : l.length ≤ k := by
      have := of_decide_eq_false hb
      omega
    have hd := I.done hk
    rw [List.take_of_length_le hk] at hT ⊢
    have hBN : l = BN L X (kdOf X) := by
      rw [hd, hnx]
      rfl
    refine go_frzL (i := 7) rfl rfl (go_ret hq (ev_tri (ev_toN (ev_var rfl) ?_) ?_ ?_))
    · rw [hT, hBN]
      rfl
    · show Ev _ _ _ _ _ (bfsRows (nodeNx L X (kdOf X)) (BN L X (kdOf X)))
      rw [← hBN, ← bfRows_eq, ← hnx]
      exact ev_tupOfO (R := rRow) rfl rfl
    · show Ev _ _ _ _ _ ((BN L X (kdOf X)).map (nodeMk X (kdOf X)))
      rw [← hBN]
      exact ev_var rfl
end
end B
namespace B
open PySem L2
noncomputable def bestM (m : Mc) : Mc := builtX (Lof m) (leastM m) (kdOf (leastM m))
noncomputable def dueM (m : Mc) : Nat := dueF (Lof m) m
structure BestP (L : Nat) (m X : Mc) : Prop where
  ok : OkW L X
  few : X.1.length = fewF m
  num : walkN (row X) 0 = List.range X.1.length
  tot : tot m X (0, 0) = some (dueF L m)
theorem built_good {L nC : Nat} {X : Mc} {kd : Nat → Nat} (C : Kds L nC X kd) : OkG (builtX L X kd).1.length (builtX L X kd).2 := by
  refine ⟨List.Pairwise.filter _ (List.pairwise_lt_range' (s := 0) (n := (BN L X kd).length)), fun x hx => ?_⟩
  have := (List.mem_filter.mp hx).1
  rw [List.mem_range'_1] at this
  rw [show (builtX L X kd).1.length = (BN L X kd).length from bfsRows_len _ _]
  omega
theorem best_p {L : Nat} {m : Mc} (o : OkM L m) (l1 : 1 ≤ L) (l3 : L ≤ 3) : BestP L m (bestM m) := by
  have C := least_kds o
  have F := built_fit C
  unfold bestM
  rw [lof_eq o]
  have ln : (builtX L (leastM m) (kdOf (leastM m))).1.length = (BN L (leastM m) (kdOf (leastM m))).length := bfsRows_len _ _
  refine ⟨⟨F.ok, l1, l3, built_good C⟩, ?_, ?_, due_eq o F (built_best C)⟩
  · rw [ln]
    exact (built_ok C).len C
  · rw [ln]
    exact numbered_walk ((built_ok C).spec C)
section
variable {P : Program} {w : World} {A : Ad} {K : PySem.W.Frag} {mg : Str → Option Value} {base : Heap}
noncomputable abbrev sp_least_wrong (C : Addr) : Sp := prm (sg1 C) Ok1w (fun _ => rNat) dueM
theorem ok_least_wrong (T : Txt A K mg) : FnOk P w K mg base CX0 9 A.f_least_wrong A.d_least_wrong ps_least_wrong (sp_least_wrong A.M) := by
  refine T.F_least_wrong.ok sc_least_wrong (fun vs H Q E h => prm_len (fun _ => rfl) h) (fun cdv Ar outer s H vs Q E hr h => ⟨_, (pss_one (ps_ret (pe_ix (ix_tupK (K := K) rfl) (pe_call (ok_built T) (hr.mono (by decide)) (by rfl) T.g_built T.F_built.kp T.b_built .nil pass0 (pa_cons (pv 0) pa_nil)) pe_int (fun _ _ => rfl)))), go_start h ?_⟩)
  rintro m H0 G0 ⟨L, o, l1, l3⟩ hq
  refine go_ret hq (ev_eq (ev_tri1 (ev_call m (ea_cons (ev_var rfl) ea_nil) ⟨L, o, l1, l3⟩)) ?_)
  show builtT (Lof m) (leastM m) (kdOf (leastM m)) = dueF (Lof m) m
  rw [lof_eq o]
  exact built_total (least_kds o)
noncomputable abbrev sp_best_lean (C : Addr) : Sp := prm (sg1 C) Ok1w (fun _ => rMach C) bestM
theorem ok_best_lean (T : Txt A K mg) : FnOk P w K mg base CX0 9 A.f_best_lean A.d_best_lean ps_best_lean (sp_best_lean A.M) := by
  refine T.F_best_lean.ok sc_best_lean (fun vs H Q E h => prm_len (fun _ => rfl) h) (fun cdv Ar outer s H vs Q E hr h => ⟨_, (pss_cons (ps_asg (pe_call (ok_built T) (hr.mono (by decide)) (by rfl) T.g_built T.F_built.kp T.b_built .nil pass0 (pa_cons (pv 0) pa_nil)) (pg_tupK (K := K) rfl (by rfl) (pgs_cons (pg_name (i := 1) sc_best_lean.nd rfl (by first | exact Or.inl rfl | exact Or.inr rfl)) (pgs_cons (pg_name (i := 2) sc_best_lean.nd rfl (by first | exact Or.inl rfl | exact Or.inr rfl)) (pgs_cons (pg_name (i := 3) sc_best_lean.nd rfl (by first | exact Or.inl rfl | exact Or.inr rfl)) pgs_nil)))))
      (pss_one (ps_ret (pe_make T.mkM (ok_Machine_init T) (hr.mono (by decide)) (by rfl) T.mgM T.b_Machine_init .nil pass0 (pa_cons (pv 2) (pa_cons (pe_callTy (call_tuple_ofK (K := K) rfl) (by rfl) T.n_tuple (by decide +kernel) (pa_cons (pe_lc (own := [("stand", 4), ("mark", 5)]) (g := gTup K 2 (gCons (gName 4) (gCons (gName 5) gNil))) (by rfl) sc_best_lean.nd (pi_enumK (K := K) rfl (by rfl) T.n_enumerate (pa_cons (pv 3) pa_nil)) (blkOk_by (own := [("stand", 4), ("mark", 5)]) (N := nm_best_lean) (sc := defScope st_best_lean) (by decide +kernel)) (fun _ _ _ _ _ => (pg_tupK (K := K) rfl (by rfl) (pgs_cons (pg_name (i := 4) sc_best_lean.nd rfl (by first | exact Or.inl rfl | exact Or.inr rfl)) (pgs_cons (pg_name (i := 5) sc_best_lean.nd rfl (by first | exact Or.inl rfl | exact Or.inr rfl)) pgs_nil)))) (fun _ _ _ _ _ => (pts_one (pt_val (pv 5)))) (fun _ _ _ _ _ => (pv 4))) pa_nil)) pa_nil)))))), go_start h ?_⟩)
  rintro m H0 G0 ⟨L, o, l1, l3⟩ hq
  have C := least_kds o
  have F := built_fit C
  have hq : ∀ v H', RetK H0 G0 (rMach A.M) (bestM m) v H' → Q v H' := hq
  unfold bestM at hq
  rw [lof_eq o] at hq
  have hb : builtF (Lof m) (leastM m) = builtF L (leastM m) := by rw [lof_eq o]
  refine q_asgT (tg_tri 1 2 3) (ev_eq (ev_call m (ea_cons (ev_var rfl) ea_nil) ⟨L, o, l1, l3⟩) hb) ?_
  have hl : (BN L (leastM m) (kdOf (leastM m))).length ≤ 8 := (built_ok C).le8 C ((built_ok C).spec C).nd ((built_ok C).all C)
  refine go_ret hq (mach_of (ev_make (builtX L (leastM m) (kdOf (leastM m))) (ea_cons (ev_var rfl) (ea_cons (ev_tupOf (ev_eq (ev_lc (T := rNat) (R := rPr rNat rBool) (fun e => e.2) (fun e => e.1) (it_enum (R := rBool) (xs := (BN L (leastM m) (kdOf (leastM m))).map (nodeMk (leastM m) (kdOf (leastM m)))) (ev_var rfl)) (tg_pr 4 5) (by simp) (by rw [zipI_len, List.length_map]; omega) (fun e he mm => et_B (ev_var rfl)) fun e he _ mm => ev_var rfl) ?_)) ea_nil)) ⟨L, F.ok, l1, l3, built_good C⟩))
  show _ = (List.range' 0 (BN L (leastM m) (kdOf (leastM m))).length).filter _
  generalize BN L (leastM m) (kdOf (leastM m)) = LN
  have hz : zipI (LN.map (nodeMk (leastM m) (kdOf (leastM m)))) = (List.range' 0 LN.length).map fun k => (k, nodeMk (leastM m) (kdOf (leastM m)) (LN.getD k (kn 0))) := by
    refine map_rng_ext (by rw [zipI_len, List.length_map]) fun k hk => ?_
    rw [zipI_at, List.getElem?_map, List.getElem?_eq_getElem hk, List.getD_eq_getElem?_getD, List.getElem?_eq_getElem hk]
    rfl
  rw [hz, List.filter_map, List.map_map]
  exact List.map_id _
end
end B
namespace B
open PySem L2
section
variable {P : Program} {w : World} {A : Ad} {K : PySem.W.Frag} {mg : Str → Option Value} {base : Heap}
abbrev sgp (a : Mc × Mc × Pr) : List SS := [.is rPm a.1, .is rPm a.2.1, .is rP a.2.2]
structure DfsP (m1 m2 : Mc) (b : Pr) (F : List Pr) : Prop where
  nd : F.Nodup
  beg : b ∈ F
  cl : ∀ p ∈ F, ∀ g ∈ goals m1 m2 p, g ∈ F
  ind : ∀ p ∈ F, ∃ k, Way m1 m2 k b p
abbrev sp__law_pairs : Sp := prmO sgp (fun a => ∃ L, Ok2 L a) (fun F => oDT encP rBool (tru F)) (fun a => DfsP a.1 a.2.1 a.2.2)
structure DfsI (m1 m2 : Mc) (b : Pr) (F rw : List Pr) : Prop where
  nd : F.Nodup
  beg : b ∈ F
  inn : ∀ p ∈ F, inM m1 m2 p
  ind : ∀ p ∈ F, ∃ k, Way m1 m2 k b p
  sub : ∀ p ∈ rw, p ∈ F
  cl : ∀ p ∈ F, p ∈ rw ∨ ∀ g ∈ goals m1 m2 p, g ∈ F
  len : rw.length ≤ F.length
theorem way_snoc {m1 m2 : Mc} {k : Nat} {b p g : Pr} (h : Way m1 m2 k b p) (hg : g ∈ goals m1 m2 p) : Way m1 m2 (k + 1) b g := (way_add k).mpr ⟨p, h, g, hg, rfl⟩
theorem row0 {rs : RS} {S : Sl} {M : Mo} {L : Nat} {m : Mc} {p : Pr} {i j : Nat} (h : p.1 < m.1.length) (hi : S[i]? = some (.is rPm m)) (hj : S[j]? = some (.is rP p)) : Ev rs (tOp (rIxT K) (tOp (rIxT K) (tVar i) (tC (.int 0))) (tOp (rIxT K) (tVar j) (tC (.int 0)))) S M rRow (row m p.1) := ev_ixT (ev_fst (ev_var hi)) (ev_fst (ev_var hj)) (row_at h)
theorem row1 {rs : RS} {S : Sl} {M : Mo} {L : Nat} {m : Mc} {p : Pr} {i j : Nat} (h : p.2 < m.1.length) (hi : S[i]? = some (.is rPm m)) (hj : S[j]? = some (.is rP p)) : Ev rs (tOp (rIxT K) (tOp (rIxT K) (tVar i) (tC (.int 0))) (tOp (rIxT K) (tVar j) (tC (.int 1)))) S M rRow (row m p.2) := ev_ixT (ev_fst (ev_var hi)) (ev_snd (ev_var hj)) (row_at h)
theorem ok__law_pairs (T : Txt A K mg) : FnOk P w K mg base CX0 1 A.f__law_pairs A.d__law_pairs ps__law_pairs sp__law_pairs := by
  refine T.F__law_pairs.ok sc__law_pairs (fun vs H Q E h => prmO_len (fun _ => rfl) h) (fun cdv Ar outer s H vs Q E hr h => ⟨_, (pss_cons (ps_par (i := 3) (j := 4) (by rfl) sc__law_pairs.nd rfl rfl (by decide) rfl rfl (pa_cons (pe_dispT hr.units0 (pv 2) pe_bl) (pa_cons (pe_lst (pa_cons (pv 2) pa_nil)) pa_nil)) (by rfl))
      (pss_cons (ps_while PassesOwn.never (pt_cmpR (op_neDK (K := K) rfl hr.units) (pv 4) (pe_lst pa_nil) (nomark _)) (pss_cons (ps_set (i := 5) sc__law_pairs.nd rfl (by first | exact Or.inl rfl | exact Or.inr rfl) (pe_bm0 PySem.F.plainAttrs_list PySem.F.slot_list_pop PySem.F.type_list_pop mt_pop (pv 4)))
      (pss_one (ps_for PassesOwn.never rfl (pi_zipNK (K := K) rfl (by rfl) T.n_zip (pa_cons (pe_ix (ix_tupK (K := K) rfl) (pe_ix (ix_tupK (K := K) rfl) (pv 0) pe_int (fun _ _ => rfl)) (pe_ix (ix_tupK (K := K) rfl) (pv 5) pe_int (fun _ _ => rfl)) (fun _ _ => rfl)) (pa_cons (pe_ix (ix_tupK (K := K) rfl) (pe_ix (ix_tupK (K := K) rfl) (pv 1) pe_int (fun _ _ => rfl)) (pe_ix (ix_tupK (K := K) rfl) (pv 5) pe_int (fun _ _ => rfl)) (fun _ _ => rfl)) pa_nil))) (pg_name (i := 6) sc__law_pairs.nd rfl (by first | exact Or.inl rfl | exact Or.inr rfl)) (pss_one (ps_if (pt_cmp (pc_dnotin (hu_of hr) (pv 6) (pv 3))) (pss_cons (ps_dput (hu_of hr) (pv 3) (pv 6) pe_bl rfl)
      (pss_one (ps_expr (pe_bm PySem.F.plainAttrs_list PySem.F.slot_list_append PySem.F.type_list_append mt_append (pv 4) (pa_cons (pv 6) pa_nil))))) pss_nil))))))
      (pss_one (ps_ret (pv 3))))), go_startO h ?_⟩)
  rintro ⟨m1, m2, b⟩ H0 G0 ⟨L, hp⟩ hq
  have o1 : OkM L m1 := hp.o1
  have o2 : OkM L m2 := hp.o2
  refine q_par (eg_dispT (R := rBool) (x := true) keyP (fun mm => ev_var rfl) (fun mm => ev_bl)) (eg_own (eo_one (R := rP) (ev_var rfl))) ?_
  refine q_while (σt := List Pr × List Pr) (fun s => [.is rPm m1, .is rPm m2, .is rP b, .own 0, .own 1, .no, .no]) (fun s => [some (oDT encP rBool (tru s.1)), some (oList rP s.2)]) (fun s => DfsI m1 m2 b s.1 s.2) (fun s => 2 * (64 - s.1.length) + s.2.length) (fun s => !s.2.isEmpty) ([b], [b])
    ⟨by simp, List.mem_singleton.mpr rfl, fun p h => by rw [List.mem_singleton.mp h]; exact hp.i, fun p h => by rw [List.mem_singleton.mp h]; exact ⟨0, rfl⟩, fun p h => h, fun p h => .inl h, Nat.le_refl _⟩ (Wk.refl _) rfl ?_ ?_ ?_
  · rintro ⟨F, rw'⟩ I
    exact et_test (ev_neNilO (dat_pr dat_nat dat_nat) (by decide) rfl rfl)
  · rintro ⟨F, rw'⟩ I hb
    dsimp only at I hb ⊢
    have hne : rw' ≠ [] := fun e => by rw [e] at hb; cases hb
    obtain ⟨r, p, rfl⟩ : ∃ r p, rw' = r ++ [p] := ⟨rw'.dropLast, rw'.getLast hne, (List.dropLast_concat_getLast hne).symm⟩
    have hpF := I.sub p (by simp)
    have hpi := I.inn p hpF
    obtain ⟨kp, hkp⟩ := I.ind p hpF
    refine q_pop (i := 4) (x := p) rfl rfl ?_
    refine go_for (σt := List Pr × List Pr) (fun s => [.is rPm m1, .is rPm m2, .is rP b, .own 0, .own 1, .is rP p, .no]) (fun s => [some (oDT encP rBool (tru s.1)), some (oList rP s.2)])
      (fun i s => s.1.Nodup ∧ (∀ x ∈ F, x ∈ s.1) ∧ (∀ x ∈ s.1, inM m1 m2 x) ∧ (∀ x ∈ s.1, ∃ k, Way m1 m2 k b x) ∧ (∀ x ∈ r, x ∈ s.2) ∧ (∀ x ∈ s.2, x ∈ s.1) ∧ (∀ x ∈ s.1, x ∈ F ∨ x ∈ s.2) ∧ (∀ g ∈ (goals m1 m2 p).take i, g ∈ s.1) ∧ s.2.length + F.length = r.length + s.1.length ∧ F.length ≤ s.1.length) (F, r)
      (it_zipN (R := rNat) (T := rNat) (row0 (L := L) hpi.1 rfl rfl) (row1 (L := L) hpi.2 rfl rfl)) (tg_name 6) ⟨I.nd, fun x h => h, I.inn, I.ind, fun x h => h, fun x h => I.sub x (List.mem_append_left _ h), fun x h => .inl h, fun g hg => by simp at hg, rfl, Nat.le_refl _⟩ (Wk.refl _) rfl ?_ ?_
    · rintro G1 bs i ⟨F', r'⟩ g hg ⟨h1, h2, h3, h4, h5, h6, h7, h8, h9, h10⟩
      dsimp only at h1 h2 h3 h4 h5 h6 h7 h8 h9 h10 ⊢
      have hg : (goals m1 m2 p)[i]? = some g := hg
      have hgm := List.mem_of_getElem? hg
      have hgi := goals_in o1 o2 hpi hgm
      have h64 := pairs_le o1 o2 h1 h3
      have hr64 : r.length + 1 ≤ F.length := by
        have := I.len
        simpa using this
      refine go_when (b := !decide (g ∈ F')) (et_eq (et_B (ev_dnin keyP rfl rfl isDT (ev_var rfl))) (look_tru F' g)) (fun hn => ?_) (fun hn => ?_)
      · have hn : g ∉ F' := by simpa using hn
        refine q_dput keyP rfl rfl ev_bl (ev_var rfl) (by rw [tru_len]; omega) ?_
        rw [tru_put_new hn]
        refine go_app rfl rfl (by omega) (ev_var rfl) ?_
        refine go_turn (F' ++ [g], r' ++ [g]) ⟨?_, fun x hx => List.mem_append_left _ (h2 x hx), fun x hx => ?_, fun x hx => ?_, fun x hx => List.mem_append_left _ (h5 x hx), fun x hx => ?_, fun x hx => ?_, fun x hx => ?_, by simp; omega, by simp; omega⟩ (.same (.same (.same (.same (.same (.same (.no .nil))))))) rfl
        · rw [List.nodup_append]
          exact ⟨h1, by simp, fun a ha c hc => by
            rw [List.mem_singleton] at hc
            rw [hc]
            exact fun e => hn (e ▸ ha)⟩
        · rcases List.mem_append.mp hx with q | q
          · exact h3 x q
          · rw [List.mem_singleton.mp q]
            exact hgi
        · rcases List.mem_append.mp hx with q | q
          · exact h4 x q
          · rw [List.mem_singleton.mp q]
            exact ⟨kp + 1, way_snoc hkp hgm⟩
        · rcases List.mem_append.mp hx with q | q
          · exact List.mem_append_left _ (h6 x q)
          · exact List.mem_append_right _ q
        · rcases List.mem_append.mp hx with q | q
          · exact (h7 x q).imp id fun z => List.mem_append_left _ z
          · exact .inr (List.mem_append_right _ q)
        · rcases (mem_take_succ hg).mp hx with q | q
          · exact List.mem_append_left _ (h8 x q)
          · rw [q]
            simp
      · have hn : g ∈ F' := by simpa using hn
        refine go_turn (F', r') ⟨h1, h2, h3, h4, h5, h6, h7, fun x hx => ?_, h9, h10⟩ (.same (.same (.same (.same (.same (.same (.no .nil))))))) rfl
        rcases (mem_take_succ hg).mp hx with q | q
        · exact h8 x q
        · rw [q]
          exact hn
    · rintro ⟨F', r'⟩ ⟨h1, h2, h3, h4, h5, h6, h7, h8, h9, h10⟩
      dsimp only at h1 h2 h3 h4 h5 h6 h7 h8 h9 h10 ⊢
      have h8 : ∀ g ∈ goals m1 m2 p, g ∈ F' := fun g hg => h8 g (by
        have : (goals m1 m2 p).take ((row m1 p.1).zip (row m2 p.2)).length = goals m1 m2 p := List.take_length
        rw [this]
        exact hg)
      have h64 := pairs_le o1 o2 h1 h3
      have hl := I.len
      rw [List.length_append, List.length_singleton] at hl
      refine go_turn (F', r') ⟨⟨h1, h2 b I.beg, h3, h4, h6, fun x hx => ?_, by show r'.length ≤ F'.length; omega⟩, ?_⟩ (.same (.same (.same (.same (.same (.no (.same .nil))))))) rfl
      · rcases h7 x hx with q | q
        · rcases I.cl x q with z | z
          · rcases List.mem_append.mp z with z | z
            · exact .inl (h5 x z)
            · rw [List.mem_singleton.mp z]
              exact .inr h8
          · exact .inr fun g hg => h2 g (z g hg)
        · exact .inl q
      · show 2 * (64 - F'.length) + r'.length < 2 * (64 - F.length) + (r ++ [p]).length
        rw [List.length_append, List.length_singleton]
        omega
  · rintro ⟨F, rw'⟩ I hb
    dsimp only at I hb ⊢
    have he : rw' = [] := by
      cases rw' with
      | nil => rfl
      | cons x l => cases hb
    subst he
    exact go_retO (x := F) hq ⟨I.nd, I.beg, fun p hp' => (I.cl p hp').resolve_left (by simp), I.ind⟩ rfl rfl
theorem DfsP.inn {L : Nat} {m1 m2 : Mc} {b : Pr} {F : List Pr} (o1 : OkM L m1) (o2 : OkM L m2) (hb : inM m1 m2 b) (D : DfsP m1 m2 b F) : ∀ p ∈ F, inM m1 m2 p := fun p hp => by
  obtain ⟨k, hk⟩ := D.ind p hp
  have : ∀ (k : Nat) (b p : Pr), inM m1 m2 b → Way m1 m2 k b p → inM m1 m2 p := by
    intro k
    induction k with
    | zero =>
      intro b p hb h
      have h : b = p := h
      rw [← h]
      exact hb
    | succ k ih =>
      rintro b p hb ⟨g, hg, h⟩
      exact ih g p (goals_in o1 o2 hb hg) h
  exact this k b p hb hk
theorem DfsP.le {L : Nat} {m1 m2 : Mc} {b : Pr} {F : List Pr} (o1 : OkM L m1) (o2 : OkM L m2) (hb : inM m1 m2 b) (D : DfsP m1 m2 b F) : F.length ≤ 64 := pairs_le o1 o2 D.nd (D.inn o1 o2 hb)
theorem DfsP.none_iff {m1 m2 : Mc} {b : Pr} {F : List Pr} (D : DfsP m1 m2 b F) : (F.filter (unl m1 m2)).isEmpty = true ↔ ∀ k, cnt m1 m2 k b = 0 := by
  rw [List.isEmpty_iff, List.filter_eq_nil_iff]
  constructor
  · intro h k
    refine Classical.byContradiction fun hn => ?_
    obtain ⟨q, hw, hu⟩ := cnt_way.mp hn
    have : ∀ (k : Nat) (p : Pr), p ∈ F → Way m1 m2 k p q → q ∈ F := by
      intro k
      induction k with
      | zero =>
        intro p hp h
        have h : p = q := h
        rw [← h]
        exact hp
      | succ k ih =>
        rintro p hp ⟨g, hg, h⟩
        exact ih g (D.cl p hp g hg) h
    exact h q (this k b D.beg hw) hu
  · intro h p hp hu
    obtain ⟨k, hk⟩ := D.ind p hp
    exact cnt_way.mpr ⟨p, hk, hu⟩ (h k)
theorem et_unl {rs : RS} {S : Sl} {M : Mo} {m1 m2 : Mc} {p : Pr} {i j l : Nat} (hi : S[i]? = some (.is rPm m1)) (hj : S[j]? = some (.is rPm m2)) (hl : S[l]? = some (.is rP p)) :
    EvT rs (tTest (tOp rNe (tOp (rIn K false) (tOp (rIxT K) (tVar l) (tC (.int 0))) (tOp (rIxT K) (tVar i) (tC (.int 1)))) (tOp (rIn K false) (tOp (rIxT K) (tVar l) (tC (.int 1))) (tOp (rIxT K) (tVar j) (tC (.int 1)))))) S M (unl m1 m2 p) :=
  et_eq (et_test (ev_neB (ev_inT (ev_fst (ev_var hl)) (ev_snd (ev_var hi))) (ev_inT (ev_snd (ev_var hl)) (ev_snd (ev_var hj))))) (by
    unfold unl
    cases decide (p.1 ∈ m1.2) <;> cases decide (p.2 ∈ m2.2) <;> rfl)
noncomputable abbrev sp__law_same : Sp := prm (fun a : Mc × Nat × Nat => [.is rPm a.1, .is rNat a.2.1, .is rNat a.2.2]) (fun a => ∃ L, OkM L a.1 ∧ L ≤ 3 ∧ a.2.1 < a.1.1.length ∧ a.2.2 < a.1.1.length) (fun _ => rBool) (fun a => eqB a.1 a.2.1 a.2.2)
theorem ok__law_same (T : Txt A K mg) : FnOk P w K mg base CX0 2 A.f__law_same A.d__law_same ps__law_same sp__law_same := by
  refine T.F__law_same.ok sc__law_same (fun vs H Q E h => prm_len (fun _ => rfl) h) (fun cdv Ar outer s H vs Q E hr h => ⟨_, (pss_cons (ps_set (i := 3) sc__law_same.nd rfl (by first | exact Or.inl rfl | exact Or.inr rfl) (pe_call (ok__law_pairs T) (hr.mono (by decide)) (by rfl) T.g__law_pairs T.F__law_pairs.kp T.b__law_pairs .nil pass0 (pa_cons (pv 0) (pa_cons (pv 0) (pa_cons (pe_tup (pa_cons (pv 1) (pa_cons (pv 2) pa_nil))) pa_nil)))))
      (pss_one (ps_ret (pe_cmpR (op_eqDK (K := K) rfl hr.units) (pe_lock (pe_lc (own := [("_law_pair", 4)]) (g := gName 4) (by rfl) sc__law_same.nd (pi_keys (pv 3)) (blkOk_by (own := [("_law_pair", 4)]) (N := nm__law_same) (sc := defScope st__law_same) (by decide +kernel)) (fun _ _ _ _ _ => (pg_name (i := 4) sc__law_same.nd rfl (by first | exact Or.inl rfl | exact Or.inr rfl))) (fun _ _ _ _ _ => (pts_one (pt_cmpR op_ne (pe_cmpR (op_in_seqK (K := K) rfl) (pe_ix (ix_tupK (K := K) rfl) (pv 4) pe_int (fun _ _ => rfl)) (pe_ix (ix_tupK (K := K) rfl) (pv 0) pe_int (fun _ _ => rfl)) (by rfl)) (pe_cmpR (op_in_seqK (K := K) rfl) (pe_ix (ix_tupK (K := K) rfl) (pv 4) pe_int (fun _ _ => rfl)) (pe_ix (ix_tupK (K := K) rfl) (pv 0) pe_int (fun _ _ => rfl)) (by rfl)) (nomark _)))) (fun _ _ _ _ _ => (pv 4)))) (pe_lst pa_nil) (nomark _))))), go_start h ?_⟩)
  rintro ⟨m, a, b⟩ H0 G0 ⟨L, o, l3, ha, hb⟩ hq
  dsimp only at o ha hb hq ⊢
  refine q_asgX (Post := DfsP m m (a, b)) (O := fun F => oDT encP rBool (tru F)) (ex_call ((m, m, (a, b)) : Mc × Mc × Pr) (ea_cons (ev_var rfl) (ea_cons (ev_var rfl) (ea_cons (ev_pr (ev_var rfl) (ev_var rfl)) ea_nil))) ⟨L, o, o, ⟨ha, hb⟩, l3⟩) fun F D => ?_
  have h64 := D.le o o ⟨ha, hb⟩
  refine go_ret hq (ev_eq (ev_eqNil (dat_pr dat_nat dat_nat) (by decide) (ev_lcD (R := rBool) (T := rP) (unl m m) id keyP rfl rfl (tg_name 4) (by simp) (by rw [tru_len]; omega) (fun k hk O mm hO => et_unl rfl rfl rfl) fun k hk _ O mm hO => ev_var rfl)) ?_)
  rw [List.map_id, tru_keys, Bool.eq_iff_iff, D.none_iff, eqB_iff]
  exact Iff.rfl
end
end B
namespace B
open PySem L2
section
variable {P : Program} {w : World} {A : Ad} {K : PySem.W.Frag} {mg : Str → Option Value} {base : Heap}
def lensF (m1 m2 : Mc) (b : Pr) (n : Nat) : List Nat := (List.range' 0 n).map fun k => cnt m1 m2 k b
abbrev sp__law_lengths : Sp := prm (fun a : Mc × Mc × Pr × Nat => [.is rPm a.1, .is rPm a.2.1, .is rP a.2.2.1, .is rNat a.2.2.2]) (fun a => ∃ L, Ok2 L (a.1, a.2.1, a.2.2.1) ∧ a.2.2.2 ≤ 1000) (fun _ => rList rNat) (fun a => lensF a.1 a.2.1 a.2.2.1 a.2.2.2)
structure WtI (m1 m2 : Mc) (kv : List (Pr × Nat)) (F : (Pr → Nat) → Nat) : Prop where
  nd : (kv.map (·.1)).Nodup
  inn : ∀ p ∈ kv.map (·.1), inM m1 m2 p
  sum : ∀ f : Pr → Nat, (kv.map fun e => e.2 * f e.1).sum = F f
theorem WtI.le {L : Nat} {m1 m2 : Mc} (o1 : OkM L m1) (o2 : OkM L m2) {kv : List (Pr × Nat)} {F : (Pr → Nat) → Nat} (I : WtI m1 m2 kv F) : kv.length ≤ 64 := by
  have := pairs_le o1 o2 I.nd I.inn
  simpa using this
theorem WtI.add {m1 m2 : Mc} {kv : List (Pr × Nat)} {F : (Pr → Nat) → Nat} (I : WtI m1 m2 kv F) {g : Pr} (hg : inM m1 m2 g) (c : Nat) : WtI m1 m2 (put kv g ((look kv g).getD 0 + c)) (fun f => F f + c * f g) :=
  ⟨put_nodup I.nd _ _, fun p hp => (put_mem hp).elim (I.inn p) fun e => by rw [e]; exact hg, fun f => by rw [wsum_put I.nd, I.sum]⟩
theorem WtI.congr {m1 m2 : Mc} {kv : List (Pr × Nat)} {F F' : (Pr → Nat) → Nat} (I : WtI m1 m2 kv F) (h : ∀ f, F f = F' f) : WtI m1 m2 kv F' := ⟨I.nd, I.inn, fun f => by rw [I.sum, h]⟩
theorem ok__law_lengths (T : Txt A K mg) : FnOk P w K mg base CX0 1 A.f__law_lengths A.d__law_lengths ps__law_lengths sp__law_lengths := by
  refine T.F__law_lengths.ok sc__law_lengths (fun vs H Q E h => prm_len (fun _ => rfl) h) (fun cdv Ar outer s H vs Q E hr h => ⟨_, (pss_cons (ps_par (i := 4) (j := 5) (by rfl) sc__law_lengths.nd rfl rfl (by decide) rfl rfl (pa_cons (pe_lst pa_nil) (pa_cons (pe_dispT hr.units0 (pv 2) pe_int) pa_nil)) (by rfl))
      (pss_cons (ps_for PassesOwn.never rfl (pi_range1 (by rfl) T.n_range (pa_cons (pv 3) pa_nil)) (pg_name (i := 6) sc__law_lengths.nd rfl (by first | exact Or.inl rfl | exact Or.inr rfl)) (pss_cons (ps_par (i := 7) (j := 8) (by rfl) sc__law_lengths.nd rfl rfl (by decide) rfl rfl (pa_cons pe_dnewT (pa_cons pe_int pa_nil)) (by rfl))
      (pss_cons (ps_lock (ps_for PassesOwn.never rfl (pi_keys (pv 5)) (pg_name (i := 9) sc__law_lengths.nd rfl (by first | exact Or.inl rfl | exact Or.inr rfl)) (pss_cons (ps_set (i := 8) sc__law_lengths.nd rfl (by first | exact Or.inl rfl | exact Or.inr rfl) (pe_op op_add (pv 8) (pe_ifExp (pt_cmpR op_ne (pe_cmpR (op_in_seqK (K := K) rfl) (pe_ix (ix_tupK (K := K) rfl) (pv 9) pe_int (fun _ _ => rfl)) (pe_ix (ix_tupK (K := K) rfl) (pv 0) pe_int (fun _ _ => rfl)) (by rfl)) (pe_cmpR (op_in_seqK (K := K) rfl) (pe_ix (ix_tupK (K := K) rfl) (pv 9) pe_int (fun _ _ => rfl)) (pe_ix (ix_tupK (K := K) rfl) (pv 1) pe_int (fun _ _ => rfl)) (by rfl)) (nomark _)) (pe_dget (hu_of hr) (pv 5) (pv 9) (fun _ _ => rfl)) pe_int)))
      (pss_one (ps_for PassesOwn.never rfl (pi_zipNK (K := K) rfl (by rfl) T.n_zip (pa_cons (pe_ix (ix_tupK (K := K) rfl) (pe_ix (ix_tupK (K := K) rfl) (pv 0) pe_int (fun _ _ => rfl)) (pe_ix (ix_tupK (K := K) rfl) (pv 9) pe_int (fun _ _ => rfl)) (fun _ _ => rfl)) (pa_cons (pe_ix (ix_tupK (K := K) rfl) (pe_ix (ix_tupK (K := K) rfl) (pv 1) pe_int (fun _ _ => rfl)) (pe_ix (ix_tupK (K := K) rfl) (pv 9) pe_int (fun _ _ => rfl)) (fun _ _ => rfl)) pa_nil))) (pg_name (i := 10) sc__law_lengths.nd rfl (by first | exact Or.inl rfl | exact Or.inr rfl)) (pss_one (ps_dput (hu_of hr) (pv 7) (pv 10) (pe_op op_add (pe_dget2 (hu_of hr) (pv 7) (pv 10) pe_int ⟨rfl, rfl, rfl, rfl⟩) (pe_dget (hu_of hr) (pv 5) (pv 9) (fun _ _ => rfl))) rfl)))))))
      (pss_cons (ps_expr (pe_bm PySem.F.plainAttrs_list PySem.F.slot_list_append PySem.F.type_list_append mt_append (pv 4) (pa_cons (pv 8) pa_nil)))
      (pss_one (ps_set (i := 5) sc__law_lengths.nd rfl (by first | exact Or.inl rfl | exact Or.inr rfl) (pv 7)))))))
      (pss_one (ps_ret (pv 4))))), go_start h ?_⟩)
  rintro ⟨m1, m2, b, most⟩ H0 G0 ⟨L, hp, hm⟩ hq
  have o1 : OkM L m1 := hp.o1
  have o2 : OkM L m2 := hp.o2
  have hb : inM m1 m2 b := hp.i
  dsimp only at hm hq ⊢
  refine q_par (eg_own (eo_nil (R := rNat))) (eg_dispT (R := rNat) (x := 1) keyP (fun mm => ev_var rfl) (fun mm => ev_nat1)) ?_
  refine q_for (σt := Nat × List (Pr × Nat)) (fun _ => [.is rPm m1, .is rPm m2, .is rP b, .is rNat most, .own 0, .own 1, .no, .no, .no, .no, .no]) (fun s => [some (oList rNat (lensF m1 m2 b s.1)), some (oDT encP rNat s.2)])
    (fun n s => s.1 = n ∧ n ≤ most ∧ WtI m1 m2 s.2 (fun f => ((pends m1 m2 b n).map f).sum)) (0, [(b, 1)]) (it_range1 (ev_var rfl) (by omega)) (tg_name 6) ⟨rfl, Nat.zero_le _, by simp, fun p h => by
      have h : p ∈ [b] := h
      rw [List.mem_singleton.mp h]
      exact hb, fun f => by
      show 1 * f b + 0 = f b + 0
      omega⟩ (Wk.refl _) rfl ?_ ?_
  · rintro G1 bs i ⟨n, kv⟩ x hx ⟨en, hn, I⟩
    obtain ⟨hin, ex⟩ := List.getElem?_eq_some_iff.mp hx
    rw [List.getElem_range'] at ex
    rw [List.length_range'] at hin
    have ex : x = i := by omega
    subst ex
    have en : n = x := en
    subst en
    dsimp only at I ⊢
    have h64 := I.le o1 o2
    refine q_par (eg_own (eo_dT (R := rNat) (enc := encP))) (eg_ev ev_nat0) ?_
    refine q_forD (σt := Nat × List (Pr × Nat)) (fun s => [.is rPm m1, .is rPm m2, .is rP b, .is rNat most, .own 0, .own 1, .is rNat n, .own 2, .is rNat s.1, .no, .no]) (fun s => [some (oList rNat (lensF m1 m2 b n)), some (oDT encP rNat kv), some (oDT encP rNat s.2)])
      (fun i s => s.1 = ((kv.take i).map fun e => e.2 * cnt m1 m2 0 e.1).sum ∧ WtI m1 m2 s.2 (fun f => ((kv.take i).map fun e => e.2 * ((goals m1 m2 e.1).map f).sum).sum)) (0, []) keyP rfl rfl (fun _ => rfl) (fun _ => rfl) (tg_name 9) ⟨rfl, by simp, by simp, fun f => rfl⟩ (Wk.refl _) rfl ?_ ?_
    · rintro O hO D' G2 bs2 i ⟨ow, lt⟩ p hpk ⟨how, J⟩ hD'
      dsimp only at how J ⊢
      rw [List.getElem?_map] at hpk
      cases hkv : kv[i]? with
      | none =>
        rw [hkv] at hpk
        cases hpk
      | some e =>
        obtain ⟨p', c⟩ := e
        rw [hkv] at hpk
        have ep : p = p' := (Option.some.inj hpk).symm
        subst ep
        have hem := List.mem_of_getElem? hkv
        have hlk : look kv p = some c := look_at I.nd hem
        have hpi := I.inn p (List.mem_map_of_mem (f := (·.1)) hem)
        have l64 := J.le o1 o2
        refine q_asg (eg_ev (ev_addN (ev_var rfl) (ev_ifx (x := c) (x' := 0) (et_unl rfl rfl rfl) (fun _ => ev_dget keyP rfl rfl hO (ev_var rfl) hlk) fun _ => ev_nat0))) ?_
        refine go_for (σt := List (Pr × Nat)) (fun lt' => [.is rPm m1, .is rPm m2, .is rP b, .is rNat most, .own 0, .own 1, .is rNat n, .own 2, .is rNat (ow + if unl m1 m2 p then c else 0), .is rP p, .no]) (fun lt' => [some (oList rNat (lensF m1 m2 b n)), some O, some (oDT encP rNat lt')])
          (fun j lt' => WtI m1 m2 lt' (fun f => ((kv.take i).map fun e => e.2 * ((goals m1 m2 e.1).map f).sum).sum + c * (((goals m1 m2 p).take j).map f).sum)) lt (it_zipN (R := rNat) (T := rNat) (row0 (L := L) hpi.1 rfl rfl) (row1 (L := L) hpi.2 rfl rfl)) (tg_name 10) (J.congr fun f => by simp) (.same (.same (.same (.same (.same (.same (.same (.same (.same (.same (.same .nil))))))))))) rfl ?_ ?_
        · rintro G3 bs3 j lt' g hg J2
          have hg : (goals m1 m2 p)[j]? = some g := hg
          have hgi := goals_in o1 o2 hpi (List.mem_of_getElem? hg)
          have l64' := J2.le o1 o2
          refine go_dput keyP rfl rfl (ev_addN (ev_dget2 keyP rfl rfl isDT (ev_var rfl) ev_nat0) (ev_dget keyP rfl rfl hO (ev_var rfl) hlk)) (ev_var rfl) (by omega) ?_
          refine go_turn _ ((J2.add hgi c).congr fun f => ?_) (.same (.same (.same (.same (.same (.same (.same (.same (.same (.same (.no .nil))))))))))) rfl
          rw [take_snoc hg, List.map_append, List.sum_append, List.map_singleton, List.sum_singleton, Nat.mul_add, Nat.add_assoc]
        · rintro lt' J2
          have hl : ((row m1 p.1).zip (row m2 p.2)).length = (goals m1 m2 p).length := rfl
          rw [hl, List.take_length] at J2
          refine go_turnE hD' (ow + (if unl m1 m2 p then c else 0), lt') ⟨?_, J2.congr fun f => ?_⟩ (.same (.same (.same (.same (.same (.same (.same (.same (.same (.no (.same .nil))))))))))) rfl
          · show ow + _ = _
            rw [take_snoc hkv, List.map_append, List.sum_append, how]
            congr 1
            show _ = c * (if unl m1 m2 p = true then 1 else 0) + 0
            by_cases hu : unl m1 m2 p = true
            · rw [if_pos hu, if_pos hu]
              omega
            · rw [if_neg hu, if_neg hu]
              omega
          · rw [take_snoc hkv, List.map_append, List.sum_append]
            rfl
    · rintro ⟨ow, lt⟩ ⟨how, J⟩
      rw [List.take_length] at how J
      dsimp only at how J ⊢
      have hlen : (lensF m1 m2 b n).length ≤ 1000 := by unfold lensF; rw [List.length_map, List.length_range']; omega
      refine q_app rfl rfl (by omega) (ev_var rfl) ?_
      refine go_asg (eg_var rfl) ?_
      refine go_perm (S' := [.is rPm m1, .is rPm m2, .is rP b, .is rNat most, .own 0, .own 1, .no, .no, .no, .no, .no]) [0, 2] (by decide) (by simp) (.is (.is (.is (.is (.own rfl (.own rfl (.no (.no (.no (.no (.no .nil))))))))))) ?_
      have hcn : ow = cnt m1 m2 n b := by
        rw [how, I.sum, ← cnt_pends, Nat.add_zero]
      refine go_turn (n + 1, lt) ⟨rfl, hin, J.congr fun f => ?_⟩ (Wk.refl _) ?_
      · have hs := I.sum fun p => ((goals m1 m2 p).map f).sum
        show _ = (((pends m1 m2 b n).flatMap (goals m1 m2)).map f).sum
        rw [sum_flatMap]
        exact hs
      · show [some (oList rNat (lensF m1 m2 b n ++ [ow])), _] = [some (oList rNat (lensF m1 m2 b (n + 1))), _]
        have : lensF m1 m2 b n ++ [ow] = lensF m1 m2 b (n + 1) := by
          unfold lensF
          rw [rng_succ, List.map_append, hcn]
          rfl
        rw [this]
        rfl
  · rintro ⟨n, kv⟩ ⟨en, hn, I⟩
    rw [List.length_range'] at en
    have en : n = most := en
    subst en
    exact go_frzL (i := 4) rfl rfl (go_ret hq (ev_var rfl))
noncomputable abbrev sp__law_unlike : Sp := prm sgp (fun a => ∃ L, Ok2 L a) (fun a => rSome rC (CntP a.1 a.2.1 a.2.2)) (fun _ => ())
theorem lens_sum (m1 m2 : Mc) (b : Pr) (n : Nat) : (lensF m1 m2 b n).sum = sumTo (fun k => cnt m1 m2 k b) n := by
  unfold lensF
  induction n with
  | zero => rfl
  | succ n ih =>
    rw [rng_succ, List.map_append, List.sum_append, ih]
    show _ + (_ + 0) = _ + _
    rw [Nat.add_zero]
theorem lens_at {m1 m2 : Mc} {b : Pr} {n k : Nat} (h : k < n) : (lensF m1 m2 b n)[k]? = some (cnt m1 m2 k b) := map_rng_at h
theorem ok__law_unlike (T : Txt A K mg) : FnOk P w K mg base CX0 2 A.f__law_unlike A.d__law_unlike ps__law_unlike sp__law_unlike := by
  refine T.F__law_unlike.ok sc__law_unlike (fun vs H Q E h => prm_len (fun _ => rfl) h) (fun cdv Ar outer s H vs Q E hr h => ⟨_, (pss_cons (ps_set (i := 3) sc__law_unlike.nd rfl (by first | exact Or.inl rfl | exact Or.inr rfl) (pe_call (ok__law_pairs T) (hr.mono (by decide)) (by rfl) T.g__law_pairs T.F__law_pairs.kp T.b__law_pairs .nil pass0 (pa_cons (pv 0) (pa_cons (pv 1) (pa_cons (pv 2) pa_nil)))))
      (pss_cons (ps_if (pt_cmpR (op_eqDK (K := K) rfl hr.units) (pe_lock (pe_lc (own := [("_law_pair", 6)]) (g := gName 6) (by rfl) sc__law_unlike.nd (pi_keys (pv 3)) (blkOk_by (own := [("_law_pair", 6)]) (N := nm__law_unlike) (sc := defScope st__law_unlike) (by decide +kernel)) (fun _ _ _ _ _ => (pg_name (i := 6) sc__law_unlike.nd rfl (by first | exact Or.inl rfl | exact Or.inr rfl))) (fun _ _ _ _ _ => (pts_one (pt_cmpR op_ne (pe_cmpR (op_in_seqK (K := K) rfl) (pe_ix (ix_tupK (K := K) rfl) (pv 6) pe_int (fun _ _ => rfl)) (pe_ix (ix_tupK (K := K) rfl) (pv 0) pe_int (fun _ _ => rfl)) (by rfl)) (pe_cmpR (op_in_seqK (K := K) rfl) (pe_ix (ix_tupK (K := K) rfl) (pv 6) pe_int (fun _ _ => rfl)) (pe_ix (ix_tupK (K := K) rfl) (pv 1) pe_int (fun _ _ => rfl)) (by rfl)) (nomark _)))) (fun _ _ _ _ _ => (pv 6)))) (pe_lst pa_nil) (nomark _)) (pss_one (ps_ret (pe_tup (pa_cons pe_int (pa_cons (pe_un un_neg pe_int) pa_nil))))) pss_nil)
      (pss_cons (ps_set (i := 4) sc__law_unlike.nd rfl (by first | exact Or.inl rfl | exact Or.inr rfl) (pe_callB call_len_dT (by rfl) T.n_len PySem.boot_len (pa_cons (pv 3) pa_nil)))
      (pss_cons (ps_set (i := 5) sc__law_unlike.nd rfl (by first | exact Or.inl rfl | exact Or.inr rfl) (pe_call (ok__law_lengths T) (hr.mono (by decide)) (by rfl) T.g__law_lengths T.F__law_lengths.kp T.b__law_lengths .nil pass0 (pa_cons (pv 0) (pa_cons (pv 1) (pa_cons (pv 2) (pa_cons (pe_op op_mul pe_int (pv 4)) pa_nil))))))
      (pss_cons (ps_if (pt_cmpR op_gt (pe_callB (cr_sumK (K := K) rfl rfl) (by rfl) T.n_sum (by decide +kernel) (pa_cons (pe_slice (sl_listK (K := K) rfl) (pv 5) (po_some (pv 4)) po_none) pa_nil)) pe_int (nomark _)) (pss_one (ps_ret pe_non)) pss_nil)
      (pss_one (ps_ret (pe_tup (pa_cons (pe_callB (cr_sumK (K := K) rfl rfl) (by rfl) T.n_sum (by decide +kernel) (pa_cons (pv 5) pa_nil)) (pa_cons (pe_callB (cr_maxK (K := K) rfl rfl) (by rfl) T.n_max (by decide +kernel) (pa_cons (pe_op op_cat (pe_lst (pa_cons (pe_un un_neg pe_int) pa_nil)) (pe_lc (own := [("_law_k", 7)]) (g := gName 7) (by rfl) sc__law_unlike.nd (pi_range1 (by rfl) T.n_range (pa_cons (pv 4) pa_nil)) (blkOk_by (own := [("_law_k", 7)]) (N := nm__law_unlike) (sc := defScope st__law_unlike) (by decide +kernel)) (fun _ _ _ _ _ => (pg_name (i := 7) sc__law_unlike.nd rfl (by first | exact Or.inl rfl | exact Or.inr rfl))) (fun _ _ _ _ _ => (pts_one (pt_cmpR op_gt (pe_ix (ix_listK (K := K) rfl) (pv 5) (pv 7) (fun _ _ => rfl)) pe_int (nomark _)))) (fun _ _ _ _ _ => (pv 7)))) pa_nil)) pa_nil)))))))))), go_start h ?_⟩)
  rintro ⟨m1, m2, b⟩ H0 G0 ⟨L, hp⟩ hq
  have o1 : OkM L m1 := hp.o1
  have o2 : OkM L m2 := hp.o2
  have hb : inM m1 m2 b := hp.i
  refine q_asgX (Post := DfsP m1 m2 b) (O := fun F => oDT encP rBool (tru F)) (ex_call ((m1, m2, b) : Mc × Mc × Pr) (ea_cons (ev_var rfl) (ea_cons (ev_var rfl) (ea_cons (ev_var rfl) ea_nil))) ⟨L, hp⟩) fun F D => ?_
  have h64 := D.le o1 o2 hb
  refine q_when (b := (F.filter (unl m1 m2)).isEmpty) (et_eq (et_test (ev_eqNil (dat_pr dat_nat dat_nat) (by decide) (ev_lcD (R := rBool) (T := rP) (unl m1 m2) id keyP rfl rfl (tg_name 6) (by simp) (by rw [tru_len]; omega) (fun k hk O mm hO => et_unl rfl rfl rfl) fun k hk _ O mm hO => ev_var rfl))) (by rw [List.map_id, tru_keys])) (fun he => ?_) (fun he => ?_)
  · have hz := D.none_iff.mp he
    refine go_ret hq (ev_someI (x := some (0, -1)) (ev_optS nn_pr (ev_pr ev_nat0 (ev_neg ev_int))) ?_)
    show some 0 = tot m1 m2 b
    exact (fin_of (N := 0) fun k _ => hz k).symm
  · refine q_asg (eg_ev (ev_eq (ev_lenD rfl rfl) (tru_len F))) ?_
    refine q_asg (eg_ev (ev_call ((m1, m2, b, 2 * F.length) : Mc × Mc × Pr × Nat) (ea_cons (ev_var rfl) (ea_cons (ev_var rfl) (ea_cons (ev_var rfl) (ea_cons (ev_mulN ev_nat2 (ev_var rfl) (by omega)) ea_nil)))) ⟨L, hp, by show 2 * F.length ≤ 1000; omega⟩)) ?_
    have hl : (lensF m1 m2 b (2 * F.length)).length = 2 * F.length := by unfold lensF; simp
    have hcut : cutN (lensF m1 m2 b (2 * F.length)) (some F.length) none = (List.range' F.length F.length).map fun k => cnt m1 m2 k b := by
      unfold cutN
      rw [hl]
      show List.take (min (2 * F.length) (2 * F.length) - min F.length (2 * F.length)) (List.drop (min F.length (2 * F.length)) _) = _
      rw [Nat.min_self, Nat.min_eq_left (by omega)]
      unfold lensF
      rw [← List.map_drop, ← List.map_take, List.drop_range', List.take_of_length_le (by rw [List.length_range']; exact Nat.le_refl _)]
      congr 2
      · omega
      · omega
    refine q_when (b := decide (0 < (cutN (lensF m1 m2 b (2 * F.length)) (some F.length) none).sum)) (et_test (ev_gtN (ev_sumN (ev_slL (R := rNat) (ev_var rfl) (ov_some (ev_var rfl)) ov_none)) ev_nat0)) (fun hs => ?_) (fun hs => ?_)
    · have hs := of_decide_eq_true hs
      rw [hcut] at hs
      obtain ⟨x, hx, hx0⟩ := sum_pos.mp (Nat.ne_of_gt hs)
      obtain ⟨k, hk, rfl⟩ := List.mem_map.mp hx
      rw [List.mem_range'_1] at hk
      refine go_ret hq (ev_someI (x := none) ev_optN ?_)
      show none = tot m1 m2 b
      exact (fin_none.mpr (pump_up D.cl D.beg hk.1 hx0)).symm
    · have hs := of_decide_eq_false hs
      rw [hcut] at hs
      have hz : ∀ k, F.length ≤ k → k < 2 * F.length → cnt m1 m2 k b = 0 := fun k h1 h2 => Classical.byContradiction fun hne => by
        have := sum_pos.mpr ⟨_, List.mem_map_of_mem (f := fun k => cnt m1 m2 k b) (List.mem_range'_1.mpr ⟨h1, by omega⟩ : k ∈ List.range' F.length F.length), hne⟩
        omega
      have hz2 := window D.cl D.beg hz
      refine go_ret hq (ev_someI (x := some (sumTo (fun k => cnt m1 m2 k b) (2 * F.length), maxI (-1) (((List.range' 0 F.length).filter fun k => decide (0 < cnt m1 m2 k b)).map fun k : Nat => (k : Int)))) (ev_optS nn_pr (ev_pr (ev_eq (ev_sumN (ev_var rfl)) (lens_sum m1 m2 b _)) (ev_maxI (ev_cat (ev_lst (xs := [(-1 : Int)]) (ea_cons (ev_neg ev_int) ea_nil) (by simp)) (ev_lc (T := rInt) (R := rNat) (fun k => decide (0 < cnt m1 m2 k b)) (fun k => (k : Int)) (it_range1 (ev_var rfl) (by omega)) (tg_name 7) (by simp) (by rw [List.length_range']; omega) (fun k hk mm => et_test (ev_gtN (ev_ixL (R := rNat) (ev_var rfl) (ev_var rfl) (lens_at ?_)) ev_nat0)) fun k hk _ mm => ev_toI (ev_var rfl)) ?_) (maxI_mem _ _) (maxI_ge _ _)))) ?_)
      · rw [List.mem_range'_1] at hk
        show k < 2 * F.length
        omega
      · rw [List.length_map]
        have := List.length_filter_le (fun k => decide (0 < cnt m1 m2 k b)) (List.range' 0 F.length)
        rw [List.length_range'] at this
        simp only [List.length_singleton]
        omega
      · show some _ = tot m1 m2 b
        exact (fin_of (N := 2 * F.length) fun k hk => hz2 k (by omega)).symm
end
end B
namespace B
open PySem L2
section
variable {P : Program} {w : World} {A : Ad} {K : PySem.W.Frag} {mg : Str → Option Value} {base : Heap}
noncomputable abbrev sp__law_least : Sp := prm (fun m : Mc => [.is rPm m]) Ok1 (fun _ => rPm) leastM
theorem like_least {L : Nat} {m : Mc} (o : OkM L m) {l : List Nat} (hn : (l.map (canon m)).Nodup) (hl : ∀ s ∈ l, s < m.1.length) {g : Nat} (hg : g < m.1.length) :
    (List.range' 0 l.length).filter (fun k => eqB m (l.getD k 0) g) = if canon m g ∈ l.map (canon m) then [ixOf (l.map (canon m)) (canon m g)] else [] := by
  have key : ∀ k, k < l.length → (eqB m (l.getD k 0) g = true ↔ (l.map (canon m))[k]? = some (canon m g)) := fun k hk => by
    have h1 : l[k]? = some l[k] := List.getElem?_eq_getElem hk
    have h2 : l.getD k 0 = l[k] := by rw [List.getD_eq_getElem?_getD, h1]; rfl
    rw [h2, eqB_iff, ← canon_congr o (hl _ (List.getElem_mem hk)) hg, List.getElem?_map, h1]
    exact ⟨fun e => congrArg some e, fun e => Option.some.inj e⟩
  split
  · next hm =>
    refine sorted_ext (List.Pairwise.filter _ (List.pairwise_lt_range' (s := 0) (n := l.length))) (by simp) fun x => ?_
    rw [List.mem_filter, List.mem_range'_1, List.mem_singleton]
    constructor
    · rintro ⟨h1, h2⟩
      exact (at_idx hn ((key x (by omega)).mp h2)).symm
    · intro e
      have hi := idx_at hm
      have hlt : ixOf (l.map (canon m)) (canon m g) < l.length := by
        have := idx_lt hm
        rw [List.length_map] at this
        exact this
      rw [e]
      exact ⟨⟨Nat.zero_le _, by omega⟩, (key _ hlt).mpr hi⟩
  · next hm =>
    rw [List.filter_eq_nil_iff]
    intro x hx h2
    rw [List.mem_range'_1] at hx
    exact hm (List.mem_of_getElem? ((key x (by omega)).mp h2))
theorem ok__law_least (T : Txt A K mg) : FnOk P w K mg base CX0 3 A.f__law_least A.d__law_least ps__law_least sp__law_least := by
  refine T.F__law_least.ok sc__law_least (fun vs H Q E h => prm_len (fun _ => rfl) h) (fun cdv Ar outer s H vs Q E hr h => ⟨_, (pss_cons (ps_asg (pe_tup (pa_cons (pe_lst (pa_cons pe_int pa_nil)) (pa_cons (pe_lst pa_nil) pa_nil))) (pg_tupK (K := K) rfl (by rfl) (pgs_cons (pg_name (i := 1) sc__law_least.nd rfl (by first | exact Or.inl rfl | exact Or.inr rfl)) (pgs_cons (pg_name (i := 2) sc__law_least.nd rfl (by first | exact Or.inl rfl | exact Or.inr rfl)) pgs_nil))))
      (pss_cons (ps_for PassesOwn.never rfl (pi_range1 (by rfl) T.n_range (pa_cons (pe_callB (call_len_seqK (K := K) rfl) (by rfl) T.n_len PySem.boot_len (pa_cons (pe_ix (ix_tupK (K := K) rfl) (pv 0) pe_int (fun _ _ => rfl)) pa_nil)) pa_nil)) (pg_name (i := 3) sc__law_least.nd rfl (by first | exact Or.inl rfl | exact Or.inr rfl)) (pss_one (ps_if (pt_cmpR op_lt (pv 3) (pe_callB (call_len_seqK (K := K) rfl) (by rfl) T.n_len PySem.boot_len (pa_cons (pv 1) pa_nil)) (nomark _)) (pss_cons (ps_set (i := 4) sc__law_least.nd rfl (by first | exact Or.inl rfl | exact Or.inr rfl) (pe_lst pa_nil))
      (pss_cons (ps_for PassesOwn.never rfl (pi_tupK (K := K) rfl (pe_ix (ix_tupK (K := K) rfl) (pe_ix (ix_tupK (K := K) rfl) (pv 0) pe_int (fun _ _ => rfl)) (pe_ix (ix_listK (K := K) rfl) (pv 1) (pv 3) (fun _ _ => rfl)) (fun _ _ => rfl))) (pg_name (i := 5) sc__law_least.nd rfl (by first | exact Or.inl rfl | exact Or.inr rfl)) (pss_cons (ps_setLc (i := 6) (own := [("_law_at", 7)]) (g := gName 7) (by rfl) sc__law_least.nd rfl rfl (sw_true rfl rfl rfl (by decide +kernel)) (pi_range1 (by rfl) T.n_range (pa_cons (pe_callB (call_len_seqK (K := K) rfl) (by rfl) T.n_len PySem.boot_len (pa_cons (pv 1) pa_nil)) pa_nil)) (blkOk_by (own := [("_law_at", 7)]) (N := nm__law_least) (sc := defScope st__law_least) (by decide +kernel)) (fun _ _ _ _ _ => (pg_name (i := 7) sc__law_least.nd rfl (by first | exact Or.inl rfl | exact Or.inr rfl))) (fun _ _ _ _ _ => (pts_one (pt_val (pe_call (ok__law_same T) (hr.mono (by decide)) (by rfl) T.g__law_same T.F__law_same.kp T.b__law_same .nil pass0 (pa_cons (pv 0) (pa_cons (pe_ix (ix_listK (K := K) rfl) (pv 1) (pv 7) (fun _ _ => rfl)) (pa_cons (pv 5) pa_nil))))))) (fun _ _ _ _ _ => (pv 7)))
      (pss_cons (ps_if (pt_cmpR (op_eqDK (K := K) rfl hr.units) (pv 6) (pe_lst pa_nil) (nomark _)) (pss_cons (ps_set (i := 6) sc__law_least.nd rfl (by first | exact Or.inl rfl | exact Or.inr rfl) (pe_lst (pa_cons (pe_callB (call_len_seqK (K := K) rfl) (by rfl) T.n_len PySem.boot_len (pa_cons (pv 1) pa_nil)) pa_nil)))
      (pss_one (ps_expr (pe_bm PySem.F.plainAttrs_list PySem.F.slot_list_append PySem.F.type_list_append mt_append (pv 1) (pa_cons (pv 5) pa_nil))))) pss_nil)
      (pss_one (ps_expr (pe_bm PySem.F.plainAttrs_list PySem.F.slot_list_append PySem.F.type_list_append mt_append (pv 4) (pa_cons (pe_ix (ix_listK (K := K) rfl) (pv 6) pe_int (fun _ _ => rfl)) pa_nil)))))))
      (pss_one (ps_expr (pe_bm PySem.F.plainAttrs_list PySem.F.slot_list_append PySem.F.type_list_append mt_append (pv 2) (pa_cons (pe_callTy (call_tuple_ofK (K := K) rfl) (by rfl) T.n_tuple (by decide +kernel) (pa_cons (pv 4) pa_nil)) pa_nil)))))) pss_nil)))
      (pss_one (ps_ret (pe_tup (pa_cons (pe_callTy (call_tuple_ofK (K := K) rfl) (by rfl) T.n_tuple (by decide +kernel) (pa_cons (pv 2) pa_nil)) (pa_cons (pe_callTy (call_tuple_ofK (K := K) rfl) (by rfl) T.n_tuple (by decide +kernel) (pa_cons (pe_lc (own := [("_law_k", 3)]) (g := gName 3) (by rfl) sc__law_least.nd (pi_range1 (by rfl) T.n_range (pa_cons (pe_callB (call_len_seqK (K := K) rfl) (by rfl) T.n_len PySem.boot_len (pa_cons (pv 1) pa_nil)) pa_nil)) (blkOk_by (own := [("_law_k", 3)]) (N := nm__law_least) (sc := defScope st__law_least) (by decide +kernel)) (fun _ _ _ _ _ => (pg_name (i := 3) sc__law_least.nd rfl (by first | exact Or.inl rfl | exact Or.inr rfl))) (fun _ _ _ _ _ => (pts_one (pt_cmpR (op_in_seqK (K := K) rfl) (pe_ix (ix_listK (K := K) rfl) (pv 1) (pv 3) (fun _ _ => rfl)) (pe_ix (ix_tupK (K := K) rfl) (pv 0) pe_int (fun _ _ => rfl)) (by rfl)))) (fun _ _ _ _ _ => (pv 3))) pa_nil)) pa_nil))))))), go_start h ?_⟩)
  rintro m H0 G0 ⟨L, o, l3⟩ hq
  have h8 := o.le8
  have h1 := o.pos
  refine q_parN (n := 2) (S := [.is rPm m, .no, .no, .no, .no, .no, .no, .no]) (ss := [.own 0, .own 1]) [1, 2] rfl rfl (by decide) (egs_cons (eg_own (eo_one (R := rNat) ev_nat0)) (egs_cons (eg_own (eo_nil (R := rRow))) egs_nil)) ?_
  refine q_for (σt := List Nat × Nat) (fun _ => [.is rPm m, .own 0, .own 1, .no, .no, .no, .no, .no]) (fun s => [some (oList rNat s.1), some (oList rRow ((s.1.take s.2).map (lnRow m s.1)))]) (fun i s => s.2 = min i s.1.length ∧ LnI m s.1 s.2 ∧ LnC m s.1 s.2) ([0], 0)
    (it_range1 (n := m.1.length) (ev_lenT (R := rRow) (ev_fst (ev_var rfl))) (by omega)) (tg_name 3) ⟨rfl, ln_start o, fun s hs => by simp at hs⟩ (Wk.refl _) rfl ?_ ?_
  · rintro G1 bs i ⟨l, k⟩ x hx ⟨ek, I, C⟩
    obtain ⟨hin, ex⟩ := List.getElem?_eq_some_iff.mp hx
    rw [List.getElem_range'] at ex
    rw [List.length_range'] at hin
    have ex : x = i := by omega
    subst ex
    dsimp only at ek I C ⊢
    have h8' := I.le8 o
    refine go_when (b := decide (x < l.length)) (et_test (ev_ltN (ev_var rfl) (ev_lenO rfl rfl))) (fun hb => ?_) (fun hb => ?_)
    · have hb := of_decide_eq_true hb
      have ek : k = x := by omega
      subst ek
      have hx : l[k]? = some l[k] := List.getElem?_eq_getElem hb
      generalize l[k] = here at hx
      have hh : here < m.1.length := I.inn _ (List.mem_of_getElem? hx)
      have hlt : ((l.take k).map (lnRow m l)).length = k := by rw [List.length_map, List.length_take]; omega
      refine q_asg (eg_own (eo_nil (R := rNat))) ?_
      refine q_for (σt := List Nat × List Nat) (fun s => [.is rPm m, .own 0, .own 1, .is rNat k, .own 2, .no, .no, .no]) (fun s => [some (oList rNat s.1), some (oList rRow ((l.take k).map (lnRow m l))), some (oList rNat s.2)])
        (fun i s => LnJ m l here i s.1 ∧ (∀ g ∈ (row m here).take i, canon m g ∈ s.1.map (canon m)) ∧ s.2 = ((row m here).take i).map fun g => ixOf (s.1.map (canon m)) (canon m g)) (l, [])
        (it_tup (R := rNat) (ev_ixT (ev_fst (ev_var rfl)) (ev_ixO (x := here) rfl rfl (ev_var rfl) hx) (row_at hh))) (tg_name 5) ⟨lnj_start l here I.inn, fun g hg => by simp at hg, rfl⟩ (Wk.refl _) rfl ?_ ?_
      · rintro G1 bs i ⟨l', rw'⟩ g hg ⟨J, hin, hrw⟩
        dsimp only at J hin hrw ⊢
        have hgl : g < m.1.length := o.row_lt hh (List.mem_of_getElem? hg)
        have h8'' := J.le8 o I.nd
        have hi8 : i < L := by
          have := (List.getElem?_eq_some_iff.mp hg).1
          rw [o.row_len hh] at this
          exact this
        have hrl : rw'.length ≤ 8 := by
          rw [hrw, List.length_map, List.length_take]
          omega
        have hlike := like_least o (J.nd I.nd) J.inn hgl
        refine q_asg (eg_ev (ev_lc (T := rNat) (R := rNat) (fun k => eqB m (l'.getD k 0) g) id (it_range1 (ev_lenO rfl rfl) (by omega)) (tg_name 7) (by simp) (by rw [List.length_range']; omega) (fun y hy mm => ?_) fun y hy _ mm => ev_var rfl)) ?_
        · rw [List.mem_range'_1] at hy
          have hy1 : l'[y]? = some (l'.getD y 0) := by
            rw [List.getD_eq_getElem?_getD, List.getElem?_eq_getElem (by omega)]
            rfl
          exact et_B (ev_call ((m, l'.getD y 0, g) : Mc × Nat × Nat) (ea_cons (ev_var rfl) (ea_cons (ev_ixO rfl rfl (ev_var rfl) hy1) (ea_cons (ev_var rfl) ea_nil))) ⟨L, o, l3, J.inn _ (List.mem_of_getElem? hy1), hgl⟩)
        rw [List.map_id, hlike]
        refine q_when (b := !decide (canon m g ∈ l'.map (canon m))) (et_eq (et_test (ev_eqNil dat_nat (by decide) (ev_var rfl))) ?_) (fun hn => ?_) (fun hn => ?_)
        · by_cases hm : canon m g ∈ l'.map (canon m)
          · rw [if_pos hm, decide_eq_true hm]
            rfl
          · rw [if_neg hm, decide_eq_false hm]
            rfl
        · have hn2 : canon m g ∉ l'.map (canon m) := by simpa using hn
          have J2 := J.new hg hgl hn2
          refine q_asg (eg_ev (ev_lst (xs := [l'.length]) (ea_cons (ev_lenO rfl rfl) ea_nil) (by simp))) ?_
          refine go_app rfl rfl (by omega) (ev_var rfl) ?_
          have eix : l'.length = ixOf ((l' ++ [g]).map (canon m)) (canon m g) := by
            have h3 : ((l' ++ [g]).map (canon m))[l'.length]? = some (canon m g) := by
              rw [List.getElem?_map, List.getElem?_append_right (Nat.le_refl _), Nat.sub_self]
              rfl
            exact (at_idx (J2.nd I.nd) h3).symm
          refine go_app (x := l'.length) rfl rfl (by omega) (ev_ixL (R := rNat) (xs := [l'.length]) (ev_var rfl) ev_nat0 rfl) ?_
          refine go_turn (l' ++ [g], rw' ++ [l'.length]) ⟨J2, ?_, ?_⟩ (.same (.same (.same (.same (.same (.no (.no (.same .nil)))))))) rfl
          · intro x hx'
            rcases (mem_take_succ hg).mp hx' with q | q
            · rw [List.map_append]
              exact List.mem_append_left _ (hin x q)
            · rw [q]
              simp
          · show rw' ++ _ = _
            have spl : ∀ F : Nat → Nat, ((row m here).take i ++ [g]).map F = ((row m here).take i).map F ++ [F g] := fun F => by simp
            rw [take_snoc hg, spl, hrw, ← eix]
            congr 1
            refine List.map_congr_left fun x hx' => ?_
            rw [List.map_append]
            exact (ix_app (hin x hx')).symm
        · have hn2 : canon m g ∈ l'.map (canon m) := by simpa using hn
          rw [if_pos hn2]
          refine go_app (x := ixOf (l'.map (canon m)) (canon m g)) rfl rfl (by omega) (ev_ixL (R := rNat) (ev_var rfl) ev_nat0 rfl) ?_
          refine go_turn (l', rw' ++ [ixOf (l'.map (canon m)) (canon m g)]) ⟨J.old hg hn2, ?_, ?_⟩ (.same (.same (.same (.same (.same (.no (.no (.same .nil)))))))) rfl
          · intro x hx'
            rcases (mem_take_succ hg).mp hx' with q | q
            · exact hin x q
            · rw [q]
              exact hn2
          · show rw' ++ _ = _
            rw [take_snoc hg, List.map_append, List.map_singleton, hrw]
      · rintro ⟨l', rw'⟩ ⟨J, hin, hrw⟩
        dsimp only at J hin hrw ⊢
        rw [List.take_length] at hrw
        obtain ⟨C2, ht, hrows⟩ := C.next hx J
        have erow : rw' = lnRow m l' here := hrw
        refine go_app rfl rfl (by rw [hlt]; omega) (ev_tupOfO (R := rNat) rfl rfl) ?_
        refine go_wk (S' := [.is rPm m, .own 0, .own 1, .no, .no, .no, .no, .no]) (.same (.same (.same (.no (.no (.same (.same (.same .nil)))))))) ?_
        refine go_forget (M := [some (oList rNat l'), some (oList rRow ((l.take k).map (lnRow m l) ++ [rw']))]) (m := some (oList rNat rw')) rfl ?_
        have I2 := I.next o hx (by omega) J
        refine go_turn (l', k + 1) ⟨?_, I2, C2⟩ (Wk.refl _) ?_
        · have : k + 1 ≤ l'.length := I2.le
          show k + 1 = min (k + 1) l'.length
          omega
        · show _ = [_, some (oList rRow ((l'.take (k + 1)).map (lnRow m l')))]
          rw [ht, List.map_append, hrows, erow]
          rfl
    · have hb := of_decide_eq_false hb
      refine go_turn (l, k) ⟨by show k = min (x + 1) l.length; omega, I, C⟩ (.same (.same (.same (.no (.same (.same (.same (.same .nil)))))))) rfl
  · rintro ⟨l, k⟩ ⟨ek, I, C⟩
    rw [List.length_range'] at ek
    dsimp only at ek I C ⊢
    have hln : l.length ≤ m.1.length := by
      have := nodup_le (n := m.1.length) I.nd (all := List.range m.1.length) (fun x hx => by
        obtain ⟨s, hs, rfl⟩ := List.mem_map.mp hx
        exact List.mem_range.mpr (canon_spec o (I.inn s hs)).1) (by simp)
      simpa using this
    have hk : l.length ≤ k := by omega
    have h8' := I.le8 o
    rw [List.take_of_length_le hk]
    have hat : ∀ y, y < l.length → l[y]? = some (l.getD y 0) := fun y hy => by
      rw [List.getD_eq_getElem?_getD, List.getElem?_eq_getElem hy]
      rfl
    refine go_ret hq (ev_eq (ev_pr (x := (leastM m).1) ?_ (ev_tupOf (ev_lc (T := rNat) (R := rNat) (fun y => decide (l.getD y 0 ∈ m.2)) id (it_range1 (ev_lenO rfl rfl) (by omega)) (tg_name 3) (by simp) (by rw [List.length_range']; omega) (fun y hy mm => et_test (ev_inT (ev_ixO rfl rfl (ev_var rfl) (hat y ?_)) (ev_snd (ev_var rfl)))) fun y hy _ mm => ev_var rfl))) ?_)
    · rw [← I.rows o hk]
      exact ev_tupOfO (R := rRow) rfl rfl
    · rw [List.mem_range'_1] at hy
      omega
    · refine Prod.ext rfl ?_
      show List.map id _ = (List.range' 0 (lnL m).length).filter _
      rw [List.map_id, ← I.done hk, List.length_map]
      refine List.filter_congr fun y hy => ?_
      rw [List.mem_range'_1] at hy
      have h3 := hat y (by omega)
      have hs := I.inn _ (List.mem_of_getElem? h3)
      rw [decide_eq_decide, List.getD_eq_getElem?_getD (l := l.map (canon m)), List.getElem?_map, h3]
      exact (Eqv.mark (canon_spec o hs).2).symm
end
end B
namespace B
open PySem L2
theorem map_set {β : Type} {f g : Nat → β} {n k : Nat} {v : β} (hk : k < n) (h1 : g k = v) (h2 : ∀ s, s ≠ k → g s = f s) : ((List.range' 0 n).map f).set k v = (List.range' 0 n).map g := by
  refine map_rng_ext (by simp) fun s hs => ?_
  by_cases e : k = s
  · subst e
    rw [List.getElem?_set_self (by simpa using hs), h1]
  · rw [List.getElem?_set_ne e, map_rng_at hs, h2 s fun z => e z.symm]
section
variable {P : Program} {w : World} {A : Ad} {K : PySem.W.Frag} {mg : Str → Option Value} {base : Heap}
noncomputable abbrev sp__law_sorts : Sp := prm (fun m : Mc => [.is rPm m]) Ok1 (fun _ => rPr (rList rNat) (rList (rOpt rNat))) (fun m => (kindL m, countsF m))
def lateF (m : Mc) (n s : Nat) : Nat := sumTo (fun k => if m.1.length ≤ k then wt m k s else 0) n
theorem ok__law_sorts (T : Txt A K mg) : FnOk P w K mg base CX0 3 A.f__law_sorts A.d__law_sorts ps__law_sorts sp__law_sorts := by
  refine T.F__law_sorts.ok sc__law_sorts (fun vs H Q E h => prm_len (fun _ => rfl) h) (fun cdv Ar outer s H vs Q E hr h => ⟨_, (pss_cons (ps_asg (pe_tup (pa_cons (pe_callB (call_len_seqK (K := K) rfl) (by rfl) T.n_len PySem.boot_len (pa_cons (pe_ix (ix_tupK (K := K) rfl) (pv 0) pe_int (fun _ _ => rfl)) pa_nil)) (pa_cons (pe_lst pa_nil) (pa_cons (pe_lst pa_nil) pa_nil)))) (pg_tupK (K := K) rfl (by rfl) (pgs_cons (pg_name (i := 1) sc__law_sorts.nd rfl (by first | exact Or.inl rfl | exact Or.inr rfl)) (pgs_cons (pg_name (i := 2) sc__law_sorts.nd rfl (by first | exact Or.inl rfl | exact Or.inr rfl)) (pgs_cons (pg_name (i := 3) sc__law_sorts.nd rfl (by first | exact Or.inl rfl | exact Or.inr rfl)) pgs_nil)))))
      (pss_cons (ps_for PassesOwn.never rfl (pi_range1 (by rfl) T.n_range (pa_cons (pv 1) pa_nil)) (pg_name (i := 4) sc__law_sorts.nd rfl (by first | exact Or.inl rfl | exact Or.inr rfl)) (pss_cons (ps_setLc (i := 5) (own := [("_law_k", 12)]) (g := gName 12) (by rfl) sc__law_sorts.nd rfl rfl (sw_true rfl rfl rfl (by decide +kernel)) (pi_range1 (by rfl) T.n_range (pa_cons (pe_callB (call_len_seqK (K := K) rfl) (by rfl) T.n_len PySem.boot_len (pa_cons (pv 3) pa_nil)) pa_nil)) (blkOk_by (own := [("_law_k", 12)]) (N := nm__law_sorts) (sc := defScope st__law_sorts) (by decide +kernel)) (fun _ _ _ _ _ => (pg_name (i := 12) sc__law_sorts.nd rfl (by first | exact Or.inl rfl | exact Or.inr rfl))) (fun _ _ _ _ _ => (pts_one (pt_cmpR op_notN (pe_call (ok__law_unlike T) (hr.mono (by decide)) (by rfl) T.g__law_unlike T.F__law_unlike.kp T.b__law_unlike .nil pass0 (pa_cons (pv 0) (pa_cons (pv 0) (pa_cons (pe_tup (pa_cons (pe_ix (ix_listK (K := K) rfl) (pv 3) (pv 12) (fun _ _ => rfl)) (pa_cons (pv 4) pa_nil))) pa_nil)))) pe_non (nomark _)))) (fun _ _ _ _ _ => (pv 12)))
      (pss_cons (ps_expr (pe_bm PySem.F.plainAttrs_list PySem.F.slot_list_append PySem.F.type_list_append mt_append (pv 2) (pa_cons (pe_ifExp (pt_cmpR (op_neDK (K := K) rfl hr.units) (pv 5) (pe_lst pa_nil) (nomark _)) (pe_ix (ix_listK (K := K) rfl) (pv 5) pe_int (fun _ _ => rfl)) (pe_callB (call_len_seqK (K := K) rfl) (by rfl) T.n_len PySem.boot_len (pa_cons (pv 3) pa_nil))) pa_nil)))
      (pss_one (ps_set (i := 3) sc__law_sorts.nd rfl (by first | exact Or.inl rfl | exact Or.inr rfl) (pe_ifExp (pt_cmpR (op_neDK (K := K) rfl hr.units) (pv 5) (pe_lst pa_nil) (nomark _)) (pv 3) (pe_op op_cat (pv 3) (pe_lst (pa_cons (pv 4) pa_nil)))))))))
      (pss_cons (ps_asg (pe_tup (pa_cons (pe_op op_cat (pe_lst (pa_cons pe_int pa_nil)) (pe_op op_rep (pe_lst (pa_cons pe_int pa_nil)) (pe_op op_sub (pv 1) pe_int))) (pa_cons (pe_op op_rep (pe_lst (pa_cons pe_int pa_nil)) (pv 1)) (pa_cons (pe_op op_rep (pe_lst (pa_cons pe_int pa_nil)) (pv 1)) pa_nil)))) (pg_tupK (K := K) rfl (by rfl) (pgs_cons (pg_name (i := 6) sc__law_sorts.nd rfl (by first | exact Or.inl rfl | exact Or.inr rfl)) (pgs_cons (pg_name (i := 7) sc__law_sorts.nd rfl (by first | exact Or.inl rfl | exact Or.inr rfl)) (pgs_cons (pg_name (i := 8) sc__law_sorts.nd rfl (by first | exact Or.inl rfl | exact Or.inr rfl)) pgs_nil)))))
      (pss_cons (ps_for PassesOwn.never rfl (pi_range1 (by rfl) T.n_range (pa_cons (pe_op op_mul pe_int (pv 1)) pa_nil)) (pg_name (i := 9) sc__law_sorts.nd rfl (by first | exact Or.inl rfl | exact Or.inr rfl)) (pss_cons (ps_set (i := 10) sc__law_sorts.nd rfl (by first | exact Or.inl rfl | exact Or.inr rfl) (pe_op op_rep (pe_lst (pa_cons pe_int pa_nil)) (pv 1)))
      (pss_cons (ps_for PassesOwn.never rfl (pi_range1 (by rfl) T.n_range (pa_cons (pv 1) pa_nil)) (pg_name (i := 4) sc__law_sorts.nd rfl (by first | exact Or.inl rfl | exact Or.inr rfl)) (pss_cons (ps_asg (pe_op op_add (pe_ix (ix_listK (K := K) rfl) (pv 7) (pv 4) (fun _ _ => rfl)) (pe_ix (ix_listK (K := K) rfl) (pv 6) (pv 4) (fun _ _ => rfl))) (pg_sub (pv 7) (pv 4) set_list))
      (pss_cons (ps_asg (pe_op op_add (pe_ix (ix_listK (K := K) rfl) (pv 8) (pv 4) (fun _ _ => rfl)) (pe_ifExp (pt_cmpR op_ge (pv 9) (pv 1) (nomark _)) (pe_ix (ix_listK (K := K) rfl) (pv 6) (pv 4) (fun _ _ => rfl)) pe_int)) (pg_sub (pv 8) (pv 4) set_list))
      (pss_one (ps_for PassesOwn.never rfl (pi_tupK (K := K) rfl (pe_ix (ix_tupK (K := K) rfl) (pe_ix (ix_tupK (K := K) rfl) (pv 0) pe_int (fun _ _ => rfl)) (pv 4) (fun _ _ => rfl))) (pg_name (i := 11) sc__law_sorts.nd rfl (by first | exact Or.inl rfl | exact Or.inr rfl)) (pss_one (ps_asg (pe_op op_add (pe_ix (ix_listK (K := K) rfl) (pv 10) (pv 11) (fun _ _ => rfl)) (pe_ix (ix_listK (K := K) rfl) (pv 6) (pv 4) (fun _ _ => rfl))) (pg_sub (pv 10) (pv 11) set_list))))))))
      (pss_one (ps_set (i := 6) sc__law_sorts.nd rfl (by first | exact Or.inl rfl | exact Or.inr rfl) (pv 10))))))
      (pss_one (ps_ret (pe_tup (pa_cons (pv 2) (pa_cons (pe_lc (own := [("_law_k", 12)]) (g := gName 12) (by rfl) sc__law_sorts.nd (pi_range1 (by rfl) T.n_range (pa_cons (pv 1) pa_nil)) (blkOk_by (own := [("_law_k", 12)]) (N := nm__law_sorts) (sc := defScope st__law_sorts) (by decide +kernel)) (fun _ _ _ _ _ => (pg_name (i := 12) sc__law_sorts.nd rfl (by first | exact Or.inl rfl | exact Or.inr rfl))) (fun _ _ _ _ _ => pts_nil) (fun _ _ _ _ _ => (pe_ifExp (pt_cmpR op_eq (pe_ix (ix_listK (K := K) rfl) (pv 8) (pv 12) (fun _ _ => rfl)) pe_int (nomark _)) (pe_ix (ix_listK (K := K) rfl) (pv 7) (pv 12) (fun _ _ => rfl)) pe_non))) pa_nil))))))))), go_start h ?_⟩)
  rintro m H0 G0 ⟨L, o, l3⟩ hq
  have h8 := o.le8
  have h1 := o.pos
  refine q_parN (n := 3) (S := [.is rPm m, .no, .no, .no, .no, .no, .no, .no, .no, .no, .no, .no, .no]) (ss := [.is rNat m.1.length, .own 0, .is (rList rNat) []]) [1, 2, 3] rfl rfl (by decide) (egs_cons (eg_ev (ev_lenT (R := rRow) (ev_fst (ev_var rfl)))) (egs_cons (eg_own (eo_nil (R := rNat))) (egs_cons (eg_ev (ev_lst (xs := ([] : List Nat)) ea_nil (by simp))) egs_nil))) ?_
  refine q_for (σt := List Nat × List Nat) (fun s => [.is rPm m, .is rNat m.1.length, .own 0, .is (rList rNat) s.2, .no, .no, .no, .no, .no, .no, .no, .no, .no]) (fun s => [some (oList rNat s.1)]) (fun i s => i ≤ m.1.length ∧ s = kSt m i) ([], [])
    (it_range1 (ev_var rfl) (by omega)) (tg_name 4) ⟨Nat.zero_le _, rfl⟩ (Wk.refl _) rfl ?_ ?_
  · rintro G1 bs i ⟨f, fs⟩ x hx ⟨hi, hs⟩
    obtain ⟨hin, ex⟩ := List.getElem?_eq_some_iff.mp hx
    rw [List.getElem_range'] at ex
    rw [List.length_range'] at hin
    have ex : x = i := by omega
    subst ex
    have sp := kSt_spec o x hi
    rw [← hs] at sp
    dsimp only at sp ⊢
    have hfl : f.length = x := sp.len
    have hfs : fs.length ≤ x := by
      have : fs.length ≤ (List.range x).length := nodup_le (l := fs) (all := List.range x) (by
        rw [List.nodup_iff_pairwise_ne, List.pairwise_iff_getElem]
        intro a b ha hb hab e
        have h1 := List.getElem?_eq_getElem ha
        have h2 := List.getElem?_eq_getElem hb
        rw [e] at h1
        have := sp.ne a b _ _ h1 h2 (Fq.refl m _)
        omega) (fun t ht => by
        obtain ⟨c, hc⟩ := List.mem_iff_getElem?.mp ht
        exact List.mem_range.mpr (sp.fst_ c t hc).1) (Nat.le_refl _)
      simpa using this
    refine q_asg (eg_ev (ev_lc (T := rNat) (R := rNat) (fun k => finB m (fs.getD k 0) x) id (it_range1 (ev_lenL (R := rNat) (ev_var rfl)) (by omega)) (tg_name 12) (by simp) (by rw [List.length_range']; omega) (fun k hk mm => ?_) fun k hk _ mm => ev_var rfl)) ?_
    · rw [List.mem_range'_1] at hk
      have hk1 : fs[k]? = some (fs.getD k 0) := by
        rw [List.getD_eq_getElem?_getD, List.getElem?_eq_getElem (by omega)]
        rfl
      have hel : fs.getD k 0 < m.1.length := by have := (sp.fst_ k _ hk1).1; omega
      refine et_notN (ev_call ((m, m, (fs.getD k 0, x)) : Mc × Mc × Pr) (ea_cons (ev_var rfl) (ea_cons (ev_var rfl) (ea_cons (ev_pr (ev_ixL (R := rNat) (ev_var rfl) (ev_var rfl) hk1) (ev_var rfl)) ea_nil))) ⟨L, o, o, ⟨hel, hin⟩, l3⟩) fun r hr => ?_
      show r.isSome = (tot m m (fs.getD k 0, x)).isSome
      rw [← show r.map (·.1) = tot m m (fs.getD k 0, x) from hr]
      cases r <;> rfl
    rw [List.map_id, show (List.range' 0 fs.length).filter (fun k => finB m (fs.getD k 0) x) = likeL m fs x from rfl]
    have ht : ∀ {S : Sl} {M : Mo}, S[5]? = some (.is (rList rNat) (likeL m fs x)) → EvT none (tTest (tOp (rNeD K) (tVar 5) (tLst tNil))) S M (!(likeL m fs x).isEmpty) := fun h => et_test (ev_neNil dat_nat (by decide) (ev_var h))
    cases hl : likeL m fs x with
    | nil =>
      rw [hl] at ht
      refine q_app (x := fs.length) rfl rfl (by omega) (ev_if (ht rfl) (fun z => by cases z) fun _ => ev_lenL (R := rNat) (ev_var rfl)) ?_
      refine go_asg (eg_ev (ev_if (x := fs ++ [x]) (ht rfl) (fun z => by cases z) fun _ => ev_cat (ev_var rfl) (ev_lst (xs := [x]) (ea_cons (ev_var rfl) ea_nil) (by simp)) (by simp; omega))) ?_
      refine go_turn (f ++ [fs.length], fs ++ [x]) ⟨hin, ?_⟩ (.same (.same (.same (.same (.no (.no (.same (.same (.same (.same (.same (.same (.same .nil))))))))))))) rfl
      rw [kSt_succ, ← hs]
      unfold kStep
      dsimp only
      rw [hl]
    | cons k r =>
      rw [hl] at ht
      refine q_app (x := k) rfl rfl (by omega) (ev_if (ht rfl) (fun _ => ev_ixL (R := rNat) (ev_var rfl) ev_nat0 rfl) fun z => by cases z) ?_
      refine go_asg (eg_ev (ev_if (x := fs) (ht rfl) (fun _ => ev_var rfl) fun z => by cases z)) ?_
      refine go_turn (f ++ [k], fs) ⟨hin, ?_⟩ (.same (.same (.same (.same (.no (.no (.same (.same (.same (.same (.same (.same (.same .nil))))))))))))) rfl
      rw [kSt_succ, ← hs]
      unfold kStep
      dsimp only
      rw [hl]
  rintro ⟨f, fs⟩ ⟨hi, hs⟩
  rw [List.length_range'] at hs
  have ef : f = kindL m := congrArg Prod.fst hs
  subst ef
  dsimp only
  have hbeg : ∀ {S : Sl} {M : Mo}, S[1]? = some (.is rNat m.1.length) → Ev none (tOp rCat (tLst (tCons (tC (.int 1)) tNil)) (tOp rRep (tLst (tCons (tC (.int 0)) tNil)) (tOp (rI0 fun i j => .int (i - j)) (tVar 1) (tC (.int 1))))) S M (rList rNat) (wtL m 0) := fun hS => by
    rw [wt_zero o]
    exact ev_cat (ev_lst (xs := [1]) (ea_cons ev_nat1 ea_nil) (by simp)) (ev_rep (ev_lst (xs := [0]) (ea_cons ev_nat0 ea_nil) (by simp)) (ev_subN (ev_var hS) ev_nat1 h1) (by omega)) (by simp; omega)
  have hz : ∀ {S : Sl} {M : Mo}, S[1]? = some (.is rNat m.1.length) → EvO none (tOp rRep (tLst (tCons (tC (.int 0)) tNil)) (tVar 1)) S M (oList rNat (List.replicate m.1.length 0)) := fun hS => eo_rep (ev_lst (xs := [0]) (ea_cons ev_nat0 ea_nil) (by simp)) (ev_var hS) (by omega)
  refine q_parN (n := 3) (S := [.is rPm m, .is rNat m.1.length, .own 0, .is (rList rNat) fs, .no, .no, .no, .no, .no, .no, .no, .no, .no]) (ss := [.is (rList rNat) (wtL m 0), .own 1, .own 2]) [6, 7, 8] rfl rfl (by decide) (egs_cons (eg_ev (hbeg rfl)) (egs_cons (eg_own (hz rfl)) (egs_cons (eg_own (hz rfl)) egs_nil))) ?_
  refine q_for (σt := Nat) (fun n => [.is rPm m, .is rNat m.1.length, .own 0, .no, .no, .no, .is (rList rNat) (wtL m n), .own 1, .own 2, .no, .no, .no, .no])
    (fun n => [some (oList rNat (kindL m)), some (oList rNat ((List.range' 0 m.1.length).map fun s => sumTo (fun k => wt m k s) n)), some (oList rNat ((List.range' 0 m.1.length).map (lateF m n)))]) (fun i n => n = i ∧ i ≤ 2 * m.1.length) 0 (it_range1 (ev_mulN ev_nat2 (ev_var rfl) (by omega)) (by omega)) (tg_name 9) ⟨rfl, Nat.zero_le _⟩ (.same (.same (.same (.no (.same (.same (.same (.same (.same (.same (.same (.same (.same .nil))))))))))))) ?_ ?_ ?_
  · have e0 : List.replicate m.1.length 0 = (List.range' 0 m.1.length).map fun s => sumTo (fun k => wt m k s) 0 := map_rng_ext (by simp) fun k hk => by rw [List.getElem?_replicate, if_pos hk]; rfl
    have e1 : List.replicate m.1.length 0 = (List.range' 0 m.1.length).map (lateF m 0) := map_rng_ext (by simp) fun k hk => by rw [List.getElem?_replicate, if_pos hk]; rfl
    rw [← e0, ← e1]
    rfl
  · rintro G1 bs i0 i x hx ⟨ei, hi⟩
    subst ei
    obtain ⟨hin, ex⟩ := List.getElem?_eq_some_iff.mp hx
    rw [List.getElem_range'] at ex
    rw [List.length_range'] at hin
    have ex : x = i := by omega
    subst ex
    dsimp only
    refine q_asg (eg_own (hz rfl)) ?_
    refine q_for (σt := Nat) (fun st => [.is rPm m, .is rNat m.1.length, .own 0, .no, .no, .no, .is (rList rNat) (wtL m x), .own 1, .own 2, .is rNat x, .own 3, .no, .no])
      (fun st => [some (oList rNat (kindL m)), some (oList rNat ((List.range' 0 m.1.length).map fun s => sumTo (fun k => wt m k s) (if s < st then x + 1 else x))), some (oList rNat ((List.range' 0 m.1.length).map fun s => lateF m (if s < st then x + 1 else x) s)), some (oList rNat ((List.range' 0 m.1.length).map (accW m x st)))]) (fun i st => st = i ∧ i ≤ m.1.length) 0 (it_range1 (ev_var rfl) (by omega)) (tg_name 4) ⟨rfl, Nat.zero_le _⟩ (Wk.refl _) ?_ ?_ ?_
    · have e0 : List.replicate m.1.length 0 = (List.range' 0 m.1.length).map (accW m x 0) := map_rng_ext (by simp) fun k hk => by rw [List.getElem?_replicate, if_pos hk]; rfl
      rw [e0]
      rfl
    · rintro G2 bs2 j0 st y hy ⟨ej, hj⟩
      subst ej
      obtain ⟨hjn, ey⟩ := List.getElem?_eq_some_iff.mp hy
      rw [List.getElem_range'] at ey
      rw [List.length_range'] at hjn
      have ey : y = st := by omega
      subst ey
      dsimp only
      have hw : ∀ {S : Sl} {M : Mo}, S[6]? = some (.is (rList rNat) (wtL m x)) → S[4]? = some (.is rNat y) → Ev none (tOp (rIxL K) (tVar 6) (tVar 4)) S M rNat (wt m x y) := fun h1 h2 => ev_ixL (ev_var h1) (ev_var h2) (map_rng_at hjn)
      refine q_setL (n := y) (x := sumTo (fun k => wt m k y) (x + 1)) rfl rfl (ev_eq (ev_addN (ev_ixO (x := sumTo (fun k => wt m k y) x) rfl rfl (ev_var rfl) (by rw [map_rng_at hjn, if_neg (Nat.lt_irrefl _)])) (hw rfl rfl)) rfl) (ev_var rfl) (by simpa using hjn) ?_
      refine q_setL (n := y) (x := lateF m (x + 1) y) rfl rfl (ev_eq (ev_addN (ev_ixO (x := lateF m x y) rfl rfl (ev_var rfl) (by rw [map_rng_at hjn, if_neg (Nat.lt_irrefl _)])) (ev_ifx (x := wt m x y) (x' := 0) (et_test (ev_geN (ev_var rfl) (ev_var rfl))) (fun _ => hw rfl rfl) fun _ => ev_nat0)) ?_) (ev_var rfl) (by simpa using hjn) ?_
      · show lateF m x y + _ = lateF m x y + _
        congr 1
        by_cases h : m.1.length ≤ x
        · rw [if_pos (decide_eq_true h)]
          exact (if_pos h).symm
        · rw [if_neg (by simpa using h)]
          exact (if_neg h).symm
      rw [map_set (g := fun s => sumTo (fun k => wt m k s) (if s < y + 1 then x + 1 else x)) hjn (by rw [if_pos (Nat.lt_succ_self y)]) fun s hs => by
        by_cases h : s < y
        · rw [if_pos h, if_pos (by omega)]
        · rw [if_neg h, if_neg (by omega)], map_set (g := fun s => lateF m (if s < y + 1 then x + 1 else x) s) hjn (by rw [if_pos (Nat.lt_succ_self y)]) fun s hs => by
        by_cases h : s < y
        · rw [if_pos h, if_pos (by omega)]
        · rw [if_neg h, if_neg (by omega)]]
      refine go_for (σt := List Nat) (fun _ => [.is rPm m, .is rNat m.1.length, .own 0, .no, .is rNat y, .no, .is (rList rNat) (wtL m x), .own 1, .own 2, .is rNat x, .own 3, .no, .no])
        (fun l => [some (oList rNat (kindL m)), some (oList rNat ((List.range' 0 m.1.length).map fun s => sumTo (fun k => wt m k s) (if s < y + 1 then x + 1 else x))), some (oList rNat ((List.range' 0 m.1.length).map fun s => lateF m (if s < y + 1 then x + 1 else x) s)), some (oList rNat l)])
        (fun j l => l = (List.range' 0 m.1.length).map fun g => accW m x y g + wt m x y * ((row m y).take j).count g) _ (it_tup (R := rNat) (xs := row m y) (ev_ixT (ev_fst (ev_var rfl)) (ev_var rfl) (row_at hjn))) (tg_name 11) (by simp) (Wk.refl _) rfl ?_ ?_
      · rintro G3 bs3 j l g hg rfl
        have hgn : g < m.1.length := o.row_lt hjn (List.mem_of_getElem? hg)
        dsimp only
        refine go_setL (n := g) (x := accW m x y g + wt m x y * ((row m y).take j).count g + wt m x y) rfl rfl (ev_addN (ev_ixO rfl rfl (ev_var rfl) (map_rng_at hgn)) (hw rfl rfl)) (ev_var rfl) (by simpa using hgn) ?_
        refine go_turn _ ?_ (.same (.same (.same (.same (.same (.same (.same (.same (.same (.same (.same (.no (.same .nil))))))))))))) rfl
        refine map_set hgn ?_ fun s hs => ?_
        · rw [take_snoc hg, List.count_append]
          simp
          rw [Nat.mul_add]
          omega
        · rw [take_snoc hg, List.count_append, show List.count s [g] = 0 by have hs' : ¬ g = s := fun z => hs z.symm; simp [hs'], Nat.add_zero]
      · rintro l rfl
        refine go_turn (y + 1) ⟨rfl, hjn⟩ (.same (.same (.same (.same (.no (.same (.same (.same (.same (.same (.same (.same (.same .nil))))))))))))) ?_
        have : (List.range' 0 m.1.length).map (fun g => accW m x y g + wt m x y * ((row m y).take (row m y).length).count g) = (List.range' 0 m.1.length).map (accW m x (y + 1)) := List.map_congr_left fun g _ => by rw [List.take_length, accW_succ]
        rw [this]
    · rintro _ ⟨rfl, hj⟩
      rw [List.length_range']
      have el : (List.range' 0 m.1.length).map (accW m x m.1.length) = wtL m (x + 1) := List.map_congr_left fun g _ => accW_all o x g
      rw [el]
      refine go_frzL (i := 10) rfl rfl ?_
      refine go_asg (eg_ev (ev_var rfl)) ?_
      refine go_forget (M := [some (oList rNat (kindL m)), some (oList rNat ((List.range' 0 m.1.length).map fun s => sumTo (fun k => wt m k s) (if s < m.1.length then x + 1 else x))), some (oList rNat ((List.range' 0 m.1.length).map fun s => lateF m (if s < m.1.length then x + 1 else x) s))]) rfl ?_
      refine go_turn (x + 1) ⟨rfl, hin⟩ (.same (.same (.same (.same (.same (.same (.same (.same (.same (.no (.no (.same (.same .nil))))))))))))) ?_
      have e1 : (List.range' 0 m.1.length).map (fun s => sumTo (fun k => wt m k s) (if s < m.1.length then x + 1 else x)) = (List.range' 0 m.1.length).map fun s => sumTo (fun k => wt m k s) (x + 1) := List.map_congr_left fun s hs => by
        rw [List.mem_range'_1] at hs
        rw [if_pos (by omega)]
      have e2 : (List.range' 0 m.1.length).map (fun s => lateF m (if s < m.1.length then x + 1 else x) s) = (List.range' 0 m.1.length).map (lateF m (x + 1)) := List.map_congr_left fun s hs => by
        rw [List.mem_range'_1] at hs
        rw [if_pos (by omega)]
      rw [e1, e2]
  · rintro n ⟨en, hn⟩
    rw [List.length_range'] at en
    have en : n = 2 * m.1.length := en
    subst en
    have hlate : ∀ s, (lateF m (2 * m.1.length) s = 0 ↔ ∀ k, m.1.length ≤ k → k < 2 * m.1.length → wt m k s = 0) := fun s => by
      unfold lateF
      have : ∀ n, (sumTo (fun k => if m.1.length ≤ k then wt m k s else 0) n = 0 ↔ ∀ k, m.1.length ≤ k → k < n → wt m k s = 0) := by
        intro n
        induction n with
        | zero => exact ⟨fun _ k _ hk => absurd hk (Nat.not_lt_zero k), fun _ => rfl⟩
        | succ n ih =>
          show sumTo _ n + (if m.1.length ≤ n then wt m n s else 0) = 0 ↔ _
          constructor
          · intro h k h1 h2
            by_cases e : k = n
            · subst e
              rw [if_pos h1] at h
              omega
            · exact ih.mp (by omega) k h1 (by omega)
          · intro h
            have h3 := ih.mpr fun k h1 h2 => h k h1 (by omega)
            rw [h3]
            split
            · next hh => rw [h n hh (Nat.lt_succ_self n)]
            · rfl
      exact this _
    refine go_frzL (i := 2) rfl rfl (go_ret hq (ev_pr (ev_var rfl) (ev_eq (ev_lc0 (T := rOpt rNat) (fun s => if decide (lateF m (2 * m.1.length) s = 0) = true then some (sumTo (fun k => wt m k s) (2 * m.1.length)) else none) (it_range1 (ev_var rfl) (by omega)) (tg_name 12) (by simp) (by rw [List.length_range']; omega) fun s hs mm => ?_) ?_)))
    · rw [List.mem_range'_1] at hs
      refine ev_ifx (et_test (ev_eqN (ev_ixO rfl rfl (ev_var rfl) (map_rng_at (show s < m.1.length by omega))) ev_nat0)) (fun _ => ev_optS nn_nat (ev_ixO rfl rfl (ev_var rfl) (map_rng_at (show s < m.1.length by omega)))) fun _ => ev_optN
    · show _ = countsF m
      unfold countsF
      refine List.map_congr_left fun s hs => ?_
      by_cases h : lateF m (2 * m.1.length) s = 0
      · rw [if_pos (decide_eq_true h)]
        have hz := (hlate s).mp h
        exact (fin_of fun k hk => wt_window o hz k (by omega)).symm
      · rw [if_neg (by simpa using h)]
        refine (fin_none.mpr fun hd => h ((hlate s).mpr fun k h1 _ => wt_dies o hd k h1)).symm
end
end B
namespace B
open PySem L2
section
variable {P : Program} {w : World} {A : Ad} {K : PySem.W.Frag} {mg : Str → Option Value} {base : Heap}
structure CoP (m : Mc) (ts gs ws : List Nat) : Prop where
  ex : ∃ L, OkM L m ∧ L ≤ 3
  ne : ts ≠ []
  t8 : ts.length ≤ 8
  g8 : gs.length ≤ 8
  len : ws.length = gs.length
  lt : ∀ w ∈ ws, w < 2 ^ 64
  fq : ∀ g ∈ gs, ∀ t ∈ ts, g < m.1.length ∧ t < m.1.length ∧ Fq m m g t
noncomputable abbrev sp__law_cost : Sp := prm (fun a : Mc × List Nat × List Nat × List Nat => [.is rPm a.1, .is (rList rNat) a.2.1, .is (rList rNat) a.2.2.1, .is (rList rNat) a.2.2.2]) (fun a => CoP a.1 a.2.1 a.2.2.1 a.2.2.2) (fun _ => rNat) (fun a => minL (a.2.1.map (zCost a.1 a.2.2.1 a.2.2.2)))
theorem zip_rng (f : Pr → Nat) {gs ws : List Nat} (h : ws.length = gs.length) : ((List.range' 0 gs.length).map fun k => f (gs.getD k 0, ws.getD k 0)) = (gs.zip ws).map f := by
  symm
  refine map_rng_ext (by simp [h]) fun k hk => ?_
  have hz : (gs.zip ws)[k]? = some (gs.getD k 0, ws.getD k 0) := by
    refine List.getElem?_zip_eq_some.mpr ⟨?_, ?_⟩
    · rw [List.getD_eq_getElem?_getD, List.getElem?_eq_getElem hk]
      rfl
    · show ws[k]? = some (ws.getD k 0)
      rw [List.getD_eq_getElem?_getD, List.getElem?_eq_getElem (by omega)]
      rfl
  rw [List.getElem?_map, hz]
  rfl
theorem ok__law_cost (T : Txt A K mg) : FnOk P w K mg base CX0 3 A.f__law_cost A.d__law_cost ps__law_cost sp__law_cost := by
  refine T.F__law_cost.ok sc__law_cost (fun vs H Q E h => prm_len (fun _ => rfl) h) (fun cdv Ar outer s H vs Q E hr h => ⟨_, (pss_cons (ps_set (i := 4) sc__law_cost.nd rfl (by first | exact Or.inl rfl | exact Or.inr rfl) (pe_lst pa_nil))
      (pss_cons (ps_for PassesOwn.never rfl (pi_listK (K := K) rfl (pv 1)) (pg_name (i := 5) sc__law_cost.nd rfl (by first | exact Or.inl rfl | exact Or.inr rfl)) (pss_cons (ps_setLc (i := 6) (own := [("_law_k", 7)]) (g := gName 7) (by rfl) sc__law_cost.nd rfl rfl (sw_true rfl rfl rfl (by decide +kernel)) (pi_range1 (by rfl) T.n_range (pa_cons (pe_callB (call_len_seqK (K := K) rfl) (by rfl) T.n_len PySem.boot_len (pa_cons (pv 2) pa_nil)) pa_nil)) (blkOk_by (own := [("_law_k", 7)]) (N := nm__law_cost) (sc := defScope st__law_cost) (by decide +kernel)) (fun _ _ _ _ _ => (pg_name (i := 7) sc__law_cost.nd rfl (by first | exact Or.inl rfl | exact Or.inr rfl))) (fun _ _ _ _ _ => pts_nil) (fun _ _ _ _ _ => (pe_op op_mul (pe_ix (ix_listK (K := K) rfl) (pv 3) (pv 7) (fun _ _ => rfl)) (pe_ix (ix_tupK (K := K) rfl) (pe_call (ok__law_unlike T) (hr.mono (by decide)) (by rfl) T.g__law_unlike T.F__law_unlike.kp T.b__law_unlike .nil pass0 (pa_cons (pv 0) (pa_cons (pv 0) (pa_cons (pe_tup (pa_cons (pe_ix (ix_listK (K := K) rfl) (pv 2) (pv 7) (fun _ _ => rfl)) (pa_cons (pv 5) pa_nil))) pa_nil)))) pe_int (fun _ _ => rfl)))))
      (pss_one (ps_expr (pe_bm PySem.F.plainAttrs_list PySem.F.slot_list_append PySem.F.type_list_append mt_append (pv 4) (pa_cons (pe_callB (cr_sumK (K := K) rfl rfl) (by rfl) T.n_sum (by decide +kernel) (pa_cons (pv 6) pa_nil)) pa_nil))))))
      (pss_one (ps_ret (pe_callB (cr_minK (K := K) rfl rfl) (by rfl) T.n_min (by decide +kernel) (pa_cons (pv 4) pa_nil)))))), go_start h ?_⟩)
  rintro ⟨m, ts, gs, ws⟩ H0 G0 ⟨⟨L, o, l3⟩, hne, ht8, hg8, hlen, hlt, hfq⟩ hq
  dsimp only at o hne ht8 hg8 hlen hlt hfq hq ⊢
  have gAt : ∀ k, k < gs.length → gs[k]? = some (gs.getD k 0) := fun k hk => by
    rw [List.getD_eq_getElem?_getD, List.getElem?_eq_getElem hk]
    rfl
  have wAt : ∀ k, k < gs.length → ws[k]? = some (ws.getD k 0) := fun k hk => by
    rw [List.getD_eq_getElem?_getD, List.getElem?_eq_getElem (by omega)]
    rfl
  refine q_asg (eg_own (eo_nil (R := rNat))) ?_
  refine q_for (σt := List Nat) (fun _ => [.is rPm m, .is (rList rNat) ts, .is (rList rNat) gs, .is (rList rNat) ws, .own 0, .no, .no, .no]) (fun l => [some (oList rNat l)]) (fun i l => l = (ts.take i).map (zCost m gs ws)) [] (it_list (R := rNat) (ev_var rfl)) (tg_name 5) rfl (Wk.refl _) rfl ?_ ?_
  · rintro G1 bs i l t ht rfl
    have htm := List.mem_of_getElem? ht
    refine q_asg (eg_ev (ev_lc0 (T := rNat) (fun k => ws.getD k 0 * gap m (gs.getD k 0) t) (it_range1 (ev_lenL (R := rNat) (ev_var rfl)) (by omega)) (tg_name 7) (by simp) (by rw [List.length_range']; omega) fun k hk mm => ?_)) ?_
    · rw [List.mem_range'_1] at hk
      have hk : k < gs.length := by omega
      obtain ⟨f1, f2, f3⟩ := hfq _ (List.mem_of_getElem? (gAt k hk)) t htm
      refine ev_mulN (ev_ixL (R := rNat) (ev_var rfl) (ev_var rfl) (wAt k hk)) (ev_cnt0 (ev_call ((m, m, (gs.getD k 0, t)) : Mc × Mc × Pr) (ea_cons (ev_var rfl) (ea_cons (ev_var rfl) (ea_cons (ev_pr (ev_ixL (R := rNat) (ev_var rfl) (ev_var rfl) (gAt k hk)) (ev_var rfl)) ea_nil))) ⟨L, o, o, ⟨f1, f2⟩, l3⟩) fun r hr => ?_) (.inl (hlt _ (List.mem_of_getElem? (wAt k hk))))
      have hr : r.map (·.1) = tot m m (gs.getD k 0, t) := hr
      obtain ⟨v, hv⟩ := Option.isSome_iff_exists.mp (fq_tot.mpr f3)
      rw [hv] at hr
      cases r with
      | none => cases hr
      | some x =>
        refine ⟨x.2, ?_⟩
        show some x = some (gap m (gs.getD k 0) t, x.2)
        unfold gap
        rw [hv]
        exact congrArg some (Prod.ext (Option.some.inj hr) rfl)
    · refine go_app (x := zCost m gs ws t) rfl rfl (by rw [List.length_map, List.length_take]; omega) (ev_eq (ev_sumN (ev_var rfl)) ?_) ?_
      · unfold zCost
        rw [← zip_rng (fun p => p.2 * gap m p.1 t) hlen]
      · refine go_turn _ ?_ (.same (.same (.same (.same (.same (.no (.no (.same .nil)))))))) rfl
        rw [take_snoc ht, List.map_append]
        rfl
  · rintro l rfl
    rw [List.take_length]
    refine go_frzL (i := 4) rfl rfl (go_ret hq (ev_minN (ev_var rfl) (minL_mem (by simpa using hne)) fun z hz => minL_le hz))
noncomputable abbrev sp__law_wrong : Sp := prm (fun m : Mc => [.is rPm m]) Ok1w (fun _ => rNat) dueM
theorem good_bad (X : Mc) (kd : Nat → Nat) (c : Nat) : ((cls X kd c).map (cv X)).sum = goodC X kd c + badC X kd c := by
  unfold goodC badC
  induction cls X kd c with
  | nil => rfl
  | cons s l ih =>
    rw [List.map_cons, List.sum_cons, ih, List.filter_cons, List.filter_cons]
    by_cases h : s ∈ X.2
    · rw [if_pos (decide_eq_true h), if_neg (by simp [h]), List.map_cons, List.sum_cons]
      omega
    · rw [if_neg (by simpa using h), if_pos (by simp [h]), List.map_cons, List.sum_cons]
      omega
noncomputable def totK (L : Nat) (X : Mc) (i : Nat) : Nat := (((List.range' 0 i).filter fun c => (sty X (kdOf X) c).isEmpty).map (eC L X (kdOf X))).sum
theorem totK_succ (L : Nat) (X : Mc) (i : Nat) : totK L X (i + 1) = totK L X i + if (sty X (kdOf X) i).isEmpty then eC L X (kdOf X) i else 0 := by
  unfold totK
  rw [rng_succ, List.filter_append, List.map_append, List.sum_append]
  congr 1
  rw [List.filter_cons]
  split
  · simp
  · rfl
theorem ok__law_wrong (T : Txt A K mg) : FnOk P w K mg base CX0 4 A.f__law_wrong A.d__law_wrong ps__law_wrong sp__law_wrong := by
  refine T.F__law_wrong.ok sc__law_wrong (fun vs H Q E h => prm_len (fun _ => rfl) h) (fun cdv Ar outer s H vs Q E hr h => ⟨_, (pss_cons (ps_set (i := 1) sc__law_wrong.nd rfl (by first | exact Or.inl rfl | exact Or.inr rfl) (pe_call (ok__law_least T) (hr.mono (by decide)) (by rfl) T.g__law_least T.F__law_least.kp T.b__law_least .nil pass0 (pa_cons (pv 0) pa_nil)))
      (pss_cons (ps_asg (pe_call (ok__law_sorts T) (hr.mono (by decide)) (by rfl) T.g__law_sorts T.F__law_sorts.kp T.b__law_sorts .nil pass0 (pa_cons (pv 1) pa_nil)) (pg_tupK (K := K) rfl (by rfl) (pgs_cons (pg_name (i := 2) sc__law_wrong.nd rfl (by first | exact Or.inl rfl | exact Or.inr rfl)) (pgs_cons (pg_name (i := 3) sc__law_wrong.nd rfl (by first | exact Or.inl rfl | exact Or.inr rfl)) pgs_nil))))
      (pss_cons (ps_set (i := 4) sc__law_wrong.nd rfl (by first | exact Or.inl rfl | exact Or.inr rfl) pe_dnewK)
      (pss_cons (ps_for PassesOwn.never rfl (pi_range1 (by rfl) T.n_range (pa_cons (pe_callB (call_len_seqK (K := K) rfl) (by rfl) T.n_len PySem.boot_len (pa_cons (pv 2) pa_nil)) pa_nil)) (pg_name (i := 5) sc__law_wrong.nd rfl (by first | exact Or.inl rfl | exact Or.inr rfl)) (pss_one (ps_if (pt_cmpR op_isN (pe_ix (ix_listK (K := K) rfl) (pv 3) (pv 5) (fun _ _ => rfl)) pe_non (nomark _)) (pss_one (ps_dput (hu_of hr) (pv 4) (pe_ix (ix_listK (K := K) rfl) (pv 2) (pv 5) (fun _ _ => rfl)) (pe_op op_cat (pe_dget2 (hu_of hr) (pv 4) (pe_ix (ix_listK (K := K) rfl) (pv 2) (pv 5) (fun _ _ => rfl)) (pe_lst pa_nil) ⟨rfl, rfl, rfl, rfl⟩) (pe_lst (pa_cons (pv 5) pa_nil))) rfl)) pss_nil)))
      (pss_cons (ps_if (pt_cmp (pc_din (hu_of hr) (pe_ix (ix_listK (K := K) rfl) (pv 2) pe_int (fun _ _ => rfl)) (pv 4))) (pss_one (ps_ret (pe_call (ok__law_cost T) (hr.mono (by decide)) (by rfl) T.g__law_cost T.F__law_cost.kp T.b__law_cost .nil pass0 (pa_cons (pv 1) (pa_cons (pe_dget (hu_of hr) (pv 4) (pe_ix (ix_listK (K := K) rfl) (pv 2) pe_int (fun _ _ => rfl)) (fun _ _ => rfl)) (pa_cons (pe_lst (pa_cons pe_int pa_nil)) (pa_cons (pe_lst (pa_cons pe_int pa_nil)) pa_nil))))))) pss_nil)
      (pss_cons (ps_set (i := 6) sc__law_wrong.nd rfl (by first | exact Or.inl rfl | exact Or.inr rfl) pe_int)
      (pss_cons (ps_for PassesOwn.never rfl (pi_range1 (by rfl) T.n_range (pa_cons (pe_op op_add (pe_callB (cr_maxK (K := K) rfl rfl) (by rfl) T.n_max (by decide +kernel) (pa_cons (pv 2) pa_nil)) pe_int) pa_nil)) (pg_name (i := 7) sc__law_wrong.nd rfl (by first | exact Or.inl rfl | exact Or.inr rfl)) (pss_one (ps_if (pt_cmp (pc_dnotin (hu_of hr) (pv 7) (pv 4))) (pss_cons (ps_setLc (i := 8) (own := [("_law_stand", 5)]) (g := gName 5) (by rfl) sc__law_wrong.nd rfl rfl (sw_true rfl rfl rfl (by decide +kernel)) (pi_range1 (by rfl) T.n_range (pa_cons (pe_callB (call_len_seqK (K := K) rfl) (by rfl) T.n_len PySem.boot_len (pa_cons (pv 2) pa_nil)) pa_nil)) (blkOk_by (own := [("_law_stand", 5)]) (N := nm__law_wrong) (sc := defScope st__law_wrong) (by decide +kernel)) (fun _ _ _ _ _ => (pg_name (i := 5) sc__law_wrong.nd rfl (by first | exact Or.inl rfl | exact Or.inr rfl))) (fun _ _ _ _ _ => (pts_one (pt_cmpR op_eq (pe_ix (ix_listK (K := K) rfl) (pv 2) (pv 5) (fun _ _ => rfl)) (pv 7) (nomark _)))) (fun _ _ _ _ _ => (pv 5)))
      (pss_cons (ps_set (i := 9) sc__law_wrong.nd rfl (by first | exact Or.inl rfl | exact Or.inr rfl) (pe_callB (cr_sumK (K := K) rfl rfl) (by rfl) T.n_sum (by decide +kernel) (pa_cons (pe_lc (own := [("_law_stand", 5)]) (g := gName 5) (by rfl) sc__law_wrong.nd (pi_listK (K := K) rfl (pv 8)) (blkOk_by (own := [("_law_stand", 5)]) (N := nm__law_wrong) (sc := defScope st__law_wrong) (by decide +kernel)) (fun _ _ _ _ _ => (pg_name (i := 5) sc__law_wrong.nd rfl (by first | exact Or.inl rfl | exact Or.inr rfl))) (fun _ _ _ _ _ => (pts_one (pt_cmpR (op_in_seqK (K := K) rfl) (pv 5) (pe_ix (ix_tupK (K := K) rfl) (pv 1) pe_int (fun _ _ => rfl)) (by rfl)))) (fun _ _ _ _ _ => (pe_ix (ix_listK (K := K) rfl) (pv 3) (pv 5) (fun _ _ => rfl)))) pa_nil)))
      (pss_cons (ps_set (i := 6) sc__law_wrong.nd rfl (by first | exact Or.inl rfl | exact Or.inr rfl) (pe_op op_add (pv 6) (pe_callB (call_min2 rfl) (by rfl) T.n_min (by decide +kernel) (pa_cons (pv 9) (pa_cons (pe_op op_sub (pe_callB (cr_sumK (K := K) rfl rfl) (by rfl) T.n_sum (by decide +kernel) (pa_cons (pe_lc (own := [("_law_stand", 5)]) (g := gName 5) (by rfl) sc__law_wrong.nd (pi_listK (K := K) rfl (pv 8)) (blkOk_by (own := [("_law_stand", 5)]) (N := nm__law_wrong) (sc := defScope st__law_wrong) (by decide +kernel)) (fun _ _ _ _ _ => (pg_name (i := 5) sc__law_wrong.nd rfl (by first | exact Or.inl rfl | exact Or.inr rfl))) (fun _ _ _ _ _ => pts_nil) (fun _ _ _ _ _ => (pe_ix (ix_listK (K := K) rfl) (pv 3) (pv 5) (fun _ _ => rfl)))) pa_nil)) (pv 9)) pa_nil)))))
      (pss_one (ps_for PassesOwn.never rfl (pi_range1 (by rfl) T.n_range (pa_cons (pe_callB (call_len_seqK (K := K) rfl) (by rfl) T.n_len PySem.boot_len (pa_cons (pe_ix (ix_tupK (K := K) rfl) (pe_ix (ix_tupK (K := K) rfl) (pv 1) pe_int (fun _ _ => rfl)) pe_int (fun _ _ => rfl)) pa_nil)) pa_nil)) (pg_name (i := 10) sc__law_wrong.nd rfl (by first | exact Or.inl rfl | exact Or.inr rfl)) (pss_cons (ps_setLc (i := 11) (own := [("_law_stand", 5)]) (g := gName 5) (by rfl) sc__law_wrong.nd rfl rfl (sw_true rfl rfl rfl (by decide +kernel)) (pi_listK (K := K) rfl (pv 8)) (blkOk_by (own := [("_law_stand", 5)]) (N := nm__law_wrong) (sc := defScope st__law_wrong) (by decide +kernel)) (fun _ _ _ _ _ => (pg_name (i := 5) sc__law_wrong.nd rfl (by first | exact Or.inl rfl | exact Or.inr rfl))) (fun _ _ _ _ _ => pts_nil) (fun _ _ _ _ _ => (pe_ix (ix_tupK (K := K) rfl) (pe_ix (ix_tupK (K := K) rfl) (pe_ix (ix_tupK (K := K) rfl) (pv 1) pe_int (fun _ _ => rfl)) (pv 5) (fun _ _ => rfl)) (pv 10) (fun _ _ => rfl))))
      (pss_one (ps_if (pt_cmp (pc_din (hu_of hr) (pe_ix (ix_listK (K := K) rfl) (pv 2) (pe_ix (ix_listK (K := K) rfl) (pv 11) pe_int (fun _ _ => rfl)) (fun _ _ => rfl)) (pv 4))) (pss_one (ps_set (i := 6) sc__law_wrong.nd rfl (by first | exact Or.inl rfl | exact Or.inr rfl) (pe_op op_add (pv 6) (pe_call (ok__law_cost T) (hr.mono (by decide)) (by rfl) T.g__law_cost T.F__law_cost.kp T.b__law_cost .nil pass0 (pa_cons (pv 1) (pa_cons (pe_dget (hu_of hr) (pv 4) (pe_ix (ix_listK (K := K) rfl) (pv 2) (pe_ix (ix_listK (K := K) rfl) (pv 11) pe_int (fun _ _ => rfl)) (fun _ _ => rfl)) (fun _ _ => rfl)) (pa_cons (pv 11) (pa_cons (pe_lc (own := [("_law_stand", 5)]) (g := gName 5) (by rfl) sc__law_wrong.nd (pi_listK (K := K) rfl (pv 8)) (blkOk_by (own := [("_law_stand", 5)]) (N := nm__law_wrong) (sc := defScope st__law_wrong) (by decide +kernel)) (fun _ _ _ _ _ => (pg_name (i := 5) sc__law_wrong.nd rfl (by first | exact Or.inl rfl | exact Or.inr rfl))) (fun _ _ _ _ _ => pts_nil) (fun _ _ _ _ _ => (pe_ix (ix_listK (K := K) rfl) (pv 3) (pv 5) (fun _ _ => rfl)))) pa_nil)))))))) pss_nil)))))))) pss_nil)))
      (pss_one (ps_ret (pv 6)))))))))), go_start h ?_⟩)
  rintro m H0 G0 ⟨L, om, l1, l3⟩ hq
  have hq : ∀ v H', RetK H0 G0 rNat (WF (Lof m) (nCof (leastM m)) (leastM m) (kdOf (leastM m))) v H' → Q v H' := hq
  rw [lof_eq om] at hq
  have C := least_kds om
  refine q_asg (eg_ev (ev_call m (ea_cons (ev_var rfl) ea_nil) ⟨L, om, l3⟩)) ?_
  generalize leastM m = X at C hq ⊢
  have o := C.k.ok
  have h8 : X.1.length ≤ 8 := o.le8
  have h1 : 1 ≤ X.1.length := o.pos
  have hkl : (kindL X).length = X.1.length := kindL_len o
  have kAt : ∀ s, s < X.1.length → (kindL X)[s]? = some (kdOf X s) := fun s hs => kd_at o hs
  have cAt : ∀ s, s < X.1.length → (countsF X)[s]? = some (B.fin fun k => wt X k s) := fun s hs => map_rng_at hs
  refine q_asgT (tg_pr 2 3) (ev_call X (ea_cons (ev_var rfl) ea_nil) ⟨L, o, l3⟩) ?_
  refine q_asg (eg_own (eo_dK (R := rList rNat))) ?_
  refine q_for (σt := Nat) (fun _ => [.is rPm m, .is rPm X, .is (rList rNat) (kindL X), .is (rList (rOpt rNat)) (countsF X), .own 0, .no, .no, .no, .no, .no, .no, .no]) (fun i => [some (oDK (rList rNat) (stT X i))]) (fun i j => j = i ∧ i ≤ X.1.length) 0 (it_range1 (n := X.1.length) (ev_eq (ev_lenL (R := rNat) (ev_var rfl)) hkl) (by omega)) (tg_name 5) ⟨rfl, Nat.zero_le _⟩ (Wk.refl _) rfl ?_ ?_
  · rintro G1 bs i0 i x hx ⟨ei, hi⟩
    subst ei
    obtain ⟨hin, ex⟩ := List.getElem?_eq_some_iff.mp hx
    rw [List.getElem_range'] at ex
    rw [List.length_range'] at hin
    have ex : x = i := by omega
    subst ex
    refine go_when (b := kernB X x) (et_test (ev_isN (ev_ixL (R := rOpt rNat) (ev_var rfl) (ev_var rfl) (cAt x hin)))) (fun hu => ?_) (fun hu => ?_)
    · have hsl : (styI X x (kdOf X x)).length ≤ 8 := by
        refine Nat.le_trans (List.length_filter_le _ _) ?_
        rw [List.length_range']
        omega
      refine go_kput (k := kdOf X x) (x := (look (stT X x) (kdOf X x)).getD [] ++ [x]) rfl rfl (ev_cat (ev_kget2 rfl rfl (ev_ixL (R := rNat) (ev_var rfl) (ev_var rfl) (kAt x hin)) (ev_lst (xs := ([] : List Nat)) ea_nil (by simp))) (ev_lst (xs := [x]) (ea_cons (ev_var rfl) ea_nil) (by simp)) ?_) (ev_ixL (R := rNat) (ev_var rfl) (ev_var rfl) (kAt x hin)) (by have := stT_len X x; omega) ?_
      · rw [stT_look]
        cases h : (styI X x (kdOf X x)).isEmpty
        · show (styI X x (kdOf X x)).length + 1 ≤ _
          omega
        · show 0 + 1 ≤ _
          omega
      · refine go_turn (x + 1) ⟨rfl, hin⟩ (.same (.same (.same (.same (.same (.no (.same (.same (.same (.same (.same (.same .nil)))))))))))) ?_
        show _ = [some (oDK (rList rNat) (stT X (x + 1)))]
        rw [stT_succ, if_pos hu]
        rfl
    · refine go_turn (x + 1) ⟨rfl, hin⟩ (.same (.same (.same (.same (.same (.no (.same (.same (.same (.same (.same (.same .nil)))))))))))) ?_
      show _ = [some (oDK (rList rNat) (stT X (x + 1)))]
      rw [stT_succ, if_neg (by rw [hu]; decide)]
  rintro i ⟨ei, hi⟩
  rw [List.length_range'] at ei
  subst ei
  have inK : ∀ (c : Nat), (look (stT X X.1.length) c).isSome = !(sty X (kdOf X) c).isEmpty := fun c => by
    rw [stT_sty]
    cases (sty X (kdOf X) c).isEmpty <;> rfl
  have getK : ∀ {c : Nat}, (sty X (kdOf X) c).isEmpty = false → look (stT X X.1.length) c = some (sty X (kdOf X) c) := fun h => by rw [stT_sty, if_neg (by rw [h]; decide)]
  have hst8 : ∀ c, (sty X (kdOf X) c).length ≤ 8 := fun c => by
    refine Nat.le_trans (List.length_filter_le _ _) ?_
    rw [List.length_range']
    exact h8
  have hcl8 : ∀ c, (cls X (kdOf X) c).length ≤ 8 := fun c => by
    refine Nat.le_trans (List.length_filter_le _ _) ?_
    rw [List.length_range']
    exact h8
  refine q_when (b := !(sty X (kdOf X) (kdOf X 0)).isEmpty) (et_eq (et_B (ev_kin rfl rfl (ev_ixL (R := rNat) (ev_var rfl) ev_nat0 (kAt 0 h1)))) (inK _)) (fun hb => ?_) (fun hb => ?_)
  · have hb : (sty X (kdOf X) (kdOf X 0)).isEmpty = false := by simpa using hb
    refine go_ret hq (ev_eq (ev_call ((X, sty X (kdOf X) (kdOf X 0), [0], [1]) : Mc × List Nat × List Nat × List Nat) (ea_cons (ev_var rfl) (ea_cons (ev_kget rfl rfl (ev_ixL (R := rNat) (ev_var rfl) ev_nat0 (kAt 0 h1)) (getK hb)) (ea_cons (ev_lst (xs := [0]) (ea_cons ev_nat0 ea_nil) (by simp)) (ea_cons (ev_lst (xs := [1]) (ea_cons ev_nat1 ea_nil) (by simp)) ea_nil))))
      ⟨⟨L, o, l3⟩, fun e => (by rw [show sty X (kdOf X) (kdOf X 0) = [] from e] at hb; cases hb), hst8 _, by show 1 ≤ 8; decide, rfl, fun v hv => by rw [List.mem_singleton.mp hv]; decide, fun g hg t ht => ?_⟩) ?_)
    · rw [List.mem_singleton.mp hg]
      obtain ⟨t1, _, t2⟩ := mem_sty.mp ht
      exact ⟨h1, t1, (C.k.iff 0 t h1 t1).mp t2.symm⟩
    · show minL ((sty X (kdOf X) (kdOf X 0)).map (zCost X [0] [1])) = _
      unfold WF
      rw [zCost_beg, if_neg (by rw [hb]; decide)]
      rfl
  · have hb : (sty X (kdOf X) (kdOf X 0)).isEmpty = true := by simpa using hb
    refine q_asg (eg_ev ev_nat0) ?_
    have hmax : ∀ {S : Sl} {M : Mo}, S[2]? = some (.is (rList rNat) (kindL X)) → Ev none (tOp (rI0 fun i j => .int (i + j)) (tCB (rMax K) (tCons (tVar 2) tNil)) (tC (.int 1))) S M rNat (nCof X) := fun hS => by
      have hp : 1 ≤ nCof X := by have := C.lt 0 h1; omega
      refine ev_eq (ev_addN (ev_maxN (m := nCof X - 1) (ev_var hS) ?_ fun z hz => ?_) ev_nat1) (by omega)
      · obtain ⟨s, hs, e⟩ := C.on (nCof X - 1) (by omega)
        rw [← e]
        exact List.mem_of_getElem? (kAt s hs)
      · obtain ⟨s, hs⟩ := List.mem_iff_getElem?.mp hz
        have hsl := (List.getElem?_eq_some_iff.mp hs).1
        rw [hkl] at hsl
        have := kAt s hsl
        rw [hs] at this
        have e : z = kdOf X s := Option.some.inj this
        have := C.lt s hsl
        omega
    have hnC : nCof X ≤ 8 := by
      have h2 := (kSt_spec o X.1.length (Nat.le_refl _))
      have : (kSt X X.1.length).2.length ≤ X.1.length := by
        have := nodup_le (l := (kSt X X.1.length).2) (all := List.range X.1.length) (n := X.1.length) (by
          rw [List.nodup_iff_pairwise_ne, List.pairwise_iff_getElem]
          intro a b ha hb hab e
          have h1 := List.getElem?_eq_getElem ha
          have h3 := List.getElem?_eq_getElem hb
          rw [e] at h1
          have := h2.ne a b _ _ h1 h3 (Fq.refl X _)
          omega) (fun t ht => by
          obtain ⟨c, hc⟩ := List.mem_iff_getElem?.mp ht
          exact List.mem_range.mpr (h2.fst_ c t hc).1) (by simp)
        exact this
      show (kSt X X.1.length).2.length ≤ 8
      omega
    refine q_for (σt := Nat) (fun t => [.is rPm m, .is rPm X, .is (rList rNat) (kindL X), .is (rList (rOpt rNat)) (countsF X), .own 0, .no, .is rNat t, .no, .no, .no, .no, .no]) (fun _ => [some (oDK (rList rNat) (stT X X.1.length))]) (fun i t => t = totK L X i ∧ i ≤ nCof X) 0 (it_range1 (hmax rfl) (by omega)) (tg_name 7) ⟨rfl, Nat.zero_le _⟩ (Wk.refl _) rfl ?_ ?_
    · rintro G1 bs i t x hx ⟨et, hi⟩
      subst et
      obtain ⟨hin, ex⟩ := List.getElem?_eq_some_iff.mp hx
      rw [List.getElem_range'] at ex
      rw [List.length_range'] at hin
      have ex : x = i := by omega
      subst ex
      refine go_when (b := (sty X (kdOf X) x).isEmpty) (et_eq (et_B (ev_knin rfl rfl (ev_var rfl))) (by rw [← Option.not_isSome, inK, Bool.not_not])) (fun hk => ?_) (fun hk => ?_)
      · have hnk := sty_nk.mp hk
        have cE : ∀ {S : Sl} {M : Mo} {s : Nat}, s ∈ cls X (kdOf X) x → S[3]? = some (.is (rList (rOpt rNat)) (countsF X)) → S[5]? = some (.is rNat s) → Ev none (tOp (rIxL K) (tVar 3) (tVar 5)) S M rNat (cv X s) := fun hs h3 h5 => ev_some (ev_ixL (R := rOpt rNat) (ev_var h3) (ev_var h5) (cAt _ (mem_cls.mp hs).1)) (cv_some (cls_nk hnk hs))
        have hc8 := hcl8 x
        refine q_asg (eg_ev (ev_eq (ev_lc (T := rNat) (R := rNat) (fun s => decide (kdOf X s = x)) id (it_range1 (n := X.1.length) (ev_eq (ev_lenL (R := rNat) (ev_var rfl)) hkl) (by omega)) (tg_name 5) (by simp) (by rw [List.length_range']; omega) (fun s hs mm => ?_) fun s hs _ mm => ev_var rfl) (x' := cls X (kdOf X) x) (List.map_id _))) ?_
        · rw [List.mem_range'_1] at hs
          exact et_test (ev_eqN (ev_ixL (R := rNat) (ev_var rfl) (ev_var rfl) (kAt s (by omega))) (ev_var rfl))
        refine q_asg (eg_ev (ev_sumN (ev_lc (T := rNat) (R := rNat) (fun s => decide (s ∈ X.2)) (cv X) (it_list (R := rNat) (xs := cls X (kdOf X) x) (ev_var rfl)) (tg_name 5) (by simp) (by omega) (fun s hs mm => et_test (ev_inT (ev_var rfl) (ev_snd (ev_var rfl)))) fun s hs _ mm => cE hs rfl rfl))) ?_
        have hgb := good_bad X (kdOf X) x
        refine q_asg (eg_ev (ev_eq (x' := totK L X x + min (goodC X (kdOf X) x) (badC X (kdOf X) x)) (ev_addN (ev_var rfl) (ev_min2 (ev_var rfl) (ev_subN (ev_sumN (ev_lc0 (T := rNat) (cv X) (it_list (R := rNat) (xs := cls X (kdOf X) x) (ev_var rfl)) (tg_name 5) (by simp) (by omega) fun s hs mm => cE hs rfl rfl)) (ev_var rfl) (by rw [hgb]; exact Nat.le_add_right _ _)))) (by
          show totK L X x + min (goodC X (kdOf X) x) (((cls X (kdOf X) x).map (cv X)).sum - goodC X (kdOf X) x) = _
          rw [hgb, Nat.add_sub_cancel_left]))) ?_
        have hr0 : (row X 0).length = L := o.row_len o.pos
        obtain ⟨s0, r, hcl, hs0, es0⟩ := C.cls_ne hin
        refine go_for (σt := Nat) (fun t => [.is rPm m, .is rPm X, .is (rList rNat) (kindL X), .is (rList (rOpt rNat)) (countsF X), .own 0, .no, .is rNat t, .is rNat x, .is (rList rNat) (cls X (kdOf X) x), .no, .no, .no]) (fun _ => [some (oDK (rList rNat) (stT X X.1.length))]) (fun j t => t = totK L X x + min (goodC X (kdOf X) x) (badC X (kdOf X) x) + ((List.range' 0 j).map (exitC X (kdOf X) x)).sum ∧ j ≤ L) _ (it_range1 (n := L) (ev_eq (ev_lenT (R := rNat) (xs := row X 0) (ev_ixT (ev_fst (ev_var rfl)) ev_nat0 (row_at o.pos))) hr0) (by omega)) (tg_name 10) ⟨rfl, Nat.zero_le _⟩ (.same (.same (.same (.same (.same (.same (.same (.same (.same (.no (.same (.same .nil)))))))))))) rfl ?_ ?_
        · rintro G2 bs2 j t a ha ⟨et, hj⟩
          obtain ⟨hjn, ea⟩ := List.getElem?_eq_some_iff.mp ha
          rw [List.getElem_range'] at ea
          rw [List.length_range'] at hjn
          have ea : a = j := by omega
          subst ea
          refine q_asg (eg_ev (ev_lc0 (T := rNat) (ltr X a) (it_list (R := rNat) (xs := cls X (kdOf X) x) (ev_var rfl)) (tg_name 5) (by simp) (by omega) fun s hs mm => ?_)) ?_
          · have hs1 := (mem_cls.mp hs).1
            exact ev_ixT (ev_ixT (ev_fst (ev_var rfl)) (ev_var rfl) (row_at hs1)) (ev_var rfl) (ltr_at o hs1 hjn)
          have hg0 : ((cls X (kdOf X) x).map (ltr X a))[0]? = some (ltr X a s0) := by rw [hcl]; rfl
          have elat : kdOf X (ltr X a s0) = lat X (kdOf X) x a := lk_lat C (by rw [hcl]; exact List.mem_cons_self) hjn
          have hgl0 := ltr_lt o hs0 hjn
          have sg0 : ∀ {S : Sl} {M : Mo}, S[2]? = some (.is (rList rNat) (kindL X)) → S[11]? = some (.is (rList rNat) ((cls X (kdOf X) x).map (ltr X a))) → Ev none (tOp (rIxL K) (tVar 2) (tOp (rIxL K) (tVar 11) (tC (.int 0)))) S M rNat (lat X (kdOf X) x a) := fun h2 h11 => ev_eq (ev_ixL (R := rNat) (ev_var h2) (ev_ixL (R := rNat) (ev_var h11) ev_nat0 hg0) (kAt _ hgl0)) elat
          have step : ((List.range' 0 (a + 1)).map (exitC X (kdOf X) x)).sum = ((List.range' 0 a).map (exitC X (kdOf X) x)).sum + exitC X (kdOf X) x a := by
            rw [rng_succ, List.map_append, List.sum_append]
            simp
          refine go_when (b := !(sty X (kdOf X) (lat X (kdOf X) x a)).isEmpty) (et_eq (et_B (ev_kin rfl rfl (sg0 rfl rfl))) (inK _)) (fun he => ?_) (fun he => ?_)
          · have he : (sty X (kdOf X) (lat X (kdOf X) x a)).isEmpty = false := by simpa using he
            refine go_asg (eg_ev (ev_addN (ev_var rfl) (ev_call ((X, sty X (kdOf X) (lat X (kdOf X) x a), (cls X (kdOf X) x).map (ltr X a), (cls X (kdOf X) x).map (cv X)) : Mc × List Nat × List Nat × List Nat) (ea_cons (ev_var rfl) (ea_cons (ev_kget rfl rfl (sg0 rfl rfl) (getK he)) (ea_cons (ev_var rfl) (ea_cons (ev_lc0 (T := rNat) (cv X) (it_list (R := rNat) (xs := cls X (kdOf X) x) (ev_var rfl)) (tg_name 5) (by simp) (by omega) fun s hs mm => cE hs rfl rfl) ea_nil))))
              ⟨⟨L, o, l3⟩, fun e => (by rw [show sty X (kdOf X) (lat X (kdOf X) x a) = [] from e] at he; cases he), hst8 _, by show ((cls X (kdOf X) x).map _).length ≤ 8; rw [List.length_map]; exact hc8, by show ((cls X (kdOf X) x).map _).length = ((cls X (kdOf X) x).map _).length; rw [List.length_map, List.length_map], fun v hv => ?_, fun g hg t' ht' => ?_⟩))) ?_
            · obtain ⟨s, hs, rfl⟩ := List.mem_map.mp hv
              exact cv_lt o l3 (cls_nk hnk hs)
            · obtain ⟨s, hs, rfl⟩ := List.mem_map.mp hg
              obtain ⟨t1, _, t2⟩ := mem_sty.mp ht'
              have hl := ltr_lt o (mem_cls.mp hs).1 hjn
              exact ⟨hl, t1, (C.k.iff _ _ hl t1).mp ((lk_lat C hs hjn).trans t2.symm)⟩
            · refine go_turn _ ⟨?_, hjn⟩ (.same (.same (.same (.same (.same (.same (.same (.same (.same (.same (.no (.no .nil)))))))))))) rfl
              rw [step, et]
              show _ + minL ((sty X (kdOf X) (lat X (kdOf X) x a)).map (zCost X ((cls X (kdOf X) x).map (ltr X a)) ((cls X (kdOf X) x).map (cv X)))) = _
              rw [zCost_cost]
              unfold exitC
              rw [if_neg (by rw [he]; decide)]
              omega
          · have he : (sty X (kdOf X) (lat X (kdOf X) x a)).isEmpty = true := by simpa using he
            refine go_turn t ⟨?_, hjn⟩ (.same (.same (.same (.same (.same (.same (.same (.same (.same (.same (.no (.no .nil)))))))))))) rfl
            rw [step, et]
            have : exitC X (kdOf X) x a = 0 := by unfold exitC; rw [if_pos he]
            omega
        · rintro t ⟨et, hj⟩
          rw [List.length_range'] at et
          refine go_turn t ⟨?_, hin⟩ (.same (.same (.same (.same (.same (.same (.same (.no (.no (.same (.same (.same .nil)))))))))))) rfl
          rw [totK_succ, if_pos hk, et]
          unfold eC
          omega
      · refine go_turn (totK L X x) ⟨?_, hin⟩ (.same (.same (.same (.same (.same (.same (.same (.no (.same (.same (.same (.same .nil)))))))))))) rfl
        rw [totK_succ, if_neg (by rw [hk]; decide)]
        rfl
    · rintro t ⟨et, hi⟩
      rw [List.length_range'] at et
      subst et
      refine go_ret hq (ev_eq (ev_var rfl) ?_)
      unfold WF
      rw [if_pos hb]
      rfl
end
end B
namespace B
open PySem L2
def endF (m : Mc) (s : Nat) (r : List Nat) : Nat := r.foldl (fun s a => ltr m a s) s
theorem endF_lt {L : Nat} {m : Mc} (o : OkM L m) : ∀ (r : List Nat) (s : Nat), s < m.1.length → (∀ a ∈ r, a < L) → endF m s r < m.1.length
  | [], _, h, _ => h
  | a :: r, s, h, hr => endF_lt o r _ (ltr_lt o h (hr a List.mem_cons_self)) fun b hb => hr b (List.mem_cons_of_mem _ hb)
theorem endF_snoc (m : Mc) (s : Nat) (r : List Nat) (a : Nat) : endF m s (r ++ [a]) = ltr m a (endF m s r) := by
  unfold endF
  rw [List.foldl_append]
  rfl
section
variable {P : Program} {w : World} {A : Ad} {K : PySem.W.Frag} {mg : Str → Option Value} {base : Heap}
abbrev sp__law_end : Sp := prm (fun a : Mc × Nat × List Nat => [.is rPm a.1, .is rNat a.2.1, .is rRow a.2.2]) (fun a => ∃ L, OkM L a.1 ∧ a.2.1 < a.1.1.length ∧ ∀ x ∈ a.2.2, x < L) (fun _ => rNat) (fun a => endF a.1 a.2.1 a.2.2)
theorem ok__law_end (T : Txt A K mg) : FnOk P w K mg base CX0 1 A.f__law_end A.d__law_end ps__law_end sp__law_end := by
  refine T.F__law_end.ok sc__law_end (fun vs H Q E h => prm_len (fun _ => rfl) h) (fun cdv Ar outer s H vs Q E hr h => ⟨_, (pss_cons (ps_for PassesOwn.never rfl (pi_tupK (K := K) rfl (pv 2)) (pg_name (i := 3) sc__law_end.nd rfl (by first | exact Or.inl rfl | exact Or.inr rfl)) (pss_one (ps_set (i := 1) sc__law_end.nd rfl (by first | exact Or.inl rfl | exact Or.inr rfl) (pe_ix (ix_tupK (K := K) rfl) (pe_ix (ix_tupK (K := K) rfl) (pe_ix (ix_tupK (K := K) rfl) (pv 0) pe_int (fun _ _ => rfl)) (pv 1) (fun _ _ => rfl)) (pv 3) (fun _ _ => rfl)))))
      (pss_one (ps_ret (pv 1)))), go_start h ?_⟩)
  rintro ⟨m, s, r⟩ H0 G0 ⟨L, o, hs, hr'⟩ hq
  dsimp only at o hs hr' hq ⊢
  refine q_for (σt := Nat) (fun x => [.is rPm m, .is rNat x, .is rRow r, .no]) (fun _ => []) (fun i x => x = endF m s (r.take i)) s (it_tup (R := rNat) (ev_var rfl)) (tg_name 3) rfl (Wk.refl _) rfl ?_ ?_
  · rintro G1 bs i x a ha rfl
    have hx : endF m s (r.take i) < m.1.length := endF_lt o _ _ hs fun b hb => hr' b (List.mem_of_mem_take hb)
    refine go_asg (eg_ev (ev_ixT (ev_ixT (ev_fst (ev_var rfl)) (ev_var rfl) (row_at hx)) (ev_var rfl) (ltr_at o hx (hr' a (List.mem_of_getElem? ha))))) ?_
    refine go_turn _ ?_ (.same (.same (.same (.no .nil)))) rfl
    rw [take_snoc ha, endF_snoc]
  · rintro x rfl
    rw [List.take_length]
    exact go_ret hq (ev_var rfl)
structure RwP (n i : Nat) (l : List (List Nat)) : Prop where
  len : l.length ≤ 2 ^ i
  ok : ∀ r ∈ l, r.length = i ∧ ∀ g ∈ r, g < n
abbrev sp__law_all : Sp := prm (fun a : Nat × Nat => [.is rNat a.1, .is rNat a.2]) (fun a => 1 ≤ a.1 ∧ a.1 ≤ 2 ∧ 1 ≤ a.2 ∧ a.2 ≤ 2) (fun a => rSome (rList rPm) fun l => ∀ x ∈ l, OkM a.1 x ∧ x.1.length = a.2) (fun _ => ())
structure TbP (L n i : Nat) (l : List (List (List Nat))) : Prop where
  len : l.length ≤ 4 ^ i
  ok : ∀ t ∈ l, t.length = i ∧ ∀ r ∈ t, r.length = L ∧ ∀ g ∈ r, g < n
theorem ok__law_all (T : Txt A K mg) : FnOk P w K mg base CX0 1 A.f__law_all A.d__law_all ps__law_all sp__law_all := by
  refine T.F__law_all.ok sc__law_all (fun vs H Q E h => prm_len (fun _ => rfl) h) (fun cdv Ar outer s H vs Q E hr h => ⟨_, (pss_cons (ps_par (i := 2) (j := 3) (by rfl) sc__law_all.nd rfl rfl (by decide) rfl rfl (pa_cons (pe_lst (pa_cons (pe_tup pa_nil) pa_nil)) (pa_cons (pe_lst (pa_cons (pe_tup pa_nil) pa_nil)) pa_nil)) (by rfl))
      (pss_cons (ps_for PassesOwn.never rfl (pi_range1 (by rfl) T.n_range (pa_cons (pv 0) pa_nil)) (pg_name (i := 4) sc__law_all.nd rfl (by first | exact Or.inl rfl | exact Or.inr rfl)) (pss_cons (ps_set (i := 5) sc__law_all.nd rfl (by first | exact Or.inl rfl | exact Or.inr rfl) (pe_lst pa_nil))
      (pss_cons (ps_for PassesOwn.never rfl (pi_listK (K := K) rfl (pv 2)) (pg_name (i := 6) sc__law_all.nd rfl (by first | exact Or.inl rfl | exact Or.inr rfl)) (pss_one (ps_set (i := 5) sc__law_all.nd rfl (by first | exact Or.inl rfl | exact Or.inr rfl) (pe_op op_cat (pv 5) (pe_lc (own := [("_law_stand", 7)]) (g := gName 7) (by rfl) sc__law_all.nd (pi_range1 (by rfl) T.n_range (pa_cons (pv 1) pa_nil)) (blkOk_by (own := [("_law_stand", 7)]) (N := nm__law_all) (sc := defScope st__law_all) (by decide +kernel)) (fun _ _ _ _ _ => (pg_name (i := 7) sc__law_all.nd rfl (by first | exact Or.inl rfl | exact Or.inr rfl))) (fun _ _ _ _ _ => pts_nil) (fun _ _ _ _ _ => (pe_op (op_catAK (K := K) rfl) (pv 6) (pe_tup (pa_cons (pv 7) pa_nil)))))))))
      (pss_one (ps_set (i := 2) sc__law_all.nd rfl (by first | exact Or.inl rfl | exact Or.inr rfl) (pv 5))))))
      (pss_cons (ps_for PassesOwn.never rfl (pi_range1 (by rfl) T.n_range (pa_cons (pv 1) pa_nil)) (pg_name (i := 7) sc__law_all.nd rfl (by first | exact Or.inl rfl | exact Or.inr rfl)) (pss_cons (ps_set (i := 5) sc__law_all.nd rfl (by first | exact Or.inl rfl | exact Or.inr rfl) (pe_lst pa_nil))
      (pss_cons (ps_for PassesOwn.never rfl (pi_listK (K := K) rfl (pv 3)) (pg_name (i := 8) sc__law_all.nd rfl (by first | exact Or.inl rfl | exact Or.inr rfl)) (pss_one (ps_set (i := 5) sc__law_all.nd rfl (by first | exact Or.inl rfl | exact Or.inr rfl) (pe_op op_cat (pv 5) (pe_lc (own := [("_law_row", 6)]) (g := gName 6) (by rfl) sc__law_all.nd (pi_listK (K := K) rfl (pv 2)) (blkOk_by (own := [("_law_row", 6)]) (N := nm__law_all) (sc := defScope st__law_all) (by decide +kernel)) (fun _ _ _ _ _ => (pg_name (i := 6) sc__law_all.nd rfl (by first | exact Or.inl rfl | exact Or.inr rfl))) (fun _ _ _ _ _ => pts_nil) (fun _ _ _ _ _ => (pe_op (op_catAK (K := K) rfl) (pv 8) (pe_tup (pa_cons (pv 6) pa_nil)))))))))
      (pss_one (ps_set (i := 3) sc__law_all.nd rfl (by first | exact Or.inl rfl | exact Or.inr rfl) (pv 5))))))
      (pss_cons (ps_set (i := 9) sc__law_all.nd rfl (by first | exact Or.inl rfl | exact Or.inr rfl) (pe_lst pa_nil))
      (pss_cons (ps_for PassesOwn.never rfl (pi_listK (K := K) rfl (pv 3)) (pg_name (i := 8) sc__law_all.nd rfl (by first | exact Or.inl rfl | exact Or.inr rfl)) (pss_one (ps_for PassesOwn.never rfl (pi_listK (K := K) rfl (pe_slice (sl_listK (K := K) rfl) (pe_lst (pa_cons (pe_tup pa_nil) (pa_cons (pe_tup (pa_cons pe_int pa_nil)) (pa_cons (pe_tup (pa_cons pe_int pa_nil)) (pa_cons (pe_tup (pa_cons pe_int (pa_cons pe_int pa_nil))) pa_nil))))) po_none (po_some (pe_op op_mul pe_int (pv 1))))) (pg_name (i := 10) sc__law_all.nd rfl (by first | exact Or.inl rfl | exact Or.inr rfl)) (pss_one (ps_expr (pe_bm PySem.F.plainAttrs_list PySem.F.slot_list_append PySem.F.type_list_append mt_append (pv 9) (pa_cons (pe_tup (pa_cons (pv 8) (pa_cons (pv 10) pa_nil))) pa_nil)))))))
      (pss_one (ps_ret (pv 9)))))))), go_start h ?_⟩)
  rintro ⟨L, n⟩ H0 G0 ⟨a1, a2, b1, b2⟩ hq
  dsimp only at a1 a2 b1 b2 hq ⊢
  refine q_par (eg_ev (ev_lst (xs := [([] : List Nat)]) (ea_cons (ev_tup (R := rNat) ea_nil (by simp)) ea_nil) (by simp))) (eg_ev (ev_lst (xs := [([] : List (List Nat))]) (ea_cons (ev_tup (R := rRow) ea_nil (by simp)) ea_nil) (by simp))) ?_
  refine q_for (σt := List (List Nat)) (fun l => [.is rNat L, .is rNat n, .is (rList rRow) l, .is (rList rSteps) [[]], .no, .no, .no, .no, .no, .no, .no]) (fun _ => []) (fun i l => i ≤ L ∧ RwP n i l) [[]] (it_range1 (ev_var rfl) (by omega)) (tg_name 4) ⟨Nat.zero_le _, by simp, fun r hr => by rw [List.mem_singleton.mp hr]; simp⟩ (Wk.refl _) rfl ?_ ?_
  · rintro G1 bs i l x hx ⟨hi, I⟩
    obtain ⟨hin, _⟩ := List.getElem?_eq_some_iff.mp hx
    rw [List.length_range'] at hin
    have hp : 2 ^ i ≤ 2 := by
      have : i = 0 ∨ i = 1 := by omega
      rcases this with rfl | rfl <;> decide
    have hl2 := I.len
    refine q_asg (eg_ev (ev_lst (xs := ([] : List (List Nat))) (R := rRow) ea_nil (by simp))) ?_
    refine q_for (σt := List (List Nat)) (fun l' => [.is rNat L, .is rNat n, .is (rList rRow) l, .is (rList rSteps) [[]], .no, .is (rList rRow) l', .no, .no, .no, .no, .no]) (fun _ => []) (fun j l' => l'.length ≤ 2 * j ∧ ∀ r ∈ l', r.length = i + 1 ∧ ∀ g ∈ r, g < n) [] (it_list (R := rRow) (ev_var rfl)) (tg_name 6) ⟨Nat.le_refl _, fun r hr => by simp at hr⟩ (.same (.same (.same (.same (.no (.same (.same (.same (.same (.same (.same .nil))))))))))) rfl ?_ ?_
    · rintro G2 bs2 j l' r hr' ⟨hl', hI'⟩
      have hj := (List.getElem?_eq_some_iff.mp hr').1
      obtain ⟨r1, r2⟩ := I.ok r (List.mem_of_getElem? hr')
      refine go_asg (eg_ev (ev_cat (ev_var rfl) (ev_lc0 (T := rRow) (fun s => r ++ [s]) (it_range1 (ev_var rfl) (by omega)) (tg_name 7) (by simp) (by rw [List.length_range']; omega) fun s hs mm => ev_catT (ev_var rfl) (ev_tup (R := rNat) (xs := [s]) (ea_cons (ev_var rfl) ea_nil) (by simp)) (by rw [r1]; simp; omega)) (by rw [List.length_map, List.length_range']; omega))) ?_
      refine go_turn _ ⟨?_, fun r' hr2 => ?_⟩ (.same (.same (.same (.same (.same (.same (.no (.same (.same (.same (.same .nil))))))))))) rfl
      · rw [List.length_append, List.length_map, List.length_range']
        omega
      · rcases List.mem_append.mp hr2 with q | q
        · exact hI' r' q
        · obtain ⟨s, hs, rfl⟩ := List.mem_map.mp q
          rw [List.mem_range'_1] at hs
          refine ⟨by simp [r1], fun g hg => ?_⟩
          rcases List.mem_append.mp hg with z | z
          · exact r2 g z
          · rw [List.mem_singleton.mp z]
            omega
    · rintro l' ⟨hl', hI'⟩
      refine go_asg (eg_ev (ev_var rfl)) ?_
      refine go_turn l' ⟨hin, by rw [Nat.pow_succ]; omega, hI'⟩ (.same (.same (.same (.same (.same (.no (.same (.same (.same (.same (.same .nil))))))))))) rfl
  rintro rws ⟨hi, I⟩
  rw [List.length_range'] at hi I
  have I : RwP n L rws := I
  have hr4 : rws.length ≤ 4 := by
    have := I.len
    have : L = 1 ∨ L = 2 := by omega
    rcases this with rfl | rfl <;> omega
  refine q_for (σt := List (List (List Nat))) (fun t => [.is rNat L, .is rNat n, .is (rList rRow) rws, .is (rList rSteps) t, .no, .no, .no, .no, .no, .no, .no]) (fun _ => []) (fun i t => i ≤ n ∧ TbP L n i t) [[]] (it_range1 (ev_var rfl) (by omega)) (tg_name 7) ⟨Nat.zero_le _, by simp, fun r hr => by rw [List.mem_singleton.mp hr]; simp⟩ (Wk.refl _) rfl ?_ ?_
  · rintro G1 bs i l x hx ⟨hi', J⟩
    obtain ⟨hin, _⟩ := List.getElem?_eq_some_iff.mp hx
    rw [List.length_range'] at hin
    have hin : i < n := hin
    have hp : 4 ^ i ≤ 4 := by
      have : i = 0 ∨ i = 1 := by omega
      rcases this with rfl | rfl <;> decide
    have hl2 := J.len
    refine q_asg (eg_ev (ev_lst (xs := ([] : List (List (List Nat)))) (R := rSteps) ea_nil (by simp))) ?_
    refine q_for (σt := List (List (List Nat))) (fun l' => [.is rNat L, .is rNat n, .is (rList rRow) rws, .is (rList rSteps) l, .no, .is (rList rSteps) l', .no, .no, .no, .no, .no]) (fun _ => []) (fun j l' => l'.length ≤ 4 * j ∧ ∀ t ∈ l', t.length = i + 1 ∧ ∀ r ∈ t, r.length = L ∧ ∀ g ∈ r, g < n) [] (it_list (R := rSteps) (ev_var rfl)) (tg_name 8) ⟨Nat.le_refl _, fun r hr => by simp at hr⟩ (.same (.same (.same (.same (.same (.same (.same (.no (.same (.same (.same .nil))))))))))) rfl ?_ ?_
    · rintro G2 bs2 j l' t ht ⟨hl', hI'⟩
      have hj := (List.getElem?_eq_some_iff.mp ht).1
      obtain ⟨t1, t2⟩ := J.ok t (List.mem_of_getElem? ht)
      refine go_asg (eg_ev (ev_cat (ev_var rfl) (ev_lc0 (T := rSteps) (fun r => t ++ [r]) (it_list (R := rRow) (ev_var rfl)) (tg_name 6) (by simp) (by omega) fun r hr' mm => ev_catT (ev_var rfl) (ev_tup (R := rRow) (xs := [r]) (ea_cons (ev_var rfl) ea_nil) (by simp)) (by rw [t1]; simp; omega)) (by rw [List.length_map]; omega))) ?_
      refine go_turn _ ⟨?_, fun t' ht2 => ?_⟩ (.same (.same (.same (.same (.same (.same (.same (.same (.no (.same (.same .nil))))))))))) rfl
      · rw [List.length_append, List.length_map]
        omega
      · rcases List.mem_append.mp ht2 with q | q
        · exact hI' t' q
        · obtain ⟨r, hr', rfl⟩ := List.mem_map.mp q
          refine ⟨by simp [t1], fun r' hr2 => ?_⟩
          rcases List.mem_append.mp hr2 with z | z
          · exact t2 r' z
          · rw [List.mem_singleton.mp z]
            exact I.ok r hr'
    · rintro l' ⟨hl', hI'⟩
      refine go_asg (eg_ev (ev_var rfl)) ?_
      refine go_turn l' ⟨hin, by rw [Nat.pow_succ]; omega, hI'⟩ (.same (.same (.same (.same (.same (.no (.same (.no (.same (.same (.same .nil))))))))))) rfl
  rintro tbs ⟨_, J⟩
  rw [List.length_range'] at J
  have J : TbP L n n tbs := J
  have ht16 : tbs.length ≤ 16 := by
    have := J.len
    have : n = 1 ∨ n = 2 := by omega
    rcases this with rfl | rfl <;> omega
  refine q_asg (eg_own (eo_nil (R := rPm))) ?_
  refine q_for (σt := List Mc) (fun _ => [.is rNat L, .is rNat n, .is (rList rRow) rws, .is (rList rSteps) tbs, .no, .no, .no, .no, .no, .own 0, .no]) (fun l => [some (oList rPm l)]) (fun i l => l.length ≤ 4 * i ∧ ∀ x ∈ l, OkM L x ∧ x.1.length = n) [] (it_list (R := rSteps) (ev_var rfl)) (tg_name 8) ⟨Nat.le_refl _, fun x hx => by simp at hx⟩ (Wk.refl _) rfl ?_ ?_
  · rintro G1 bs i l t ht ⟨hl, hI⟩
    have hti := (List.getElem?_eq_some_iff.mp ht).1
    obtain ⟨t1, t2⟩ := J.ok t (List.mem_of_getElem? ht)
    have hgl : (cutN ([[], [0], [1], [0, 1]] : List (List Nat)) none (some (2 * n))).length ≤ 4 := by
      unfold cutN
      rw [List.length_take]
      simp only [List.length_cons, List.length_nil]
      omega
    refine go_for (σt := List Mc) (fun _ => [.is rNat L, .is rNat n, .is (rList rRow) rws, .is (rList rSteps) tbs, .no, .no, .no, .no, .is rSteps t, .own 0, .no]) (fun l => [some (oList rPm l)]) (fun j l' => l'.length ≤ 4 * i + j ∧ ∀ x ∈ l', OkM L x ∧ x.1.length = n) l
      (it_list (R := rRow) (ev_slL (R := rRow) (xs := [[], [0], [1], [0, 1]]) (ev_lst (ea_cons (ev_tup (R := rNat) (xs := []) ea_nil (by simp)) (ea_cons (ev_tup (R := rNat) (xs := [0]) (ea_cons ev_nat0 ea_nil) (by simp)) (ea_cons (ev_tup (R := rNat) (xs := [1]) (ea_cons ev_nat1 ea_nil) (by simp)) (ea_cons (ev_tup (R := rNat) (xs := [0, 1]) (ea_cons ev_nat0 (ea_cons ev_nat1 ea_nil)) (by simp)) ea_nil)))) (by simp)) ov_none (ov_some (ev_mulN ev_nat2 (ev_var rfl) (by omega))))) (tg_name 10) ⟨hl, hI⟩ (Wk.refl _) rfl ?_ ?_
    · rintro G2 bs2 j l' g hg ⟨hl', hI'⟩
      have hj := (List.getElem?_eq_some_iff.mp hg).1
      refine go_app (x := (t, g)) rfl rfl (by omega) (ev_pr (ev_var rfl) (ev_var rfl)) ?_
      refine go_turn (l' ++ [(t, g)]) ⟨by simp; omega, fun x hx => ?_⟩ (.same (.same (.same (.same (.same (.same (.same (.same (.same (.same (.no .nil))))))))))) rfl
      rcases List.mem_append.mp hx with q | q
      · exact hI' x q
      · rw [List.mem_singleton.mp q]
        exact ⟨⟨by show 1 ≤ t.length; omega, by show t.length ≤ 8; omega, fun r hr' => (t2 r hr').1, fun r hr' g' hg' => by show g' < t.length; rw [t1]; exact (t2 r hr').2 g' hg'⟩, t1⟩
    · rintro l' ⟨hl', hI'⟩
      refine go_turn l' ⟨by omega, hI'⟩ (.same (.same (.same (.same (.same (.same (.same (.same (.no (.same (.same .nil))))))))))) rfl
  · rintro l ⟨hl, hI⟩
    exact go_frzL (i := 9) rfl rfl (go_ret hq (ev_someI (ev_var rfl) hI))
end
end B
namespace B
open PySem L2
structure T3 (T : List (List Nat)) : Prop where
  len : T.length = 3
  row : ∀ r ∈ T, r.length = 2 ∧ ∀ g ∈ r, g < 3
def dig (c k : Nat) : Nat := c / 3 ^ k % 3
def tabOf (c : Nat) : List (List Nat) := [[dig c 0, dig c 1], [dig c 2, dig c 3], [dig c 4, dig c 5]]
theorem dig_lt (c k : Nat) : dig c k < 3 := Nat.mod_lt _ (by decide)
theorem tab_t3 (c : Nat) : T3 (tabOf c) := ⟨rfl, fun r hr => by
  unfold tabOf at hr
  simp only [List.mem_cons, List.not_mem_nil, or_false] at hr
  rcases hr with rfl | rfl | rfl <;> exact ⟨rfl, fun g hg => by
    simp only [List.mem_cons, List.not_mem_nil, or_false] at hg
    rcases hg with rfl | rfl <;> exact dig_lt _ _⟩⟩
theorem t3_tab {T : List (List Nat)} (h : T3 T) : ∃ c, c < 729 ∧ tabOf c = T := by
  match T, h with
  | [r1, r2, r3], h =>
    obtain ⟨l1, b1⟩ := h.row r1 (by simp)
    obtain ⟨l2, b2⟩ := h.row r2 (by simp)
    obtain ⟨l3, b3⟩ := h.row r3 (by simp)
    match r1, r2, r3, l1, l2, l3 with
    | [a, b], [c, d], [e, f], _, _, _ =>
      have ha := b1 a (by simp)
      have hb := b1 b (by simp)
      have hc := b2 c (by simp)
      have hd := b2 d (by simp)
      have he := b3 e (by simp)
      have hf := b3 f (by simp)
      refine ⟨a + 3 * b + 9 * c + 27 * d + 81 * e + 243 * f, by omega, ?_⟩
      have e0 : dig (a + 3 * b + 9 * c + 27 * d + 81 * e + 243 * f) 0 = a := by show _ / 1 % 3 = a; omega
      have e1 : dig (a + 3 * b + 9 * c + 27 * d + 81 * e + 243 * f) 1 = b := by show _ / 3 % 3 = b; omega
      have e2 : dig (a + 3 * b + 9 * c + 27 * d + 81 * e + 243 * f) 2 = c := by show _ / 9 % 3 = c; omega
      have e3 : dig (a + 3 * b + 9 * c + 27 * d + 81 * e + 243 * f) 3 = d := by show _ / 27 % 3 = d; omega
      have e4 : dig (a + 3 * b + 9 * c + 27 * d + 81 * e + 243 * f) 4 = e := by show _ / 81 % 3 = e; omega
      have e5 : dig (a + 3 * b + 9 * c + 27 * d + 81 * e + 243 * f) 5 = f := by show _ / 243 % 3 = f; omega
      unfold tabOf
      rw [e0, e1, e2, e3, e4, e5]
  | [], h => exact absurd h.len (by decide)
  | [_], h => exact absurd h.len (by simp)
  | [_, _], h => exact absurd h.len (by simp)
  | _ :: _ :: _ :: _ :: _, h => exact absurd h.len (by simp)
theorem t3_ok {T : List (List Nat)} (h : T3 T) (g : List Nat) : OkM 2 (T, g) := ⟨by show 1 ≤ T.length; rw [h.len]; decide, by show T.length ≤ 8; rw [h.len]; decide, fun r hr => (h.row r hr).1, fun r hr x hx => by show x < T.length; rw [h.len]; exact (h.row r hr).2 x hx⟩
def lineT (T : List (List Nat)) (st : Nat) : List Nat := bfs (row (T, [])) st [0] 0
theorem lineT_succ (T : List (List Nat)) (st : Nat) : lineT T (st + 1) = match (lineT T st)[st]? with
    | none => lineT T st
    | some p => addNew (lineT T st) (row (T, []) p) := by
  show bfs _ (st + 1) [0] 0 = _
  rw [bfs_fuel st 1, Nat.zero_add]
  show bfs _ (0 + 1) (lineT T st) st = _
  cases hp : (lineT T st)[st]? with
  | none => exact bfs_end (List.getElem?_eq_none_iff.mp hp)
  | some p =>
    rw [bfs_step hp]
    rfl
theorem lineT_lt {T : List (List Nat)} (h : T3 T) : ∀ st, (lineT T st).Nodup ∧ ∀ x ∈ lineT T st, x < 3
  | 0 => ⟨by unfold lineT; simp [bfs], fun x hx => by
    have hx : x ∈ [0] := hx
    rw [List.mem_singleton.mp hx]
    decide⟩
  | st + 1 => by
    obtain ⟨h1, h2⟩ := lineT_lt h st
    rw [lineT_succ]
    cases hp : (lineT T st)[st]? with
    | none => exact ⟨h1, h2⟩
    | some p =>
      refine ⟨addNew_nodup _ _ h1, fun x hx => ?_⟩
      rcases (mem_addNew _ _).mp hx with q | q
      · exact h2 x q
      · have := (t3_ok h []).row_lt (s := p) (by show p < T.length; rw [h.len]; exact h2 p (List.mem_of_getElem? hp)) q
        have hl := h.len
        show x < 3
        rw [← hl]
        exact this
section
variable {P : Program} {w : World} {A : Ad} {K : PySem.W.Frag} {mg : Str → Option Value} {base : Heap}
structure ThrP (l : List (List (List Nat))) : Prop where
  len : l.length ≤ 729
  ok : ∀ T ∈ l, T3 T
  all : ∀ T, T3 T → lineT T 3 = [0, 1, 2] → T ∈ l
abbrev sp__law_three : Sp := prm (fun _ : Unit => []) (fun _ => True) (fun _ => rSome (rList rSteps) ThrP) (fun _ => ())
theorem ok__law_three (T : Txt A K mg) : FnOk P w K mg base CX0 1 A.f__law_three A.d__law_three ps__law_three sp__law_three := by
  refine T.F__law_three.ok sc__law_three (fun vs H Q E h => prm_len (fun _ => rfl) h) (fun cdv Ar outer s H vs Q E hr h => ⟨_, (pss_cons (ps_set (i := 0) sc__law_three.nd rfl (by first | exact Or.inl rfl | exact Or.inr rfl) (pe_lst pa_nil))
      (pss_cons (ps_for PassesOwn.never rfl (pi_range1 (by rfl) T.n_range (pa_cons pe_int pa_nil)) (pg_name (i := 1) sc__law_three.nd rfl (by first | exact Or.inl rfl | exact Or.inr rfl)) (pss_cons (ps_par3 (i := 2) (j := 3) (l := 4) (by rfl) sc__law_three.nd rfl rfl rfl (by decide) (by decide) (by decide) rfl rfl rfl (pa_cons (pe_lst pa_nil) (pa_cons (pv 1) (pa_cons (pe_lst (pa_cons pe_int pa_nil)) pa_nil))) (by rfl))
      (pss_cons (ps_for PassesOwn.never rfl (pi_range1 (by rfl) T.n_range (pa_cons pe_int pa_nil)) (pg_name (i := 5) sc__law_three.nd rfl (by first | exact Or.inl rfl | exact Or.inr rfl)) (pss_cons (ps_expr (pe_bm PySem.F.plainAttrs_list PySem.F.slot_list_append PySem.F.type_list_append mt_append (pv 2) (pa_cons (pe_op op_mod (pe_callTy call_int1 (by rfl) T.n_int (by decide +kernel) (pa_cons (pv 3) pa_nil)) pe_int) pa_nil)))
      (pss_one (ps_set (i := 3) sc__law_three.nd rfl (by first | exact Or.inl rfl | exact Or.inr rfl) (pe_op op_fdiv (pv 3) pe_int)))))
      (pss_cons (ps_set (i := 6) sc__law_three.nd rfl (by first | exact Or.inl rfl | exact Or.inr rfl) (pe_tup (pa_cons (pe_callTy (call_tuple_ofK (K := K) rfl) (by rfl) T.n_tuple (by decide +kernel) (pa_cons (pe_slice (sl_listK (K := K) rfl) (pv 2) po_none (po_some pe_int)) pa_nil)) (pa_cons (pe_callTy (call_tuple_ofK (K := K) rfl) (by rfl) T.n_tuple (by decide +kernel) (pa_cons (pe_slice (sl_listK (K := K) rfl) (pv 2) (po_some pe_int) (po_some pe_int)) pa_nil)) (pa_cons (pe_callTy (call_tuple_ofK (K := K) rfl) (by rfl) T.n_tuple (by decide +kernel) (pa_cons (pe_slice (sl_listK (K := K) rfl) (pv 2) (po_some pe_int) po_none) pa_nil)) pa_nil)))))
      (pss_cons (ps_for PassesOwn.never rfl (pi_range1 (by rfl) T.n_range (pa_cons pe_int pa_nil)) (pg_name (i := 7) sc__law_three.nd rfl (by first | exact Or.inl rfl | exact Or.inr rfl)) (pss_one (ps_for PassesOwn.never rfl (pi_tupK (K := K) rfl (pe_ifExp (pt_cmpR op_lt (pv 7) (pe_callB (call_len_seqK (K := K) rfl) (by rfl) T.n_len PySem.boot_len (pa_cons (pv 4) pa_nil)) (nomark _)) (pe_ix (ix_tupK (K := K) rfl) (pv 6) (pe_ix (ix_listK (K := K) rfl) (pv 4) (pv 7) (fun _ _ => rfl)) (fun _ _ => rfl)) (pe_tup pa_nil))) (pg_name (i := 8) sc__law_three.nd rfl (by first | exact Or.inl rfl | exact Or.inr rfl)) (pss_one (ps_set (i := 4) sc__law_three.nd rfl (by first | exact Or.inl rfl | exact Or.inr rfl) (pe_op op_cat (pv 4) (pe_ifExp (pt_cmpR (op_notIn_seqK (K := K) rfl) (pv 8) (pv 4) (by rfl)) (pe_lst (pa_cons (pv 8) pa_nil)) (pe_lst pa_nil))))))))
      (pss_one (ps_if (pt_cmpR (op_eqDK (K := K) rfl hr.units) (pv 4) (pe_lst (pa_cons pe_int (pa_cons pe_int (pa_cons pe_int pa_nil)))) (nomark _)) (pss_one (ps_expr (pe_bm PySem.F.plainAttrs_list PySem.F.slot_list_append PySem.F.type_list_append mt_append (pv 0) (pa_cons (pv 6) pa_nil)))) pss_nil)))))))
      (pss_one (ps_ret (pv 0))))), go_start h ?_⟩)
  rintro _ H0 G0 _ hq
  refine q_asg (eg_own (eo_nil (R := rSteps))) ?_
  refine q_for (σt := List (List (List Nat))) (fun _ => [.own 0, .no, .no, .no, .no, .no, .no, .no, .no]) (fun l => [some (oList rSteps l)]) (fun i l => l.length ≤ i ∧ (∀ T ∈ l, T3 T) ∧ ∀ c, c < i → lineT (tabOf c) 3 = [0, 1, 2] → tabOf c ∈ l) [] (it_range1 (n := 729) (ev_nat (n := 729)) (by decide)) (tg_name 1) ⟨Nat.le_refl _, fun T hT => by simp at hT, fun c hc => absurd hc (Nat.not_lt_zero c)⟩ (Wk.refl _) rfl ?_ ?_
  · rintro G1 bs i l x hx ⟨hl, h3, hall⟩
    obtain ⟨hin, ex⟩ := List.getElem?_eq_some_iff.mp hx
    rw [List.getElem_range'] at ex
    rw [List.length_range'] at hin
    have ex : x = i := by omega
    subst ex
    dsimp only at hl h3 hall ⊢
    refine q_par3 (egs_cons (eg_own (eo_nil (R := rNat))) (egs_cons (eg_ev (ev_toI (ev_var rfl))) (egs_cons (eg_ev (ev_lst (xs := [0]) (ea_cons ev_nat0 ea_nil) (by simp))) egs_nil))) ?_
    refine q_for (σt := Nat) (fun k => [.own 0, .is rNat x, .own 1, .is rInt ((x / 3 ^ k : Nat) : Int), .is (rList rNat) [0], .no, .no, .no, .no]) (fun k => [some (oList rSteps l), some (oList rNat ((List.range' 0 k).map (dig x)))]) (fun i k => k = i ∧ i ≤ 6) 0 (it_range1 (n := 6) (ev_nat (n := 6)) (by decide)) (tg_name 5) ⟨rfl, Nat.zero_le _⟩ ?_ rfl ?_ ?_
    · show Wk [.own 0, .is rNat x, .own 1, .is rInt ((x : Nat) : Int), _, _, _, _, _] [.own 0, .is rNat x, .own 1, .is rInt ((x / 1 : Nat) : Int), _, _, _, _, _]
      rw [Nat.div_one]
      exact Wk.refl _
    · rintro G2 bs2 k0 k y hy ⟨ek, hk⟩
      subst ek
      obtain ⟨hkn, _⟩ := List.getElem?_eq_some_iff.mp hy
      rw [List.length_range'] at hkn
      refine q_app (x := dig x k) rfl rfl (by rw [List.length_map, List.length_range']; omega) (ev_toN (ev_mod (ev_intI (ev_var rfl)) ev_int (by decide)) (by show ((x / 3 ^ k : Nat) : Int) % 3 = ((x / 3 ^ k % 3 : Nat) : Int); omega)) ?_
      refine go_asg (eg_ev (ev_eq (x' := ((x / 3 ^ (k + 1) : Nat) : Int)) (ev_fdiv (ev_var rfl) ev_int ⟨by decide, by decide⟩) (by
        rw [Nat.pow_succ, ← Nat.div_div_eq_div_mul]
        show ((x / 3 ^ k : Nat) : Int) / 3 = ((x / 3 ^ k / 3 : Nat) : Int)
        omega))) ?_
      refine go_turn (k + 1) ⟨rfl, hkn⟩ (.same (.same (.same (.same (.same (.no (.same (.same (.same .nil))))))))) ?_
      show [_, some (oList rNat ((List.range' 0 k).map (dig x) ++ [dig x k]))] = [_, some (oList rNat ((List.range' 0 (k + 1)).map (dig x)))]
      rw [rng_succ, List.map_append]
      rfl
    · rintro k ⟨ek, hk⟩
      have ek : k = 6 := ek
      subst ek
      refine go_frzL (i := 2) rfl rfl ?_
      have t3 := tab_t3 x
      refine q_asg (eg_ev (ev_tup (R := rRow) (xs := tabOf x) (ea_cons (ev_tupOf (ev_eq (x' := [dig x 0, dig x 1]) (ev_slL (R := rNat) (ev_var rfl) ov_none (ov_some ev_nat2)) rfl)) (ea_cons (ev_tupOf (ev_eq (x' := [dig x 2, dig x 3]) (ev_slL (R := rNat) (ev_var rfl) (ov_some ev_nat2) (ov_some (ev_nat (n := 4)))) rfl)) (ea_cons (ev_tupOf (ev_eq (x' := [dig x 4, dig x 5]) (ev_slL (R := rNat) (ev_var rfl) (ov_some (ev_nat (n := 4))) ov_none) rfl)) ea_nil))) (by simp [tabOf]))) ?_
      refine q_for (σt := List Nat) (fun ln => [.own 0, .is rNat x, .no, .no, .is (rList rNat) ln, .no, .is rSteps (tabOf x), .no, .no]) (fun _ => [some (oList rSteps l), none]) (fun st ln => ln = lineT (tabOf x) st) [0] (it_range1 (n := 3) (ev_nat (n := 3)) (by decide)) (tg_name 7) rfl (.same (.same (.no (.no (.same (.same (.same (.same (.same .nil))))))))) rfl ?_ ?_
      · rintro G2 bs2 st ln y hy eln
        subst eln
        obtain ⟨hst, ey⟩ := List.getElem?_eq_some_iff.mp hy
        rw [List.getElem_range'] at ey
        rw [List.length_range'] at hst
        have ey : y = st := by omega
        subst ey
        obtain ⟨hnd, hlt⟩ := lineT_lt t3 y
        have hl3 : (lineT (tabOf x) y).length ≤ 3 := nodup_le hnd (all := List.range 3) (fun z hz => List.mem_range.mpr (hlt z hz)) (by simp)
        obtain ⟨gs, hgs⟩ : ∃ gs, gs = if decide (y < (lineT (tabOf x) y).length) = true then row (tabOf x, []) ((lineT (tabOf x) y).getD y 0) else [] := ⟨_, rfl⟩
        have hln1 : lineT (tabOf x) (y + 1) = addNew (lineT (tabOf x) y) gs := by
          rw [lineT_succ, hgs]
          by_cases h : y < (lineT (tabOf x) y).length
          · rw [if_pos (decide_eq_true h), List.getD_eq_getElem?_getD, List.getElem?_eq_getElem h]
            rfl
          · rw [if_neg (by simpa using h), List.getElem?_eq_none (by omega)]
            rfl
        have hg3 : ∀ g ∈ gs, g < 3 := fun g hg => by
          have h1 := (lineT_lt t3 (y + 1)).2
          rw [hln1] at h1
          exact h1 g ((mem_addNew _ _).mpr (.inr hg))
        refine go_for (σt := List Nat) (fun ln => [.own 0, .is rNat x, .no, .no, .is (rList rNat) ln, .no, .is rSteps (tabOf x), .is rNat y, .no]) (fun _ => [some (oList rSteps l), none]) (fun j ln => ln = addNew (lineT (tabOf x) y) (gs.take j)) (lineT (tabOf x) y) (it_tup (R := rNat) (xs := gs) (ev_eq (ev_ifx (et_test (ev_ltN (ev_var rfl) (ev_lenL (R := rNat) (ev_var rfl)))) (fun hb => ev_ixT (R := rRow) (xs := tabOf x) (k := (lineT (tabOf x) y).getD y 0) (ev_var rfl) (ev_ixL (R := rNat) (ev_var rfl) (ev_var rfl) ?_) (row_at (m := (tabOf x, [])) ?_)) fun _ => ev_tup (R := rNat) (xs := []) ea_nil (by simp)) hgs.symm)) (tg_name 8) rfl (Wk.refl _) rfl ?_ ?_
        · have hb := of_decide_eq_true hb
          rw [List.getD_eq_getElem?_getD, List.getElem?_eq_getElem hb]
          rfl
        · have hb := of_decide_eq_true hb
          rw [List.getD_eq_getElem?_getD, List.getElem?_eq_getElem hb]
          show (lineT (tabOf x) y)[y] < 3
          exact hlt _ (List.getElem_mem hb)
        · rintro G3 bs3 j ln g hg rfl
          have e1 : addNew (lineT (tabOf x) y) (gs.take (j + 1)) = addNew (lineT (tabOf x) y) (gs.take j) ++ if (!decide (g ∈ addNew (lineT (tabOf x) y) (gs.take j))) = true then [g] else [] := by
            rw [take_snoc hg, addNew_snoc]
            by_cases h : g ∈ addNew (lineT (tabOf x) y) (gs.take j)
            · rw [if_pos h, if_neg (by simp [h]), List.append_nil]
            · rw [if_neg h, if_pos (by simp [h])]
          have hl3' : (addNew (lineT (tabOf x) y) (gs.take j)).length ≤ 3 := nodup_le (addNew_nodup _ _ hnd) (all := List.range 3) (fun z hz => List.mem_range.mpr (by
            rcases (mem_addNew _ _).mp hz with q | q
            · exact hlt z q
            · exact hg3 z (List.mem_of_mem_take q))) (by simp)
          refine go_asg (eg_ev (ev_cat (ev_var rfl) (ev_ifx (et_test (ev_ninL (ev_var rfl) (ev_var rfl))) (fun _ => ev_lst (xs := [g]) (ea_cons (ev_var rfl) ea_nil) (by simp)) fun _ => ev_lst (xs := ([] : List Nat)) ea_nil (by simp)) ?_)) ?_
          · split <;> simp <;> omega
          · exact go_turn _ e1.symm (.same (.same (.same (.same (.same (.same (.same (.same (.no .nil))))))))) rfl
        · rintro ln rfl
          rw [List.take_length, ← hln1]
          exact go_turn _ rfl (.same (.same (.same (.same (.same (.same (.same (.no (.same .nil))))))))) rfl
      · rintro ln eln
        have eln : ln = lineT (tabOf x) 3 := eln
        subst eln
        refine go_when (b := PyData.eqv (.list ((lineT (tabOf x) 3).map fun n : Nat => .int (n : Int))) (.list (([0, 1, 2] : List Nat).map fun n : Nat => .int (n : Int)))) (et_test (ev_eqD (n := 0 + 1) (R := rList rNat) (d := fun xs : List Nat => PyData.list (xs.map fun n : Nat => PyData.int (n : Int))) (x := lineT (tabOf x) 3) (x' := [0, 1, 2]) (dat_list dat_nat) (by decide) (ev_var rfl) (ev_lst (xs := [0, 1, 2]) (ea_cons ev_nat0 (ea_cons ev_nat1 (ea_cons ev_nat2 ea_nil))) (by simp)))) (fun hb => ?_) (fun hb => ?_)
        · refine go_app rfl rfl (by omega) (ev_var rfl) ?_
          refine go_forget (M := [some (oList rSteps (l ++ [tabOf x]))]) rfl ?_
          refine go_turn (l ++ [tabOf x]) ⟨by simp; omega, fun T' hT => ?_, fun c hc hln => ?_⟩ (.same (.no (.same (.same (.no (.same (.no (.same (.same .nil))))))))) rfl
          · rcases List.mem_append.mp hT with q | q
            · exact h3 T' q
            · rw [List.mem_singleton.mp q]
              exact t3
          · by_cases e : c = x
            · rw [e]
              simp
            · exact List.mem_append_left _ (hall c (by omega) hln)
        · refine go_forget (M := [some (oList rSteps l)]) rfl ?_
          refine go_turn l ⟨by omega, h3, fun c hc hln => ?_⟩ (.same (.no (.same (.same (.no (.same (.no (.same (.same .nil))))))))) rfl
          by_cases e : c = x
          · subst e
            rw [hln] at hb
            exact absurd hb (by decide)
          · exact hall c (by omega) hln
  · rintro l ⟨hl, h3, hall⟩
    rw [List.length_range'] at hl hall
    refine go_frzL (i := 0) rfl rfl (go_ret hq (ev_someI (ev_var rfl) ⟨hl, h3, fun T' hT hln => ?_⟩))
    obtain ⟨c, hc, rfl⟩ := t3_tab hT
    exact hall c hc hln
end
end B
namespace B
open PySem L2
section
variable {P : Program} {w : World} {A : Ad} {K : PySem.W.Frag} {mg : Str → Option Value} {base : Heap}
abbrev sp__law_alike : Sp := prm (fun a : Nat × Nat => [.is rNat a.1, .is rNat a.2]) (fun _ => True) (fun _ => rBool) (fun a => decide (a.1 = a.2))
theorem ok__law_alike (T : Txt A K mg) : FnOk P w K mg base CX0 1 A.f__law_alike A.d__law_alike ps__law_alike sp__law_alike := by
  refine T.F__law_alike.ok sc__law_alike (fun vs H Q E h => prm_len (fun _ => rfl) h) (fun cdv Ar outer s H vs Q E hr h => ⟨_, (pss_cons (ps_if (pt_val (pe_callB (call_isiTW (K := K) rfl) (by rfl) T.n_isinstance (by decide +kernel) (pa_cons (pv 1) (pa_cons (pe_tup (pa_cons (pe_bltn (by rfl) T.n_tuple (v := .ty "tuple") (by decide +kernel) rfl) (pa_cons (pe_bltn (by rfl) T.n_list (v := .ty "list") (by decide +kernel) rfl) pa_nil))) pa_nil)))) pss_never pss_nil)
      (pss_cons (ps_if (PW.pt (pw_or (pt_cmpR op_isN (pv 1) pe_non (nomark _)) (pw_or1 (pt_val (pe_callB (call_isiW (K := K) rfl) (by rfl) T.n_isinstance (by decide +kernel) (pa_cons (pv 1) (pa_cons (pe_bltn (by rfl) T.n_str (v := .ty "str") (by decide +kernel) rfl) pa_nil))))))) pss_never pss_nil)
      (pss_one (ps_ret (pe_and (pe_callB (call_isiW (K := K) rfl) (by rfl) T.n_isinstance (by decide +kernel) (pa_cons (pv 0) (pa_cons (pe_bltn (by rfl) T.n_int (v := .ty "int") (by decide +kernel) rfl) pa_nil))) (pe_and (pe_cmpR op_eq (pe_callB (call_isiW (K := K) rfl) (by rfl) T.n_isinstance (by decide +kernel) (pa_cons (pv 0) (pa_cons (pe_bltn (by rfl) T.n_bool (v := .ty "bool") (by decide +kernel) rfl) pa_nil))) (pe_callB (call_isiW (K := K) rfl) (by rfl) T.n_isinstance (by decide +kernel) (pa_cons (pv 1) (pa_cons (pe_bltn (by rfl) T.n_bool (v := .ty "bool") (by decide +kernel) rfl) pa_nil))) (nomark _)) (pe_one (pe_cmpR op_eq (pv 0) (pv 1) (nomark _))))))))), go_start h ?_⟩)
  rintro ⟨a, b⟩ H0 G0 _ hq
  refine q_when (b := false) (et_B (ev_isiT (b := false) (b' := false) (ev_var rfl) ty_nat (by decide +kernel) (by decide +kernel))) (fun z => nomatch z) fun _ => ?_
  refine q_when (b := false) (et_or (b := false) (c := false) ?_ fun _ => et_B (ev_isi (b := false) (ev_var rfl) ty_nat (by decide +kernel))) (fun z => nomatch z) fun _ => ?_
  · exact et_test (fun H0 G0 H G as σ Z Q q => (ev_var (R := rNat) (x := b) rfl) H0 G0 H G as σ Z _ fun v H1 G1 Z1 e1 r1 => ⟨rfl, q _ H1 G1 Z1 e1 (by cases (show v = _ from r1); rfl)⟩)
  refine go_ret hq (ev_eq (ev_and (ev_isi (b := true) (ev_var rfl) ty_nat (by decide +kernel)) fun _ => ev_and (ev_eqB (ev_isi (b := false) (ev_var rfl) ty_nat (by decide +kernel)) (ev_isi (b := false) (ev_var rfl) ty_nat (by decide +kernel))) fun _ => ev_eqN (ev_var rfl) (ev_var rfl)) ?_)
  simp
end
end B
namespace B
open PySem L2
theorem way_row {L : Nat} {m X : Mc} (o : OkM L m) (oX : OkM L X) : ∀ (r : List Nat) (a b : Nat), a < m.1.length → b < X.1.length → (∀ x ∈ r, x < L) → Way m X r.length (a, b) (endF m a r, endF X b r)
  | [], _, _, _, _, _ => rfl
  | x :: r, a, b, ha, hb, hr => by
    have hx := hr x List.mem_cons_self
    exact ⟨(ltr m x a, ltr X x b), goals_at (ltr_at o ha hx) (ltr_at oX hb hx), way_row o oX r _ _ (ltr_lt o ha hx) (ltr_lt oX hb hx) fun y hy => hr y (List.mem_cons_of_mem _ hy)⟩
theorem long_row {L : Nat} {m X : Mc} (o : OkM L m) (oX : OkM L X) (h3 : X.1.length = 3) {c : Nat} (h : tot m X (0, 0) = some c) {r : List Nat} (hl : r.length = 30) (hr : ∀ x ∈ r, x < L) : decide (endF X 0 r ∈ X.2) = decide (endF m 0 r ∈ m.2) := by
  have hd : Dies fun k => cnt m X k (0, 0) := fin_isSome.mp (by show (tot m X (0, 0)).isSome = true; rw [h]; rfl)
  have hcl : ∀ x ∈ allP m.1.length X.1.length, ∀ g ∈ goals m X x, g ∈ allP m.1.length X.1.length := fun x hx g hg => mem_allP.mpr (goals_in o oX (mem_allP.mp hx) hg)
  have h8 := o.le8
  have hz := dies_at hcl (p := (0, 0)) (mem_allP.mpr ⟨o.pos, oX.pos⟩) hd 30 (by
    rw [allP_len, h3]
    omega)
  have hw := way_row o oX r 0 0 o.pos oX.pos hr
  rw [hl] at hw
  refine Classical.byContradiction fun hne => cnt_way.mpr ⟨_, hw, ?_⟩ hz
  unfold unl
  cases h1 : decide (endF m 0 r ∈ m.2) <;> cases h2 : decide (endF X 0 r ∈ X.2) <;> simp_all
def pow2 : List Nat := [1, 2, 4]
def goodOf (c : Nat) : List Nat := (List.range' 0 3).filter fun k => decide (c / pow2.getD k 0 % 2 = 1)
theorem good_code {g : List Nat} (h : OkG 3 g) : ∃ c, c < 8 ∧ goodOf c = g := by
  refine ⟨(if 0 ∈ g then 1 else 0) + (if 1 ∈ g then 2 else 0) + (if 2 ∈ g then 4 else 0), by split <;> split <;> split <;> omega, ?_⟩
  rw [← goods_eq h]
  unfold goodOf
  refine List.filter_congr fun k hk => ?_
  rw [List.mem_range'_1] at hk
  have hk : k = 0 ∨ k = 1 ∨ k = 2 := by omega
  rw [goods_eq h]
  rcases hk with rfl | rfl | rfl <;> by_cases h0 : 0 ∈ g <;> by_cases h1 : 1 ∈ g <;> by_cases h2 : 2 ∈ g <;> simp [pow2, h0, h1, h2]
section
variable {P : Program} {w : World} {A : Ad} {K : PySem.W.Frag} {mg : Str → Option Value} {base : Heap}
structure WrP (m : Mc) (rows : List (List Nat × Bool)) : Prop where
  ok : OkM 2 m
  few : fewF m = 3
  len : rows.length ≤ 12
  row : ∀ e ∈ rows, e.1.length = 30 ∧ (∀ x ∈ e.1, x < 2) ∧ e.2 = decide (endF m 0 e.1 ∈ m.2)
structure WrR (m : Mc) (l : List Nat) : Prop where
  ge : ∀ v ∈ l, dueF 2 m ≤ v
  mem : dueF 2 m ∈ l
abbrev sp__law_wrongs : Sp := prm (fun a : Mc × List (List Nat × Bool) => [.is rPm a.1, .is (rList (rPr rRow rBool)) a.2]) (fun a => WrP a.1 a.2) (fun a => rSome (rList rNat) (WrR a.1)) (fun _ => ())
theorem ok__law_wrongs (T : Txt A K mg) : FnOk P w K mg base CX0 3 A.f__law_wrongs A.d__law_wrongs ps__law_wrongs sp__law_wrongs := by
  refine T.F__law_wrongs.ok sc__law_wrongs (fun vs H Q E h => prm_len (fun _ => rfl) h) (fun cdv Ar outer s H vs Q E hr h => ⟨_, (pss_cons (ps_set (i := 2) sc__law_wrongs.nd rfl (by first | exact Or.inl rfl | exact Or.inr rfl) (pe_lst pa_nil))
      (pss_cons (ps_for PassesOwn.never rfl (pi_listK (K := K) rfl (pe_call0 (ok__law_three T) (hr.mono (by decide)) (by rfl) T.g__law_three T.F__law_three.kp T.b__law_three .nil pass0)) (pg_name (i := 3) sc__law_wrongs.nd rfl (by first | exact Or.inl rfl | exact Or.inr rfl)) (pss_one (ps_for PassesOwn.never rfl (pi_range1 (by rfl) T.n_range (pa_cons pe_int pa_nil)) (pg_name (i := 4) sc__law_wrongs.nd rfl (by first | exact Or.inl rfl | exact Or.inr rfl)) (pss_cons (ps_set (i := 5) sc__law_wrongs.nd rfl (by first | exact Or.inl rfl | exact Or.inr rfl) (pe_tup (pa_cons (pv 3) (pa_cons (pe_callTy (call_tuple_ofK (K := K) rfl) (by rfl) T.n_tuple (by decide +kernel) (pa_cons (pe_lc (own := [("_law_k", 7)]) (g := gName 7) (by rfl) sc__law_wrongs.nd (pi_range1 (by rfl) T.n_range (pa_cons pe_int pa_nil)) (blkOk_by (own := [("_law_k", 7)]) (N := nm__law_wrongs) (sc := defScope st__law_wrongs) (by decide +kernel)) (fun _ _ _ _ _ => (pg_name (i := 7) sc__law_wrongs.nd rfl (by first | exact Or.inl rfl | exact Or.inr rfl))) (fun _ _ _ _ _ => (pts_one (pt_cmpR op_eq (pe_op op_mod (pe_callTy call_int1 (by rfl) T.n_int (by decide +kernel) (pa_cons (pe_op op_fdiv (pv 4) (pe_ix (ix_listK (K := K) rfl) (pe_lst (pa_cons pe_int (pa_cons pe_int (pa_cons pe_int pa_nil)))) (pv 7) (fun _ _ => rfl))) pa_nil)) pe_int) pe_int (nomark _)))) (fun _ _ _ _ _ => (pv 7))) pa_nil)) pa_nil))))
      (pss_one (ps_if (pt_cmpR (op_eqDK (K := K) rfl hr.units) (pe_lc (own := [("_law_row", 8), ("_law_lets", 9)]) (g := gTup K 2 (gCons (gName 8) (gCons (gName 9) gNil))) (by rfl) sc__law_wrongs.nd (pi_listK (K := K) rfl (pv 1)) (blkOk_by (own := [("_law_row", 8), ("_law_lets", 9)]) (N := nm__law_wrongs) (sc := defScope st__law_wrongs) (by decide +kernel)) (fun _ _ _ _ _ => (pg_tupK (K := K) rfl (by rfl) (pgs_cons (pg_name (i := 8) sc__law_wrongs.nd rfl (by first | exact Or.inl rfl | exact Or.inr rfl)) (pgs_cons (pg_name (i := 9) sc__law_wrongs.nd rfl (by first | exact Or.inl rfl | exact Or.inr rfl)) pgs_nil)))) (fun _ _ _ _ _ => (pts_one (pt_cmpR op_ne (pe_cmpR (op_in_seqK (K := K) rfl) (pe_call (ok__law_end T) (hr.mono (by decide)) (by rfl) T.g__law_end T.F__law_end.kp T.b__law_end .nil pass0 (pa_cons (pv 5) (pa_cons pe_int (pa_cons (pv 8) pa_nil)))) (pe_ix (ix_tupK (K := K) rfl) (pv 5) pe_int (fun _ _ => rfl)) (by rfl)) (pv 9) (nomark _)))) (fun _ _ _ _ _ => (pv 8))) (pe_lst pa_nil) (nomark _)) (pss_cons (ps_set (i := 6) sc__law_wrongs.nd rfl (by first | exact Or.inl rfl | exact Or.inr rfl) (pe_call (ok__law_unlike T) (hr.mono (by decide)) (by rfl) T.g__law_unlike T.F__law_unlike.kp T.b__law_unlike .nil pass0 (pa_cons (pv 0) (pa_cons (pv 5) (pa_cons (pe_tup (pa_cons pe_int (pa_cons pe_int pa_nil))) pa_nil)))))
      (pss_one (ps_set (i := 2) sc__law_wrongs.nd rfl (by first | exact Or.inl rfl | exact Or.inr rfl) (pe_op op_cat (pv 2) (pe_ifExp (pt_cmpR op_notN (pv 6) pe_non (nomark _)) (pe_lst (pa_cons (pe_ix (ix_tupK (K := K) rfl) (pv 6) pe_int (fun _ _ => rfl)) pa_nil)) (pe_lst pa_nil)))))) pss_nil))))))
      (pss_one (ps_ret (pv 2))))), go_start h ?_⟩)
  rintro ⟨m, rows⟩ H0 G0 ⟨om, few, hlen, hrow⟩ hq
  dsimp only at om few hlen hrow hq ⊢
  have best := best_p om (by decide) (by decide)
  have consistent : ∀ X : Mc, OkM 2 X → X.1.length = 3 → ∀ {c : Nat}, tot m X (0, 0) = some c → (rows.filter fun e => decide (endF X 0 e.1 ∈ X.2) != e.2) = [] := fun X oX h3 c hc => by
    rw [List.filter_eq_nil_iff]
    intro e he
    obtain ⟨r1, r2, r3⟩ := hrow e he
    rw [long_row om oX h3 hc r1 r2, r3]
    simp
  refine q_asg (eg_ev (ev_lst (xs := ([] : List Nat)) (R := rNat) ea_nil (by simp))) ?_
  refine q_forS (σt := List Nat) (R := rSteps) (p := ThrP) (fun l => [.is rPm m, .is (rList (rPr rRow rBool)) rows, .is (rList rNat) l, .no, .no, .no, .no, .no, .no, .no]) (fun _ => [])
    (fun xs i l => l.length ≤ 8 * i ∧ (∀ v ∈ l, dueF 2 m ≤ v) ∧ ∀ T ∈ xs.take i, ∀ g, OkG 3 g → tot m (T, g) (0, 0) = some (dueF 2 m) → dueF 2 m ∈ l) [] (ev_call () ea_nil trivial) (tg_name 3) (fun xs _ => ⟨Nat.le_refl _, fun v hv => by simp at hv, fun T hT => by simp at hT⟩) (Wk.refl _) rfl ?_ ?_
  · rintro xs hp G1 bs i l T' hT ⟨hl, hge, hmem⟩
    have hi7 : i < 729 := by
      have := (List.getElem?_eq_some_iff.mp hT).1
      have := hp.len
      omega
    have t3 := hp.ok T' (List.mem_of_getElem? hT)
    refine go_for (σt := List Nat) (fun l => [.is rPm m, .is (rList (rPr rRow rBool)) rows, .is (rList rNat) l, .is rSteps T', .no, .no, .no, .no, .no, .no]) (fun _ => []) (fun j l' => l'.length ≤ 8 * i + j ∧ (∀ v ∈ l', dueF 2 m ≤ v) ∧ (∀ v ∈ l, v ∈ l') ∧ ∀ c, c < j → tot m (T', goodOf c) (0, 0) = some (dueF 2 m) → dueF 2 m ∈ l') l (it_range1 (n := 8) (ev_nat (n := 8)) (by decide)) (tg_name 4) ⟨hl, hge, fun v hv => hv, fun c hc => absurd hc (Nat.not_lt_zero c)⟩ (Wk.refl _) rfl ?_ ?_
    · rintro G2 bs2 j l' x hx ⟨hl', hge', hsub, hall⟩
      obtain ⟨hin, ex⟩ := List.getElem?_eq_some_iff.mp hx
      rw [List.getElem_range'] at ex
      rw [List.length_range'] at hin
      have ex : x = j := by omega
      subst ex
      have oX := t3_ok t3 (goodOf x)
      have hX3 : T'.length = 3 := t3.len
      refine q_asg (eg_ev (ev_pr (R := rSteps) (x := T') (y := goodOf x) (ev_var rfl) (ev_tupOf (ev_eq (ev_lc (T := rNat) (R := rNat) (fun k => decide (x / pow2.getD k 0 % 2 = 1)) id (it_range1 (n := 3) (ev_nat (n := 3)) (by decide)) (tg_name 7) (by simp) (by simp) (fun k hk mm => ?_) fun k hk _ mm => ev_var rfl) (List.map_id _))))) ?_
      · rw [List.mem_range'_1] at hk
        have hk : k = 0 ∨ k = 1 ∨ k = 2 := by omega
        have hpk : pow2[k]? = some (pow2.getD k 0) ∧ 0 < pow2.getD k 0 ∧ pow2.getD k 0 < 100 := by rcases hk with rfl | rfl | rfl <;> decide
        refine et_test (ev_eqN (ev_toN (n := x / pow2.getD k 0 % 2) (ev_mod (ev_intI (ev_fdiv (ev_toI (ev_var rfl)) (ev_toI (ev_ixL (R := rNat) (xs := pow2) (ev_lst (ea_cons ev_nat1 (ea_cons ev_nat2 (ea_cons (ev_nat (n := 4)) ea_nil))) (by decide)) (ev_var rfl) hpk.1)) ⟨by omega, by omega⟩)) ev_int (by decide)) ?_) ev_nat1)
        rw [← Int.natCast_ediv]
        omega
      refine go_when (b := (rows.filter fun e => decide (endF (T', goodOf x) 0 e.1 ∈ goodOf x) != e.2).isEmpty) (et_eq (et_test (ev_eqNil (n := 0 + 1) (dat_tup dat_nat) (by decide) (ev_lc (T := rRow) (R := rPr rRow rBool) (fun e => decide (endF (T', goodOf x) 0 e.1 ∈ goodOf x) != e.2) (fun e => e.1) (it_list (ev_var rfl)) (tg_pr 8 9) (by simp) (by omega) (fun e he mm => ?_) fun e he _ mm => ev_var rfl))) (by cases rows.filter fun e => decide (endF (T', goodOf x) 0 e.1 ∈ goodOf x) != e.2 <;> rfl)) (fun hb => ?_) (fun hb => ?_)
      · refine et_eq (et_test (ev_neB (ev_inT (ev_call (((T', goodOf x), 0, e.1) : Mc × Nat × List Nat) (ea_cons (ev_var rfl) (ea_cons ev_nat0 (ea_cons (ev_var rfl) ea_nil))) ⟨2, oX, oX.pos, (hrow e he).2.1⟩) (ev_snd (R := rSteps) (p := (T', goodOf x)) (ev_var rfl))) (ev_var rfl))) ?_
        cases decide (endF (T', goodOf x) 0 e.1 ∈ goodOf x) <;> cases e.2 <;> rfl
      · refine q_asgP (p := CntP m (T', goodOf x) (0, 0)) (R := rC) (ev_call ((m, (T', goodOf x), (0, 0)) : Mc × Mc × Pr) (ea_cons (ev_var rfl) (ea_cons (ev_var rfl) (ea_cons (ev_pr ev_nat0 ev_nat0) ea_nil))) ⟨2, om, oX, ⟨om.pos, oX.pos⟩, by decide⟩) fun r hr => ?_
        have hr : r.map (·.1) = tot m (T', goodOf x) (0, 0) := hr
        have hw : ∀ {S : Sl} {M : Mo}, S[6]? = some (.is rC r) → EvT none (tTest (tOp (fun x y H Q => y = .non ∧ Q (.bl (!decide (x = .non))) H) (tVar 6) (tC .non))) S M r.isSome := fun h => et_test (ev_notN (ev_var h))
        cases r with
        | none =>
          refine go_asg (eg_ev (ev_cat (R := rNat) (ys := []) (ev_var rfl) (ev_if (b := false) (hw rfl) (fun z => nomatch z) fun _ => ev_lst (xs := ([] : List Nat)) ea_nil (by simp)) (by simp; omega))) ?_
          rw [List.append_nil]
          refine go_turn l' ⟨by omega, hge', hsub, fun c hc ht => ?_⟩ (.same (.same (.same (.same (.no (.no (.no (.same (.same (.same .nil)))))))))) rfl
          by_cases e : c = x
          · subst e
            rw [ht] at hr
            cases hr
          · exact hall c (by omega) ht
        | some cv =>
          obtain ⟨c0, d0⟩ := cv
          have hc0 : tot m (T', goodOf x) (0, 0) = some c0 := hr.symm
          have hdue := due_le om oX (hX3.trans few.symm) hc0
          refine go_asg (eg_ev (ev_cat (R := rNat) (ys := [c0]) (ev_var rfl) (ev_if (b := true) (hw rfl) (fun _ => ev_lst (xs := [c0]) (ea_cons (ev_fst (R := rNat) (T := rInt) (p := (c0, d0)) (ev_some (R := rPr rNat rInt) (o := some (c0, d0)) (ev_var rfl) rfl)) ea_nil) (by simp)) fun z => nomatch z) (by simp; omega))) ?_
          refine go_turn (l' ++ [c0]) ⟨by simp; omega, fun v hv => ?_, fun v hv => List.mem_append_left _ (hsub v hv), fun c hc ht => ?_⟩ (.same (.same (.same (.same (.no (.no (.no (.same (.same (.same .nil)))))))))) rfl
          · rcases List.mem_append.mp hv with q | q
            · exact hge' v q
            · rw [List.mem_singleton.mp q]
              exact hdue
          · by_cases e : c = x
            · subst e
              rw [hc0] at ht
              rw [Option.some.inj ht]
              simp
            · exact List.mem_append_left _ (hall c (by omega) ht)
      · refine go_turn l' ⟨by omega, hge', hsub, fun c hc ht => ?_⟩ (.same (.same (.same (.same (.no (.no (.same (.same (.same (.same .nil)))))))))) rfl
        by_cases e : c = x
        · subst e
          rw [consistent (T', goodOf c) oX hX3 ht] at hb
          cases hb
        · exact hall c (by omega) ht
    · rintro l' ⟨hl', hge', hsub, hall⟩
      rw [List.length_range'] at hl' hall
      refine go_turn l' ⟨by omega, hge', fun T2 hT2 g hg ht => ?_⟩ (.same (.same (.same (.no (.same (.same (.same (.same (.same (.same .nil)))))))))) rfl
      rcases (mem_take_succ hT).mp hT2 with q | q
      · exact hsub _ (hmem T2 q g hg ht)
      · obtain ⟨c, hc, e⟩ := good_code hg
        subst q
        exact hall c hc (by rw [e]; exact ht)
  · rintro xs hp l ⟨hl, hge, hmem⟩
    rw [List.take_length] at hmem
    refine go_ret hq (ev_someI (ev_var rfl) ⟨hge, ?_⟩)
    have b3 : (bestM m).1.length = 3 := best.few.trans few
    have bt3 : T3 (bestM m).1 := ⟨b3, fun r hr => ⟨best.ok.ok.len r hr, fun g hg => by have := best.ok.ok.lt r hr g hg; rw [b3] at this; exact this⟩⟩
    refine hmem _ (hp.all _ bt3 ?_) (bestM m).2 (by have := best.ok.g; rw [b3] at this; exact this) best.tot
    have hn := best.num
    rw [b3] at hn
    exact walk_three (m := ((bestM m).1, [])) hn
end
end B
namespace B
open PySem L2
def Rv (te : TE) (σ : L2.St) (H : Hp) (v : V) : Prop := ∀ H1, Same H H1 → ∀ Q : VK, (∀ H2, Same H1 H2 → Q v H2) → te σ H1 Q
def RvL (te : TE) (σ : L2.St) (H : Hp) (xs : List V) : Prop := ∀ H1, Same H H1 → ∀ Q : VK, (∀ H2 p, Same H1 H2 → H2 p = some (.lst xs) → Q (.ref p) H2) → te σ H1 Q
section
variable {σ : L2.St} {H : Hp} {ta tb te : TE} {v : V} {K : PySem.W.Frag} {p : Addr} {xs zs : List V} {i j : Int}
theorem rv_var {k : Nat} (h : σ[k]? = some (some v)) : Rv (tVar k) σ H v := fun H1 _ Q q => ⟨v, h, q H1 (Same.refl _)⟩
theorem rv_c : Rv (tC v) σ H v := fun H1 _ Q q => q H1 (Same.refl _)
theorem rv_op {C : Int → Int → Prop} {g : Int → Int → V} (ha : Rv ta σ H (.int i)) (hb : Rv tb σ H (.int j)) (hc : C i j) : Rv (tOp (rI C g) ta tb) σ H (g i j) := fun H1 s Q q =>
  ha H1 s _ fun H2 s2 => hb H2 (s.trans s2) _ fun H3 s3 => ⟨i, j, rfl, rfl, hc, q H3 (s2.trans s3)⟩
theorem rv_op0 {g : Int → Int → V} (ha : Rv ta σ H (.int i)) (hb : Rv tb σ H (.int j)) : Rv (tOp (rI0 g) ta tb) σ H (g i j) := fun H1 s Q q =>
  ha H1 s _ fun H2 s2 => hb H2 (s.trans s2) _ fun H3 s3 => ⟨i, j, rfl, rfl, q H3 (s2.trans s3)⟩
theorem rv_ix (ha : Rv ta σ H (.ref p)) (hb : Rv tb σ H (.int i)) (hp : H p = some (.lst xs)) (hv : atI xs i = some v) : Rv (tOp (rIxL K) ta tb) σ H v := fun H1 s Q q =>
  ha H1 s _ fun H2 s2 => hb H2 (s.trans s2) _ fun H3 s3 => ⟨p, xs, i, v, rfl, rfl, .inl (.inl ((s.trans (s2.trans s3)) _ _ hp)), hv, q H3 (s2.trans s3)⟩
theorem rv_ixL (ha : RvL ta σ H xs) (hb : Rv tb σ H (.int i)) (hv : atI xs i = some v) : Rv (tOp (rIxL K) ta tb) σ H v := fun H1 s Q q =>
  ha H1 s _ fun H2 p s2 e => hb H2 (s.trans s2) _ fun H3 s3 => ⟨p, xs, i, v, rfl, rfl, .inl (.inl (s3 _ _ e)), hv, q H3 (s2.trans s3)⟩
theorem rv_int1 (ha : Rv ta σ H (.int i)) : Rv (tCB rInt1 (tCons ta tNil)) σ H (.int i) := fun H1 s Q q =>
  ha H1 s _ fun H2 s2 => .inl ⟨i, rfl, q H2 s2⟩
theorem rv_max2 (ha : Rv ta σ H (.int i)) (hb : Rv tb σ H (.int j)) : Rv (tCB rMax2 (tCons ta (tCons tb tNil))) σ H (.int (if j > i then j else i)) := fun H1 s Q q =>
  ha H1 s _ fun H2 s2 => hb H2 (s.trans s2) _ fun H3 s3 => ⟨i, j, rfl, q H3 (s2.trans s3)⟩
theorem rv_len (ha : Rv ta σ H (.ref p)) (hp : H p = some (.lst xs)) : Rv (tCB (rLenQ K) (tCons ta tNil)) σ H (.int xs.length) := fun H1 s Q q =>
  ha H1 s _ fun H2 s2 => ⟨p, xs, rfl, .inl (.inl (.inl ((s.trans s2) _ _ hp))), q H2 s2⟩
theorem rvl_lst1 (ha : Rv ta σ H v) : RvL (tLst (tCons ta tNil)) σ H [v] := fun H1 s Q q =>
  ha H1 s _ fun H2 s2 => ⟨by show 1 ≤ sizeLine; decide, fun p hp => q _ p (s2.trans (same_new hp)) upd_same⟩
theorem rvl_cat (ha : Rv ta σ H (.ref p)) (hp : H p = some (.lst xs)) (hb : RvL tb σ H zs) (hl : xs.length + zs.length ≤ sizeLine) : RvL (tOp rCat ta tb) σ H (xs ++ zs) := fun H1 s Q q =>
  ha H1 s _ fun H2 s2 => hb H2 (s.trans s2) _ fun H3 b s3 e => ⟨p, b, xs, zs, rfl, rfl, (s.trans (s2.trans s3)) _ _ hp, e, hl, fun p' hp' => q _ p' (s2.trans (s3.trans (same_new hp'))) upd_same⟩
end
section
variable {P : Program} {w : World} {A : Ad} {K : PySem.W.Frag} {mg : Str → Option Value} {base : Heap}
theorem ixN_of {n j : Nat} (hj : j < n) : ixN n (j : Int) = some j := by
  unfold ixN
  rw [if_pos (by omega), if_pos (by omega)]
  simp
abbrev sp__law_next : Sp := prmH (fun n : Nat => [.is rNat n]) (fun n => 1 ≤ n ∧ n ≤ 1000) rNat (fun n x => x < n)
theorem ok__law_next (T : Txt A K mg) : FnOk P w K mg base CX0 1 A.f__law_next A.d__law_next ps__law_next sp__law_next := by
  refine T.F__law_next.ok sc__law_next (fun vs H Q E h => prmH_len (fun _ => rfl) h) (fun cdv Ar outer s H vs Q E hr h => ⟨_, (pss_cons (ps_set (i := 2) sc__law_next.nd rfl (by first | exact Or.inl rfl | exact Or.inr rfl) (pe_ix (ix_listK (K := K) rfl) (pe_op op_cat (pe_ix (ix_listK (K := K) rfl) (pv 0) pe_int (fun _ _ => rfl)) (pe_lst (pa_cons pe_int pa_nil))) (pe_op op_mod (pe_callTy call_int1 (by rfl) T.n_int (by decide +kernel) (pa_cons (pe_ix (ix_listK (K := K) rfl) (pv 0) pe_int (fun _ _ => rfl)) pa_nil)) (pe_callB (call_max2 rfl) (by rfl) T.n_max (by decide +kernel) (pa_cons pe_int (pa_cons (pe_callB (call_len_seqK (K := K) rfl) (by rfl) T.n_len PySem.boot_len (pa_cons (pe_ix (ix_listK (K := K) rfl) (pv 0) pe_int (fun _ _ => rfl)) pa_nil)) pa_nil)))) (fun _ _ => rfl)))
      (pss_cons (ps_if (pt_cmpR op_ge (pv 2) (pe_op op_pow pe_int pe_int) (nomark _)) (pss_cons (ps_asg (pe_op op_fdiv (pv 2) (pv 1)) (pg_sub (pe_ix (ix_listK (K := K) rfl) (pv 0) pe_int (fun _ _ => rfl)) (pe_op op_mod (pe_callTy call_int1 (by rfl) T.n_int (by decide +kernel) (pa_cons (pe_ix (ix_listK (K := K) rfl) (pv 0) pe_int (fun _ _ => rfl)) pa_nil)) (pe_callB (call_len_seqK (K := K) rfl) (by rfl) T.n_len PySem.boot_len (pa_cons (pe_ix (ix_listK (K := K) rfl) (pv 0) pe_int (fun _ _ => rfl)) pa_nil))) set_list))
      (pss_one (ps_ret (pe_op op_mod (pe_callTy call_int1 (by rfl) T.n_int (by decide +kernel) (pa_cons (pv 2) pa_nil)) (pv 1))))) pss_nil)
      (pss_cons (ps_asg (pe_op op_mod (pe_callTy call_int1 (by rfl) T.n_int (by decide +kernel) (pa_cons (pe_op op_add (pe_op op_add (pe_op op_mul (pe_ix (ix_listK (K := K) rfl) (pv 0) pe_int (fun _ _ => rfl)) pe_int) (pe_op op_mul (pv 2) pe_int)) pe_int) pa_nil)) pe_int) (pg_sub (pv 0) pe_int set_list))
      (pss_cons (ps_asg (pe_op op_add (pe_ix (ix_listK (K := K) rfl) (pv 0) pe_int (fun _ _ => rfl)) pe_int) (pg_sub (pv 0) pe_int set_list))
      (pss_one (ps_ret (pe_op op_mod (pe_callTy call_int1 (by rfl) T.n_int (by decide +kernel) (pa_cons (pe_op op_fdiv (pe_ix (ix_listK (K := K) rfl) (pv 0) pe_int (fun _ _ => rfl)) pe_int) pa_nil)) (pv 1)))))))), go_startH h ?_⟩)
  rintro n h c H0 G0 ⟨hn1, hn2⟩ hq H G as σ Z
  obtain ⟨w0, e0, u0, ew0, r0⟩ := Z.sat.look (i := 0) rfl
  obtain ⟨w1, e1, u1, ew1, r1⟩ := Z.sat.look (i := 1) rfl
  subst ew0
  subst ew1
  have r0 : u0 = .ref h := r0
  have r1 : u1 = .int (n : Int) := r1
  subst r0
  subst r1
  have hlen : σ.length = 3 := Z.sat.len.symm
  obtain ⟨⟨hne, gh, gc, st, ix, cells, hix, hcl, eh, ec⟩, _, _, h0h, h0c⟩ := Z.rsHp
  have sz : (64 : Nat) ≤ sizeLine := by decide
  obtain ⟨k, hk, hkl, hkc⟩ : ∃ k : Nat, ix % (if (cells.length : Int) > 1 then (cells.length : Int) else 1) = (k : Int) ∧ k < cells.length + 1 ∧ (0 < cells.length → ix % (cells.length : Int) = (k : Int) ∧ k < cells.length) := by
    by_cases hc : (cells.length : Int) > 1
    · rw [if_pos hc]
      have h1 := Int.emod_nonneg ix (b := (cells.length : Int)) (by omega)
      have h2 := Int.emod_lt_of_pos ix (b := (cells.length : Int)) (by omega)
      exact ⟨(ix % (cells.length : Int)).toNat, by omega, by omega, fun _ => ⟨by omega, by omega⟩⟩
    · rw [if_neg hc]
      refine ⟨0, by omega, by omega, fun hp => ?_⟩
      have : (cells.length : Int) = 1 := by omega
      rw [this]
      exact ⟨by omega, hp⟩
  have hkx : (cells ++ [0])[k]? = some ((cells ++ [0])[k]'(by simp; omega)) := List.getElem?_eq_getElem _
  generalize (cells ++ [0])[k]'(by simp; omega) = cell at hkx
  have hkv : (cells.map V.int ++ [V.int 0])[k]? = some (V.int cell) := by
    have : cells.map V.int ++ [V.int 0] = (cells ++ [0]).map V.int := by simp
    rw [this, List.getElem?_map, hkx]
    rfl
  have rst : ∀ {σ' : L2.St} {H' : Hp} {st ix : Int}, σ'[0]? = some (some (.ref h)) → H' h = some (.lst [.int st, .ref c, .int ix]) → Rv (tOp (rIxL K) (tVar 0) (tC (.int 0))) σ' H' (.int st) := fun a b => rv_ix (rv_var a) rv_c b rfl
  have rcl : ∀ {σ' : L2.St} {H' : Hp} {st ix : Int}, σ'[0]? = some (some (.ref h)) → H' h = some (.lst [.int st, .ref c, .int ix]) → Rv (tOp (rIxL K) (tVar 0) (tC (.int 1))) σ' H' (.ref c) := fun a b => rv_ix (rv_var a) rv_c b rfl
  have rix : ∀ {σ' : L2.St} {H' : Hp} {st ix : Int}, σ'[0]? = some (some (.ref h)) → H' h = some (.lst [.int st, .ref c, .int ix]) → Rv (tOp (rIxL K) (tVar 0) (tC (.int 2))) σ' H' (.int ix) := fun a b => rv_ix (rv_var a) rv_c b rfl
  refine rv_ixL (v := .int cell) (rvl_cat (rcl e0 eh) ec (rvl_lst1 rv_c) (by simp; omega)) (rv_op (C := fun _ j => 0 < j) (rv_int1 (rix e0 eh)) (rv_max2 rv_c (rv_len (rcl e0 eh) ec)) (by rw [List.length_map]; split <;> omega)) (by rw [List.length_map, hk]; exact atI_nat hkv) H (Same.refl H) _ fun H1 s1 => ?_
  show (tSeq _ (tSeq _ (tSeq _ _))) _ (σ.set 2 (some (.int cell))) H1
  have f0 : (σ.set 2 (some (.int cell)))[0]? = some (some (.ref h)) := by rw [List.getElem?_set_ne (by decide)]; exact e0
  have f1 : (σ.set 2 (some (.int cell)))[1]? = some (some (.int (n : Int))) := by rw [List.getElem?_set_ne (by decide)]; exact e1
  have f2 : (σ.set 2 (some (.int cell)))[2]? = some (some (.int cell)) := List.getElem?_set_self (by omega)
  generalize σ.set 2 (some (.int cell)) = τ at f0 f1 f2
  have t0 : Same H0 H1 := Z.h.trans s1
  have tg : Same G H1 := Z.sub.trans s1
  have eh1 := s1 _ _ eh
  have ec1 := s1 _ _ ec
  have hmod : ∀ i : Int, 0 ≤ i % (n : Int) ∧ i % (n : Int) < n := fun i => ⟨Int.emod_nonneg i (by omega), Int.emod_lt_of_pos i (by omega)⟩
  refine rv_op0 (g := fun i j => .bl (decide (j ≤ i))) (i := cell) (rv_var f2) (rv_op (C := CPow) (g := fun i j => .int (i ^ j.toNat)) (i := 10) (j := 18) rv_c rv_c (show CPow 10 18 from ⟨by decide, by decide, by decide⟩)) H1 (Same.refl H1) _ fun H2 s2 => ?_
  refine ⟨_, rfl, ?_⟩
  have ten : (10 : Int) ^ (18 : Int).toNat = 1000000000000000000 := by decide
  by_cases hbig : (10 : Int) ^ (18 : Int).toNat ≤ cell
  · rw [decide_eq_true hbig]
    rw [ten] at hbig
    have hpos : 0 < cells.length := by
      refine Classical.byContradiction fun hz => ?_
      have : cells = [] := List.length_eq_zero_iff.mp (by omega)
      subst this
      have : k = 0 := by simp at hkl; exact hkl
      subst this
      simp at hkx
      omega
    obtain ⟨hk1, hk2⟩ := hkc hpos
    have eh2 := s2 _ _ eh1
    have ec2 := s2 _ _ ec1
    show (if true = true then _ else _)
    rw [if_pos rfl]
    refine rv_op (rv_var f2) (rv_var f1) ⟨by omega, by omega⟩ H2 (Same.refl H2) _ fun H3 s3 => ?_
    have eh3 := s3 _ _ eh2
    have ec3 := s3 _ _ ec2
    refine rcl f0 eh3 H3 (Same.refl H3) _ fun H4 s4 => rv_op (C := fun _ j => 0 < j) (rv_int1 (rix f0 (s4 _ _ eh3))) (rv_len (rcl f0 (s4 _ _ eh3)) (s4 _ _ ec3)) (by rw [List.length_map]; omega) H4 (Same.refl H4) _ fun H5 s5 => ?_
    have eh5 := s5 _ _ (s4 _ _ eh3)
    have ec5 := s5 _ _ (s4 _ _ ec3)
    refine ⟨c, cells.map V.int, (k : Int), k, rfl, by rw [List.length_map, hk1], ec5, by rw [List.length_map]; exact ixN_of hk2, ?_⟩
    have t5 := t0.trans (s2.trans (s3.trans (s4.trans s5)))
    have g5 := tg.trans (s2.trans (s3.trans (s4.trans s5)))
    refine rv_op (C := fun _ j => 0 < j) (rv_int1 (rv_var f2)) (rv_var f1) (by omega) _ (Same.refl _) _ fun H6 s6 => ?_
    refine hq _ H6 ⟨(cell % (n : Int)).toNat, G, by have := hmod cell; omega, (same_mut t5 h0c).trans s6, (same_mut g5 gc).trans s6, Z.bs, ⟨hne, gh, gc, st, ix, cells.set k (cell / n), hix, by rw [List.length_set]; exact hcl, s6 _ _ ?_, s6 _ _ ?_⟩, ?_⟩
    · rw [upd_ne hne]
      exact eh5
    · rw [upd_same, List.map_set]
    · show V.int _ = V.int _
      rw [Int.toNat_of_nonneg (hmod cell).1]
  · rw [decide_eq_false hbig]
    have eh2 := s2 _ _ eh1
    have ec2 := s2 _ _ ec1
    show (if false = true then _ else _)
    rw [if_neg Bool.false_ne_true]
    refine rv_op (C := fun _ j => 0 < j) (i := st * 48271 + cell * 69621 + 11) (j := 2147483647) (rv_int1 (rv_op0 (g := fun i j => .int (i + j)) (i := st * 48271 + cell * 69621) (j := 11) (rv_op0 (g := fun i j => .int (i + j)) (i := st * 48271) (j := cell * 69621) (rv_op (C := CMul) (g := fun i j => .int (i * j)) (i := st) (j := 48271) (rst f0 eh2) rv_c (Or.inr ⟨by decide, by decide⟩)) (rv_op (C := CMul) (g := fun i j => .int (i * j)) (i := cell) (j := 69621) (rv_var f2) rv_c (Or.inr ⟨by decide, by decide⟩))) rv_c)) rv_c (by decide) H2 (Same.refl H2) _ fun H3 s3 => ?_
    generalize (st * 48271 + cell * 69621 + 11) % 2147483647 = st1
    have eh3 := s3 _ _ eh2
    have ec3 := s3 _ _ ec2
    refine rv_var f0 H3 (Same.refl H3) _ fun H4 s4 => rv_c H4 (Same.refl H4) _ fun H5 s5 => ?_
    have eh5 := s5 _ _ (s4 _ _ eh3)
    have ec5 := s5 _ _ (s4 _ _ ec3)
    refine ⟨h, [.int st, .ref c, .int ix], 0, 0, rfl, rfl, eh5, rfl, ?_⟩
    have t5 := t0.trans (s2.trans (s3.trans (s4.trans s5)))
    have g5 := tg.trans (s2.trans (s3.trans (s4.trans s5)))
    have t6 := same_mut (p := h) (o := .lst [.int st1, .ref c, .int ix]) t5 h0h
    have g6 := same_mut (p := h) (o := .lst [.int st1, .ref c, .int ix]) g5 gh
    have eh6 : upd H5 h (.lst [.int st1, .ref c, .int ix]) h = some (.lst [.int st1, .ref c, .int ix]) := upd_same
    have ec6 : upd H5 h (.lst [.int st1, .ref c, .int ix]) c = some (.lst (cells.map V.int)) := by
      rw [upd_ne (Ne.symm hne)]
      exact ec5
    show (tSeq _ _) _ τ (upd H5 h (.lst [.int st1, .ref c, .int ix]))
    generalize upd H5 h (.lst [.int st1, .ref c, .int ix]) = H6 at t6 g6 eh6 ec6
    refine rv_op0 (rix f0 eh6) rv_c H6 (Same.refl H6) _ fun H7 s7 => ?_
    refine rv_var f0 H7 (Same.refl H7) _ fun H8 s8 => rv_c H8 (Same.refl H8) _ fun H9 s9 => ?_
    have s79 := s7.trans (s8.trans s9)
    refine ⟨h, [.int st1, .ref c, .int ix], 2, 2, rfl, rfl, s79 _ _ eh6, rfl, ?_⟩
    dsimp only
    have t9 := same_mut (p := h) (o := .lst [.int st1, .ref c, .int (ix + 1)]) (t6.trans s79) h0h
    have g9 := same_mut (p := h) (o := .lst [.int st1, .ref c, .int (ix + 1)]) (g6.trans s79) gh
    have eh9 : upd H9 h (.lst [.int st1, .ref c, .int (ix + 1)]) h = some (.lst [.int st1, .ref c, .int (ix + 1)]) := upd_same
    have ec9 : upd H9 h (.lst [.int st1, .ref c, .int (ix + 1)]) c = some (.lst (cells.map V.int)) := by
      rw [upd_ne (Ne.symm hne)]
      exact s79 _ _ ec6
    show tRet _ _ τ (upd H9 h (.lst [.int st1, .ref c, .int (ix + 1)]))
    generalize upd H9 h (.lst [.int st1, .ref c, .int (ix + 1)]) = H10 at t9 g9 eh9 ec9
    refine rv_op (C := fun _ j => 0 < j) (i := st1 / 7) (j := (n : Int)) (rv_int1 (rv_op (C := CDiv) (g := fun i j => .int (i / j)) (i := st1) (j := 7) (rst f0 eh9) rv_c ⟨by decide, by decide⟩)) (rv_var f1) (by omega) H10 (Same.refl H10) _ fun H11 s11 => ?_
    refine hq _ H11 ⟨((st1 / 7) % (n : Int)).toNat, G, by have := hmod (st1 / 7); omega, t9.trans s11, g9.trans s11, Z.bs, ⟨hne, gh, gc, st1, ix + 1, cells, by omega, hcl, s11 _ _ eh9, s11 _ _ ec9⟩, ?_⟩
    show V.int _ = V.int _
    rw [Int.toNat_of_nonneg (hmod _).1]
end
end B
namespace B
open PySem L2
section
variable {P : Program} {w : World} {A : Ad} {K : PySem.W.Frag} {mg : Str → Option Value} {base : Heap}
theorem unit_len (l : List Nat) : ((l.filter fun _ => true).map fun _ => ()).length = l.length := by
  rw [List.length_map, List.filter_eq_self.mpr (fun _ _ => rfl)]
abbrev sp__law_mix (K : PySem.W.Frag) : Sp := fun vs H Q _ => ∃ (a : Addr) (ns : List Int) (s : Int), vs = [.ref a, .int s] ∧ SqL K H a (ns.map V.int) ∧ ns.length ≤ 63 ∧
  ∀ (h c : Addr) (st : Int) (H' : Hp), h ≠ c → H' h = some (.lst [.int st, .ref c, .int 0]) → H' c = some (.lst (ns.map V.int)) → Q (.ref h) H'
theorem ok__law_mix (T : Txt A K mg) : FnOk P w K mg base CX0 1 A.f__law_mix A.d__law_mix ps__law_mix (sp__law_mix K) := by
  refine T.F__law_mix.ok sc__law_mix (fun vs H Q E h => by obtain ⟨a, ns, s, rfl, _⟩ := h; rfl) (fun cdv Ar outer s H vs Q E hr h => ⟨_, (pss_cons (ps_set (i := 2) sc__law_mix.nd rfl (by first | exact Or.inl rfl | exact Or.inr rfl) (pv 1))
      (pss_cons (ps_for PassesOwn.never rfl (pi_listK (K := K) rfl (pv 0)) (pg_name (i := 3) sc__law_mix.nd rfl (by first | exact Or.inl rfl | exact Or.inr rfl)) (pss_one (ps_set (i := 2) sc__law_mix.nd rfl (by first | exact Or.inl rfl | exact Or.inr rfl) (pe_op op_mod (pe_callTy call_int1 (by rfl) T.n_int (by decide +kernel) (pa_cons (pe_op op_add (pe_op op_add (pe_op op_mul (pv 2) pe_int) (pe_op op_mod (pe_callTy call_int1 (by rfl) T.n_int (by decide +kernel) (pa_cons (pv 3) pa_nil)) pe_int)) pe_int) pa_nil)) pe_int))))
      (pss_one (ps_ret (pe_lst (pa_cons (pv 2) (pa_cons (pe_callTy (call_list_ofK (K := K) rfl) (by rfl) T.n_list (by decide +kernel) (pa_cons (pv 0) pa_nil)) (pa_cons pe_int pa_nil)))))))), ?_⟩)
  obtain ⟨a, ns, s, rfl, hs, hl, q⟩ := h
  have sz : (63 : Nat) ≤ sizeLine := by decide
  refine ⟨.int s, rfl, ?_⟩
  dsimp only
  show (tSeq _ _) _ ((L2.start nm__law_mix [V.ref a, V.int s]).set 2 (some (.int s))) H
  generalize hσ : (L2.start nm__law_mix [V.ref a, V.int s]).set 2 (some (.int s)) = σ0
  have hσ : σ0 = [some (.ref a), some (.int s), some (.int s), none] := hσ.symm
  subst hσ
  refine ⟨.ref a, rfl, a, rfl, ⟨_, hs⟩, ?_⟩
  refine ⟨fun i m σ H' => m = ns.length - i ∧ i ≤ ns.length ∧ Same H H' ∧ ∃ (st : Int) (x : Option V), σ = [some (.ref a), some (.int s), some (.int st), x], ⟨ns.length, by omega, Nat.zero_le _, Same.refl H, s, none, rfl⟩, ?_⟩
  rintro i m σ H' ⟨rfl, hle, sm, st, x, rfl⟩
  have hs' : SqL K H' a (ns.map V.int) := by
    rcases hs with (e | ⟨od, e⟩) | k
    · exact .inl (.inl (sm _ _ e))
    · exact .inl (.inr ⟨od, sm _ _ e⟩)
    · exact .inr k
  by_cases hlt : i < ns.length
  · refine .inr ⟨⟨_, .int ns[i], hs', by rw [List.getElem?_map, List.getElem?_eq_getElem hlt]; rfl⟩, fun σ H'' => Same H H'' ∧ ∃ (st : Int) (x : Option V), σ = [some (.ref a), some (.int s), some (.int st), x], fun σ2 H2 ⟨h1, h2⟩ => ⟨ns.length - (i + 1), by omega, rfl, hlt, h1, h2⟩, fun v H'' hy => ?_⟩
    obtain ⟨rfl, hv⟩ := hy
    have ev := hv _ hs'
    rw [List.getElem?_map, List.getElem?_eq_getElem hlt] at ev
    cases ev
    show (tAsg _ (gName 2)) _ [some (.ref a), some (.int s), some (.int st), some (.int ns[i])] H''
    refine rv_op (C := fun _ j => 0 < j) (i := st * 48271 + ns[i] % 2147483629 + 1) (j := 2147483647) (rv_int1 (rv_op0 (g := fun i j => .int (i + j)) (i := st * 48271 + ns[i] % 2147483629) (j := 1) (rv_op0 (g := fun i j => .int (i + j)) (i := st * 48271) (j := ns[i] % 2147483629) (rv_op (C := CMul) (g := fun i j => .int (i * j)) (i := st) (j := 48271) (rv_var rfl) rv_c (Or.inr ⟨by decide, by decide⟩)) (rv_op (C := fun _ j => 0 < j) (g := fun i j => .int (i % j)) (i := ns[i]) (j := 2147483629) (rv_int1 (rv_var rfl)) rv_c (by decide))) rv_c)) rv_c (by decide) H'' (Same.refl H'') _ fun H3 s3 => ?_
    exact ⟨sm.trans s3, _, _, rfl⟩
  · refine .inl ⟨⟨_, hs', by rw [List.length_map]; omega⟩, ?_⟩
    dsimp only
    show (tRet _) _ [some (.ref a), some (.int s), some (.int st), x] H'
    refine ⟨.int st, rfl, .ref a, rfl, a, _, rfl, .inl hs', fun c hc => ?_⟩
    refine ⟨by show 3 ≤ sizeLine; decide, fun h hh => ?_⟩
    have hne : h ≠ c := fun e => by
      rw [e, upd_same] at hh
      cases hh
    exact q h c st _ hne upd_same (by rw [upd_ne (Ne.symm hne)]; exact upd_same)
abbrev sp__law_pick : Sp := prmH (fun xs : List Nat => [.is (rList rNat) xs]) (fun xs => 1 ≤ xs.length ∧ xs.length ≤ 1000) rNat (fun xs x => x ∈ xs)
theorem ok__law_pick (T : Txt A K mg) : FnOk P w K mg base CX0 2 A.f__law_pick A.d__law_pick ps__law_pick sp__law_pick := by
  refine T.F__law_pick.ok sc__law_pick (fun vs H Q E h => prmH_len (fun _ => rfl) h) (fun cdv Ar outer s H vs Q E hr h => ⟨_, (pss_one (ps_ret (pe_ix (ix_listK (K := K) rfl) (pv 1) (pe_call (ok__law_next T) (hr.mono (by decide)) (by rfl) T.g__law_next T.F__law_next.kp T.b__law_next .nil pass0 (pa_cons (pv 0) (pa_cons (pe_callB (call_len_seqK (K := K) rfl) (by rfl) T.n_len PySem.boot_len (pa_cons (pv 1) pa_nil)) pa_nil))) (fun _ _ => rfl)))), go_startH h ?_⟩)
  rintro xs h c H0 G0 ⟨hn1, hn2⟩ hq
  exact go_retH hq (ev_ixLS (ev_var rfl) (ev_callH xs.length rfl (ea_cons (ev_lenL (R := rNat) (ev_var rfl)) ea_nil) ⟨hn1, hn2⟩))
abbrev sp__law_parts : Sp := prmH (fun L : Nat => [.is rNat L]) (fun L => 1 ≤ L ∧ L ≤ 3) rPm (fun L m => OkW L m)
theorem ok__law_parts (T : Txt A K mg) : FnOk P w K mg base CX0 3 A.f__law_parts A.d__law_parts ps__law_parts sp__law_parts := by
  refine T.F__law_parts.ok sc__law_parts (fun vs H Q E h => prmH_len (fun _ => rfl) h) (fun cdv Ar outer s H vs Q E hr h => ⟨_, (pss_cons (ps_asg (pe_tup (pa_cons (pe_op op_add pe_int (pe_call (ok__law_next T) (hr.mono (by decide)) (by rfl) T.g__law_next T.F__law_next.kp T.b__law_next .nil pass0 (pa_cons (pv 0) (pa_cons (pe_call (ok__law_pick T) (hr.mono (by decide)) (by rfl) T.g__law_pick T.F__law_pick.kp T.b__law_pick .nil pass0 (pa_cons (pv 0) (pa_cons (pe_lst (pa_cons pe_int (pa_cons pe_int pa_nil))) pa_nil))) pa_nil)))) (pa_cons (pe_call (ok__law_next T) (hr.mono (by decide)) (by rfl) T.g__law_next T.F__law_next.kp T.b__law_next .nil pass0 (pa_cons (pv 0) (pa_cons pe_int pa_nil))) pa_nil))) (pg_tupK (K := K) rfl (by rfl) (pgs_cons (pg_name (i := 2) sc__law_parts.nd rfl (by first | exact Or.inl rfl | exact Or.inr rfl)) (pgs_cons (pg_name (i := 3) sc__law_parts.nd rfl (by first | exact Or.inl rfl | exact Or.inr rfl)) pgs_nil))))
      (pss_cons (ps_par (i := 4) (j := 5) (by rfl) sc__law_parts.nd rfl rfl (by decide) rfl rfl (pa_cons (pe_lst pa_nil) (pa_cons (pe_lst pa_nil) pa_nil)) (by rfl))
      (pss_cons (ps_for PassesOwn.never rfl (pi_range1 (by rfl) T.n_range (pa_cons (pv 2) pa_nil)) (pg_name (i := 6) sc__law_parts.nd rfl (by first | exact Or.inl rfl | exact Or.inr rfl)) (pss_cons (ps_set (i := 7) sc__law_parts.nd rfl (by first | exact Or.inl rfl | exact Or.inr rfl) (pe_ifExp (PW.pt (pw_and (pt_cmpR op_lt (pv 6) (pv 3) (nomark _)) (pw_and1 (pt_cmpR op_lt (pe_op op_add (pv 6) pe_int) (pv 2) (nomark _))))) (pe_op op_add (pv 6) pe_int) (pe_call (ok__law_pick T) (hr.mono (by decide)) (by rfl) T.g__law_pick T.F__law_pick.kp T.b__law_pick .nil pass0 (pa_cons (pv 0) (pa_cons (pe_lst (pa_cons pe_int (pa_cons (pe_callB (call_min2 rfl) (by rfl) T.n_min (by decide +kernel) (pa_cons (pv 3) (pa_cons (pe_op op_sub (pv 2) pe_int) pa_nil))) pa_nil))) pa_nil)))))
      (pss_cons (ps_expr (pe_bm PySem.F.plainAttrs_list PySem.F.slot_list_append PySem.F.type_list_append mt_append (pv 4) (pa_cons (pe_callTy (call_tuple_ofK (K := K) rfl) (by rfl) T.n_tuple (by decide +kernel) (pa_cons (pe_lc (own := [("_law_letter", 8)]) (g := gName 8) (by rfl) sc__law_parts.nd (pi_range1 (by rfl) T.n_range (pa_cons (pv 1) pa_nil)) (blkOk_by (own := [("_law_letter", 8)]) (N := nm__law_parts) (sc := defScope st__law_parts) (by decide +kernel)) (fun _ _ _ _ _ => (pg_name (i := 8) sc__law_parts.nd rfl (by first | exact Or.inl rfl | exact Or.inr rfl))) (fun _ _ _ _ _ => pts_nil) (fun _ _ _ _ _ => (pe_op op_add (pv 7) (pe_call (ok__law_next T) (hr.mono (by decide)) (by rfl) T.g__law_next T.F__law_next.kp T.b__law_next .nil pass0 (pa_cons (pv 0) (pa_cons (pe_op op_sub (pv 2) (pv 7)) pa_nil)))))) pa_nil)) pa_nil)))
      (pss_one (ps_if (pt_cmpR op_eq (pe_call (ok__law_next T) (hr.mono (by decide)) (by rfl) T.g__law_next T.F__law_next.kp T.b__law_next .nil pass0 (pa_cons (pv 0) (pa_cons pe_int pa_nil))) pe_int (nomark _)) (pss_one (ps_expr (pe_bm PySem.F.plainAttrs_list PySem.F.slot_list_append PySem.F.type_list_append mt_append (pv 5) (pa_cons (pv 6) pa_nil)))) pss_nil)))))
      (pss_one (ps_ret (pe_tup (pa_cons (pe_callTy (call_tuple_ofK (K := K) rfl) (by rfl) T.n_tuple (by decide +kernel) (pa_cons (pv 4) pa_nil)) (pa_cons (pe_callTy (call_tuple_ofK (K := K) rfl) (by rfl) T.n_tuple (by decide +kernel) (pa_cons (pv 5) pa_nil)) pa_nil)))))))), go_startH h ?_⟩)
  rintro L h c H0 G0 ⟨hL1, hL3⟩ hq
  refine q_parN (n := 2) (S := [.is (rAt h) (), .is rNat L, .no, .no, .no, .no, .no, .no, .no]) (ss := [.is (rSome rNat fun n => 1 ≤ n ∧ n ≤ 8) (), .is (rSome rNat fun n => n < 5) ()]) [2, 3] rfl rfl (by decide)
    (egs_cons (eg_ev (ev_addS ev_nat1 (ev_callHS (RA := rNat) (q := fun n => n < 8) rfl (ev_callH [3, 8] rfl (ea_cons (ev_lst (xs := [3, 8]) (ea_cons (ev_nat (n := 3)) (ea_cons (ev_nat (n := 8)) ea_nil)) (by decide)) ea_nil) ⟨by decide, by decide⟩) (fun a ha => by
      simp at ha
      omega) fun a x ha hx => by
      simp at ha
      omega) fun y hy => by omega))
    (egs_cons (eg_ev (ev_callH 5 rfl (ea_cons (ev_nat (n := 5)) ea_nil) ⟨by decide, by decide⟩)) egs_nil)) ?_
  refine go_openS (i := 2) rfl fun many hm => go_openS (i := 3) rfl fun early he => ?_
  refine q_par (eg_own (eo_nil (R := rSome rRow fun r => r.length = L ∧ ∀ g ∈ r, g < many))) (eg_own (eo_nil (R := rNat))) ?_
  refine q_for (σt := Nat × List Nat) (fun s => [.is (rAt h) (), .is rNat L, .is rNat many, .is rNat early, .own 0, .own 1, .no, .no, .no]) (fun s => [some (oList (rSome rRow fun r => r.length = L ∧ ∀ g ∈ r, g < many) (List.replicate s.1 ())), some (oList rNat s.2)]) (fun i s => s.1 = i ∧ OkG i s.2) (0, [])
    (it_range1 (ev_var rfl) (by omega)) (tg_name 6) ⟨rfl, ⟨.nil, fun x hx => by cases hx⟩⟩ (Wk.refl _) rfl ?_ ?_
  · rintro G1 bs i ⟨k, g⟩ x hx ⟨hk, hg⟩
    obtain ⟨hin, ex⟩ := List.getElem?_eq_some_iff.mp hx
    rw [List.getElem_range'] at ex
    rw [List.length_range'] at hin
    have ex : x = i := by omega
    subst ex
    dsimp only at hk hg ⊢
    subst hk
    have gl : g.length ≤ k := by
      have h1 := (nodup_le (l := g) (all := List.range k) (List.Pairwise.imp (fun {a b} (h : a < b) => Nat.ne_of_lt h) hg.inc) (fun t ht => List.mem_range.mpr (hg.lt t ht)) (Nat.le_refl _))
      simpa using h1
    refine q_asgP (p := fun n => n < many) (R := rNat) (ev_if (b := decide (k < early) && decide (k + 1 < many)) (et_and (et_test (ev_ltN (ev_var rfl) (ev_var rfl))) fun _ => et_test (ev_ltN (ev_addN (ev_var rfl) ev_nat1) (ev_var rfl))) (fun hb => ev_someI (ev_addN (ev_var rfl) ev_nat1) (by simp at hb; omega)) fun _ => ev_imp (ev_callH [0, min early (many - 1)] rfl (ea_cons (ev_lst (xs := [0, min early (many - 1)]) (ea_cons ev_nat0 (ea_cons (ev_min2 (ev_var rfl) (ev_subN (ev_var rfl) ev_nat1 (by omega))) ea_nil)) (by simp)) ea_nil) ⟨by simp, by simp⟩) fun z hz => by
      simp at hz
      omega) fun low hlow => ?_
    refine q_app (x := ()) rfl rfl (by rw [List.length_replicate]; omega) (ev_imp (ev_tupS (R := rNat) (p := fun g => g < many) (us := (((List.range' 0 L).filter fun _ => true).map fun _ => ())) (ev_tupOf (ev_lc (T := rSome rNat fun g => g < many) (R := rNat) (fun _ => true) (fun _ => ()) (it_range1 (ev_var rfl) (by omega)) (tg_name 8) (by simp) (by rw [List.length_range']; omega) (fun _ _ mm => et_yes) fun z _ _ mm =>
      ev_addS (ev_var rfl) (ev_callH (many - low) rfl (ea_cons (ev_subN (ev_var rfl) (ev_var rfl) (by omega)) ea_nil) ⟨by omega, by omega⟩) fun y hy => by omega))) fun r hr => ⟨by rw [hr.1, unit_len, List.length_range'], hr.2⟩) ?_
    have hadd : List.replicate k () ++ [()] = List.replicate (k + 1) () := by rw [List.replicate_succ']
    have hg1 : OkG (k + 1) g := ⟨hg.inc, fun x hx => by have := hg.lt x hx; omega⟩
    refine go_ifP (ep_eqS (ev_callH 2 rfl (ea_cons ev_nat2 ea_nil) ⟨by decide, by decide⟩) ev_nat0) (fun _ => ?_) (fun _ => ?_)
    · refine go_app (x := k) rfl rfl (by omega) (ev_var rfl) ?_
      refine go_turn (k + 1, g ++ [k]) ⟨rfl, ⟨?_, fun x hx => ?_⟩⟩ (.same (.same (.same (.same (.same (.same (.no (.no (.same .nil))))))))) (by rw [← hadd]; rfl)
      · refine List.pairwise_append.mpr ⟨hg.inc, List.pairwise_singleton _ _, fun a ha b hb => ?_⟩
        rw [List.mem_singleton.mp hb]
        exact hg.lt a ha
      · rcases List.mem_append.mp hx with hx | hx
        · exact hg1.lt x hx
        · rw [List.mem_singleton.mp hx]
          omega
    · exact go_turn (k + 1, g) ⟨rfl, hg1⟩ (.same (.same (.same (.same (.same (.same (.no (.no (.same .nil))))))))) (by rw [← hadd]; rfl)
  · rintro ⟨k, g⟩ ⟨hk, hg⟩
    dsimp only at hk hg ⊢
    rw [List.length_range'] at hk hg
    subst hk
    refine go_retH hq (ev_rel (ev_pr (ev_tupOfO (i := 4) rfl rfl) (ev_tupOfO (i := 5) rfl rfl)) fun G v r => ?_)
    obtain ⟨a, u, w, ev, ga, r1, r2⟩ := r
    obtain ⟨xs, h1, h2, h3⟩ := tup_some r1
    rw [List.length_replicate] at h1
    refine ⟨(xs, g), ⟨⟨?_, ?_, fun r hr => (h2 r hr).1, fun r hr x hx => ?_⟩, hL1, hL3, ?_⟩, a, u, w, ev, ga, h3, r2⟩
    · show 1 ≤ xs.length
      omega
    · show xs.length ≤ 8
      omega
    · have := (h2 r hr).2 x hx
      show x < xs.length
      omega
    · show OkG xs.length g
      rw [h1]
      exact hg
abbrev sp__law_long : Sp := prmH (fun m : Mc => [.is rPm m]) (fun m => OkM 2 m) (rList (rPr rRow rBool)) (fun m l => l.length ≤ 12 ∧ ∀ e ∈ l, e.1.length = 30 ∧ (∀ x ∈ e.1, x < 2) ∧ e.2 = decide (endF m 0 e.1 ∈ m.2))
theorem ok__law_long (T : Txt A K mg) : FnOk P w K mg base CX0 2 A.f__law_long A.d__law_long ps__law_long sp__law_long := by
  refine T.F__law_long.ok sc__law_long (fun vs H Q E h => prmH_len (fun _ => rfl) h) (fun cdv Ar outer s H vs Q E hr h => ⟨_, (pss_cons (ps_set (i := 2) sc__law_long.nd rfl (by first | exact Or.inl rfl | exact Or.inr rfl) (pe_lst pa_nil))
      (pss_cons (ps_for PassesOwn.never rfl (pi_range1 (by rfl) T.n_range (pa_cons pe_int pa_nil)) (pg_name (i := 3) sc__law_long.nd rfl (by first | exact Or.inl rfl | exact Or.inr rfl)) (pss_cons (ps_set (i := 4) sc__law_long.nd rfl (by first | exact Or.inl rfl | exact Or.inr rfl) (pe_callTy (call_tuple_ofK (K := K) rfl) (by rfl) T.n_tuple (by decide +kernel) (pa_cons (pe_lc (own := [("_law_letter", 5)]) (g := gName 5) (by rfl) sc__law_long.nd (pi_range1 (by rfl) T.n_range (pa_cons pe_int pa_nil)) (blkOk_by (own := [("_law_letter", 5)]) (N := nm__law_long) (sc := defScope st__law_long) (by decide +kernel)) (fun _ _ _ _ _ => (pg_name (i := 5) sc__law_long.nd rfl (by first | exact Or.inl rfl | exact Or.inr rfl))) (fun _ _ _ _ _ => pts_nil) (fun _ _ _ _ _ => (pe_call (ok__law_next T) (hr.mono (by decide)) (by rfl) T.g__law_next T.F__law_next.kp T.b__law_next .nil pass0 (pa_cons (pv 0) (pa_cons pe_int pa_nil))))) pa_nil)))
      (pss_one (ps_expr (pe_bm PySem.F.plainAttrs_list PySem.F.slot_list_append PySem.F.type_list_append mt_append (pv 2) (pa_cons (pe_tup (pa_cons (pv 4) (pa_cons (pe_cmpR (op_in_seqK (K := K) rfl) (pe_call (ok__law_end T) (hr.mono (by decide)) (by rfl) T.g__law_end T.F__law_end.kp T.b__law_end .nil pass0 (pa_cons (pv 1) (pa_cons pe_int (pa_cons (pv 4) pa_nil)))) (pe_ix (ix_tupK (K := K) rfl) (pv 1) pe_int (fun _ _ => rfl)) (by rfl)) pa_nil))) pa_nil))))))
      (pss_one (ps_ret (pv 2))))), go_startH h ?_⟩)
  rintro m h c H0 G0 om hq
  refine q_asg (eg_own (eo_nil (R := rPr rRow rBool))) ?_
  refine q_for (σt := List (List Nat × Bool)) (fun s => [.is (rAt h) (), .is rPm m, .own 0, .no, .no, .no]) (fun s => [some (oList (rPr rRow rBool) s)]) (fun i s => s.length = i ∧ ∀ e ∈ s, e.1.length = 30 ∧ (∀ x ∈ e.1, x < 2) ∧ e.2 = decide (endF m 0 e.1 ∈ m.2)) []
    (it_range1 (ev_nat (n := 12)) (by omega)) (tg_name 3) ⟨rfl, (fun e he => (by cases he))⟩ (Wk.refl _) rfl ?_ ?_
  · rintro G1 bs i l x hx ⟨hl, hrow⟩
    obtain ⟨hin, ex⟩ := List.getElem?_eq_some_iff.mp hx
    rw [List.length_range'] at hin
    refine q_asgP (p := fun r : List Nat => r.length = 30 ∧ ∀ x ∈ r, x < 2) (R := rRow) (ev_imp (ev_tupS (R := rNat) (p := fun g => g < 2) (us := (((List.range' 0 30).filter fun _ => true).map fun _ => ())) (ev_tupOf (ev_lc (T := rSome rNat fun g => g < 2) (R := rNat) (fun _ => true) (fun _ => ()) (it_range1 (ev_nat (n := 30)) (by omega)) (tg_name 5) (by simp) (by rw [List.length_range']; omega) (fun _ _ mm => et_yes) fun z _ _ mm =>
      ev_callH 2 rfl (ea_cons ev_nat2 ea_nil) ⟨by decide, by decide⟩))) fun r hr => ⟨by rw [hr.1, unit_len, List.length_range'], hr.2⟩) fun r hr => ?_
    refine go_app (x := (r, decide (endF m 0 r ∈ m.2))) rfl rfl (by omega) (ev_pr (ev_var rfl) (ev_inT (ev_call ((m, 0, r) : Mc × Nat × List Nat) (ea_cons (ev_var rfl) (ea_cons ev_nat0 (ea_cons (ev_var rfl) ea_nil))) ⟨2, om, om.pos, hr.2⟩) (ev_snd (R := rSteps) (p := m) (ev_var rfl)))) ?_
    refine go_turn (l ++ [(r, decide (endF m 0 r ∈ m.2))]) ⟨by rw [List.length_append, hl]; rfl, fun e he => ?_⟩ (.same (.same (.same (.no (.no (.same .nil)))))) rfl
    rcases List.mem_append.mp he with he | he
    · exact hrow e he
    · rw [List.mem_singleton.mp he]
      exact ⟨hr.1, hr.2, rfl⟩
  · rintro l ⟨hl, hrow⟩
    rw [List.length_range'] at hl
    refine go_frzL (i := 2) rfl rfl (go_retH hq (ev_someI (ev_var rfl) ⟨by omega, hrow⟩))
end
end B
namespace B
open PySem L2
theorem sat_no {as : List Addr} {G : Hp} (σ : L2.St) : Sat as G (List.replicate σ.length .no) σ := ⟨by simp, fun i s v h1 h2 => by
  rw [List.getElem?_replicate] at h1
  split at h1
  · cases h1
    trivial
  · cases h1⟩
section
variable {P : Program} {w : World} {A : Ad} {K : PySem.W.Frag} {mg : Str → Option Value} {base : Heap}
abbrev spLaw (K : PySem.W.Frag) : Sp := fun vs H Q _ => ∃ (a : Addr) (ns : List Int), vs = [.ref a] ∧ SqL K H a (ns.map V.int) ∧ ns.length ≤ 63 ∧ ∀ H', Q (.bl true) H'
theorem ok_law (T : Txt A K mg) : FnOk P w K mg base CX0 10 A.f_law A.d_law ps_law (spLaw K) := by
  refine T.F_law.ok sc_law (fun vs H Q E h => by obtain ⟨a, ns, rfl, _⟩ := h; rfl) (fun cdv Ar outer s H vs Q E hr h => ⟨_, (pss_cons (ps_set (i := 1) sc_law.nd rfl (by first | exact Or.inl rfl | exact Or.inr rfl) (pe_call (ok__law_mix T) (hr.mono (by decide)) (by rfl) T.g__law_mix T.F__law_mix.kp T.b__law_mix .nil pass0 (pa_cons (pv 0) (pa_cons pe_int pa_nil))))
      (pss_cons (ps_for PassesOwn.never rfl (pi_range1 (by rfl) T.n_range (pa_cons pe_int pa_nil)) (pg_name (i := 2) sc_law.nd rfl (by first | exact Or.inl rfl | exact Or.inr rfl)) (pss_cons (ps_set (i := 3) sc_law.nd rfl (by first | exact Or.inl rfl | exact Or.inr rfl) (pe_op op_add pe_int (pe_call (ok__law_next T) (hr.mono (by decide)) (by rfl) T.g__law_next T.F__law_next.kp T.b__law_next .nil pass0 (pa_cons (pv 1) (pa_cons pe_int pa_nil)))))
      (pss_cons (ps_set (i := 4) sc_law.nd rfl (by first | exact Or.inl rfl | exact Or.inr rfl) (pe_call (ok__law_parts T) (hr.mono (by decide)) (by rfl) T.g__law_parts T.F__law_parts.kp T.b__law_parts .nil pass0 (pa_cons (pv 1) (pa_cons (pv 3) pa_nil))))
      (pss_cons (ps_par (i := 5) (j := 6) (by rfl) sc_law.nd rfl rfl (by decide) rfl rfl (pa_cons (pe_make T.mkM (ok_Machine_init T) (hr.mono (by decide)) (by rfl) T.mgM T.b_Machine_init .nil pass0 (pa_cons (pe_ix (ix_tupK (K := K) rfl) (pv 4) pe_int (fun _ _ => rfl)) (pa_cons (pe_ix (ix_tupK (K := K) rfl) (pv 4) pe_int (fun _ _ => rfl)) pa_nil))) (pa_cons (pe_call (ok__law_wrong T) (hr.mono (by decide)) (by rfl) T.g__law_wrong T.F__law_wrong.kp T.b__law_wrong .nil pass0 (pa_cons (pv 4) pa_nil)) pa_nil)) (by rfl))
      (pss_cons (ps_par (i := 7) (j := 8) (by rfl) sc_law.nd rfl rfl (by decide) rfl rfl (pa_cons (pe_call (ok_best_lean T) (hr.mono (by decide)) (by rfl) T.g_best_lean T.F_best_lean.kp T.b_best_lean .nil pass0 (pa_cons (pv 5) pa_nil)) (pa_cons (pe_call (ok_fewest T) (hr.mono (by decide)) (by rfl) T.g_fewest T.F_fewest.kp T.b_fewest .nil pass0 (pa_cons (pv 5) pa_nil)) pa_nil)) (by rfl))
      (pss_cons (ps_if (PW.pt (pw_or (pt_not (pt_val (pe_call (ok__law_alike T) (hr.mono (by decide)) (by rfl) T.g__law_alike T.F__law_alike.kp T.b__law_alike .nil pass0 (pa_cons (pe_call (ok_least_wrong T) (hr.mono (by decide)) (by rfl) T.g_least_wrong T.F_least_wrong.kp T.b_least_wrong .nil pass0 (pa_cons (pv 5) pa_nil)) (pa_cons (pv 6) pa_nil))))) (pw_or (pt_not (pt_val (pe_callB (call_isiW (K := K) rfl) (by rfl) T.n_isinstance (by decide +kernel) (pa_cons (pv 7) (pa_cons (pe_glob (v := .ref A.M) (by rfl) T.mgM rfl) pa_nil))))) (pw_or1 (pt_cmpR op_ne (pe_lenOwn (by rfl) T.n_len T.ln T.clM (ok_Machine_len T) (hr.mono (by decide)) T.b_Machine_len pass0 (pv 7)) (pv 8) (nomark _)))))) (pss_one (ps_ret pe_bl)) pss_nil)
      (pss_cons (ps_set (i := 9) sc_law.nd rfl (by first | exact Or.inl rfl | exact Or.inr rfl) (pe_call (ok__law_unlike T) (hr.mono (by decide)) (by rfl) T.g__law_unlike T.F__law_unlike.kp T.b__law_unlike .nil pass0 (pa_cons (pv 4) (pa_cons (pe_tup (pa_cons (pe_prop (pv 7) T.clM T.pr_steps (ok_Machine_steps T) (hr.mono (by decide)) T.b_Machine_steps .nil pass0 rfl) (pa_cons (pe_prop (pv 7) T.clM T.pr_good (ok_Machine_good T) (hr.mono (by decide)) T.b_Machine_good .nil pass0 rfl) pa_nil))) (pa_cons (pe_tup (pa_cons pe_int (pa_cons pe_int pa_nil))) pa_nil)))))
      (pss_cons (ps_if (PW.pt (pw_or (pt_cmpR op_isN (pv 9) pe_non (nomark _)) (pw_or1 (pt_cmpR op_ne (pe_ix (ix_tupK (K := K) rfl) (pv 9) pe_int (fun _ _ => rfl)) (pv 6) (nomark _))))) (pss_one (ps_ret pe_bl)) pss_nil)
      (pss_cons (ps_if (PW.pt (pw_and (pt_cmpR op_lt (pv 8) pe_int (nomark _)) (pw_and1 (pt_cmpR op_lt (pv 3) pe_int (nomark _))))) (pss_one (ps_for PassesOwn.never rfl (pi_listK (K := K) rfl (pe_call (ok__law_all T) (hr.mono (by decide)) (by rfl) T.g__law_all T.F__law_all.kp T.b__law_all .nil pass0 (pa_cons (pv 3) (pa_cons (pv 8) pa_nil)))) (pg_name (i := 10) sc_law.nd rfl (by first | exact Or.inl rfl | exact Or.inr rfl)) (pss_cons (ps_set (i := 9) sc_law.nd rfl (by first | exact Or.inl rfl | exact Or.inr rfl) (pe_call (ok__law_unlike T) (hr.mono (by decide)) (by rfl) T.g__law_unlike T.F__law_unlike.kp T.b__law_unlike .nil pass0 (pa_cons (pv 4) (pa_cons (pv 10) (pa_cons (pe_tup (pa_cons pe_int (pa_cons pe_int pa_nil))) pa_nil)))))
      (pss_one (ps_if (PW.pt (pw_and (pt_cmpR op_notN (pv 9) pe_non (nomark _)) (pw_and1 (pt_cmpR op_lt (pe_ix (ix_tupK (K := K) rfl) (pv 9) pe_int (fun _ _ => rfl)) (pv 6) (nomark _))))) (pss_one (ps_ret pe_bl)) pss_nil))))) pss_nil)
      (pss_one (ps_if (PW.pt (pw_and (pt_cmpR op_eq (pv 8) pe_int (nomark _)) (pw_and (pt_cmpR op_eq (pv 3) pe_int (nomark _)) (pw_and1 (pt_cmpR op_eq (pe_call (ok__law_next T) (hr.mono (by decide)) (by rfl) T.g__law_next T.F__law_next.kp T.b__law_next .nil pass0 (pa_cons (pv 1) (pa_cons pe_int pa_nil))) pe_int (nomark _)))))) (pss_one (ps_if (pt_cmpR op_ne (pe_callB (cr_minK (K := K) rfl rfl) (by rfl) T.n_min (by decide +kernel) (pa_cons (pe_call (ok__law_wrongs T) (hr.mono (by decide)) (by rfl) T.g__law_wrongs T.F__law_wrongs.kp T.b__law_wrongs .nil pass0 (pa_cons (pv 4) (pa_cons (pe_call (ok__law_long T) (hr.mono (by decide)) (by rfl) T.g__law_long T.F__law_long.kp T.b__law_long .nil pass0 (pa_cons (pv 1) (pa_cons (pv 4) pa_nil))) pa_nil))) pa_nil)) (pv 6) (nomark _)) (pss_one (ps_ret pe_bl)) pss_nil)) pss_nil)))))))))))
      (pss_one (ps_ret pe_bl)))), ?_⟩)
  obtain ⟨a, ns, rfl, hs, hl, q⟩ := h
  refine ⟨.ref a, rfl, a, ns, 23, rfl, hs, hl, fun h c st H' hne eh ec => ?_⟩
  dsimp only
  show (tSeq _ _) _ ((L2.start nm_law [V.ref a]).set 1 (some (.ref h))) H'
  suffices hgo : Go (some (h, c)) (fun _ => none) (fun _ => none) (tSeq _ _ _) [.no, .is (rAt h) (), .no, .no, .no, .no, .no, .no, .no, .no, .no] [] from hgo H' (fun _ => none) [] _
    ⟨(fun b o e => (by cases e)), Same.refl _, (fun b o e => (by cases e)), fun b h1 h2 => absurd h1 h2, rfl, List.nodup_nil, (fun b hb => (List.not_mem_nil hb).elim), (fun b hb => (List.not_mem_nil hb).elim), (fun j b O hb => (by simp at hb)), (fun p q e => (by
      cases e
      exact ⟨hne, by simp, by simp, rfl, rfl, rfl, rfl, st, 0, ns, Int.le_refl _, hl, eh, ec⟩)),
      Sat.set (S := List.replicate 11 .no) (i := 1) (s := .is (rAt h) ()) (sat_no (L2.start nm_law [V.ref a])) ⟨.ref h, rfl, rfl⟩⟩
  refine q_for (σt := Unit) (fun _ => [.no, .is (rAt h) (), .no, .no, .no, .no, .no, .no, .no, .no, .no]) (fun _ => []) (fun _ _ => True) () (it_range1 ev_nat2 (by omega)) (tg_name 2) trivial (Wk.refl _) rfl ?_ ?_
  · rintro G1 bs i _ x hx _
    refine q_asgP (p := fun L => 1 ≤ L ∧ L ≤ 3) (R := rNat) (ev_addS ev_nat1 (ev_callH 3 rfl (ea_cons (ev_nat (n := 3)) ea_nil) ⟨by decide, by decide⟩) fun y hy => by omega) fun L hL => ?_
    refine q_asgP (p := fun m => OkW L m) (R := rPm) (ev_callH L rfl (ea_cons (ev_var rfl) ea_nil) hL) fun m hm => ?_
    obtain ⟨om, l1, l3, hg⟩ := id hm
    have best := best_p om l1 l3
    have o1 : Ok1w m := ⟨L, om, l1, l3⟩
    have hdue : dueM m = dueF L m := by
      unfold dueM
      rw [lof_eq om]
    refine q_par (eg_ev (mach_of (ev_make m (ea_cons (ev_fst (R := rSteps) (T := rRow) (ev_var rfl)) (ea_cons (ev_snd (R := rSteps) (T := rRow) (ev_var rfl)) ea_nil)) ⟨L, hm⟩))) (eg_ev (ev_eq (ev_call m (ea_cons (ev_var rfl) ea_nil) o1) hdue)) ?_
    refine q_par (eg_ev (ev_call m (ea_cons (ev_var rfl) ea_nil) o1)) (eg_ev (ev_call m (ea_cons (ev_var rfl) ea_nil) o1)) ?_
    generalize bestM m = X at best ⊢
    obtain ⟨Xs, Xg⟩ := X
    refine q_when (b := false) (et_eq (et_or (et_not (et_B (ev_call ((dueF L m, dueF L m) : Nat × Nat) (ea_cons (ev_eq (ev_call m (ea_cons (ev_var rfl) ea_nil) o1) hdue) (ea_cons (ev_var rfl) ea_nil)) trivial))) fun _ => et_or (et_not (et_B (ev_isiM T.clM T.isM (ev_var rfl)))) fun _ => et_test (ev_neN (ev_lenOwn (f := fun m : Mc => m.1.length) ((Xs, Xg)) rfl trivial (by have := best.ok.ok.le8; show ((Xs, Xg)).1.length < 1000000; omega) (ev_var rfl)) (ev_var rfl))) ?_) (fun hb => by cases hb) fun _ => ?_
    · simp [best.few]
    refine q_asgP (p := CntP m ((Xs, Xg)) (0, 0)) (R := rC) (ev_call ((m, (Xs, Xg), (0, 0)) : Mc × Mc × Pr) (ea_cons (ev_var rfl) (ea_cons (ev_pr (ev_prop (m := (Xs, Xg)) (R := rSteps) (f := fun m : Mc => m.1) trivial (ev_var rfl)) (ev_prop (m := (Xs, Xg)) (R := rRow) (f := fun m : Mc => m.2) trivial (ev_var rfl))) (ea_cons (ev_pr ev_nat0 ev_nat0) ea_nil))) ⟨L, om, best.ok.ok, ⟨om.pos, best.ok.ok.pos⟩, l3⟩) fun r hr => ?_
    have hr : r.map (·.1) = tot m ((Xs, Xg)) (0, 0) := hr
    rw [best.tot] at hr
    obtain ⟨d, rfl⟩ : ∃ d, r = some (dueF L m, d) := by
      cases r with
      | none => cases hr
      | some p =>
        obtain ⟨c0, d⟩ := p
        exact ⟨d, by rw [← Option.some.inj (show some c0 = some (dueF L m) from hr)]⟩
    refine q_when (b := false) (et_eq (et_or (et_test (ev_isN (R := rPr rNat rInt) (o := some (dueF L m, d)) (ev_var rfl))) fun _ => et_test (ev_neN (ev_fst (R := rNat) (T := rInt) (p := (dueF L m, d)) (ev_some (R := rPr rNat rInt) (o := some (dueF L m, d)) (ev_var rfl) rfl)) (ev_var rfl))) (by simp)) (fun hb => by cases hb) fun _ => ?_
    refine q_ifJ (β := Unit) (fun _ => [.no, .is (rAt h) (), .no, .is rNat L, .is rPm m, .no, .is rNat (dueF L m), .no, .is rNat (fewF m), .no, .no]) (fun _ => []) (fun _ => True) (b := decide (fewF m < 3) && decide (L < 3)) (et_and (et_test (ev_ltN (ev_var rfl) (ev_nat (n := 3)))) fun _ => et_test (ev_ltN (ev_var rfl) (ev_nat (n := 3)))) (fun hb PP hP => ?_) (fun _ PP hP => ?_) fun _ _ => ?_
    · have hb : fewF m < 3 ∧ L < 3 := by simpa using hb
      have few1 : 1 ≤ fewF m := by
        rw [← best.few]
        exact best.ok.ok.pos
      refine go_forS (σt := Unit) (fun _ => [.no, .is (rAt h) (), .no, .is rNat L, .is rPm m, .no, .is rNat (dueF L m), .no, .is rNat (fewF m), .no, .no]) (fun _ => []) (fun _ _ _ => True) () (ev_call ((L, fewF m) : Nat × Nat) (ea_cons (ev_var rfl) (ea_cons (ev_var rfl) ea_nil)) ⟨l1, by show L ≤ 2; omega, few1, by show fewF m ≤ 2; omega⟩) (tg_name 10) (fun _ _ => trivial) (.same (.same (.no (.same (.same (.no (.same (.no (.same (.no (.same .nil))))))))))) rfl ?_ ?_
      · rintro xs hxs G2 bs2 i2 _ X hX _
        obtain ⟨oX, hXl⟩ := hxs X (List.mem_of_getElem? hX)
        refine q_asgP (p := CntP m X (0, 0)) (R := rC) (ev_call ((m, X, (0, 0)) : Mc × Mc × Pr) (ea_cons (ev_var rfl) (ea_cons (ev_var rfl) (ea_cons (ev_pr ev_nat0 ev_nat0) ea_nil))) ⟨L, om, oX, ⟨om.pos, oX.pos⟩, l3⟩) fun r hr => ?_
        have hr : r.map (·.1) = tot m X (0, 0) := hr
        refine go_when (b := false) ?_ (fun hb => by cases hb) fun _ => go_turn () trivial (.same (.same (.same (.same (.same (.same (.same (.same (.same (.no (.no .nil))))))))))) rfl
        cases r with
        | none => exact et_eq (et_and (c := false) (et_test (ev_notN (R := rPr rNat rInt) (o := none) (ev_var rfl))) fun hb => by cases hb) rfl
        | some p =>
          obtain ⟨c0, d0⟩ := p
          have hc0 : tot m X (0, 0) = some c0 := hr.symm
          have hd := due_le om oX hXl hc0
          refine et_eq (et_and (et_test (ev_notN (R := rPr rNat rInt) (o := some (c0, d0)) (ev_var rfl))) fun _ => et_test (ev_ltN (ev_fst (R := rNat) (T := rInt) (p := (c0, d0)) (ev_some (R := rPr rNat rInt) (o := some (c0, d0)) (ev_var rfl) rfl)) (ev_var rfl))) ?_
          simp
          exact hd
      · rintro xs hxs _ _
        exact hP () trivial
    · exact go_wk (.same (.same (.no (.same (.same (.no (.same (.no (.same (.no (.no .nil))))))))))) (hP () trivial)
    · refine go_ifP (ep_and (et_test (ev_eqN (ev_var rfl) (ev_nat (n := 3)))) fun _ => ep_and (et_test (ev_eqN (ev_var rfl) ev_nat2)) fun _ => ep_eqS (ev_callH 6 rfl (ea_cons (ev_nat (n := 6)) ea_nil) ⟨by decide, by decide⟩) ev_nat0) (fun hc => ?_) (fun _ => go_turn () trivial (.same (.same (.no (.no (.no (.no (.no (.no (.no (.no (.no .nil))))))))))) rfl)
      obtain ⟨hf3, hL2, _⟩ := hc rfl
      have hf3 : fewF m = 3 := of_decide_eq_true hf3
      have hL2 : L = 2 := of_decide_eq_true hL2
      subst hL2
      refine go_when (b := false) (et_eq (et_test (ev_neN (ev_minS (m := dueF 2 m) (p := WrR m) (ev_callS2 (RA := rPm) (RB := rList (rPr rRow rBool)) (R := fun a => rSome (rList rNat) (WrR a.1)) (f := fun _ => ()) (Pre := fun a => WrP a.1 a.2) m (ev_var rfl) (ev_callH m rfl (ea_cons (ev_var rfl) ea_nil) om) (fun rows hrows => ⟨om, hf3, hrows.1, hrows.2⟩) fun rows _ G v ⟨x, hx, r⟩ => ⟨x, hx, r⟩) fun xs hxs => ⟨hxs.mem, hxs.ge⟩) (ev_var rfl))) (by simp)) (fun hb => by cases hb) fun _ => go_turn () trivial (.same (.same (.no (.no (.no (.no (.no (.no (.no (.no (.no .nil))))))))))) rfl
  · rintro _ _
    intro H1 G1 as1 σ1 Z1
    exact q H1
end
end B
namespace B
open PySem L2
theorem txt_mk {K : PySem.W.Frag} {h : Heap} {mg : Str → Option Value} {C D p_steps p_good f_is_integer f_check_steps f_check_good f_Machine_init f_Machine_steps f_Machine_good f_Machine_len f_is_unlike f_goals_of f_come_to f_useful f_counted f_numbered f_classes_by f_shrunk f_marks_of f_kinds_of f_come_counts f_fewest f_lean_parts f_Plan_init f_Plan_gap f_Plan_early f_best_stay f_goal_for f_mark_for f_begin_for f_built f_least_wrong f_best_lean f__law_mix f__law_next f__law_alike f__law_pick f__law_parts f__law_lengths f__law_pairs f__law_same f__law_least f__law_unlike f__law_sorts f__law_cost f__law_wrong f__law_all f__law_three f__law_end f__law_long f__law_wrongs f_law : Addr} {rest_steps rest_good : List Value} {u1 u2 u3 u4 : Tok} {od_is_integer an_is_integer od_check_steps an_check_steps od_check_good an_check_good od_Machine_init an_Machine_init od_Machine_steps an_Machine_steps od_Machine_good an_Machine_good od_Machine_len an_Machine_len od_is_unlike an_is_unlike od_goals_of an_goals_of od_come_to an_come_to od_useful an_useful od_counted an_counted od_numbered an_numbered od_classes_by an_classes_by od_shrunk an_shrunk od_marks_of an_marks_of od_kinds_of an_kinds_of od_come_counts an_come_counts od_fewest an_fewest od_lean_parts an_lean_parts od_Plan_init an_Plan_init od_Plan_gap an_Plan_gap od_Plan_early an_Plan_early od_best_stay an_best_stay od_goal_for an_goal_for od_mark_for an_mark_for od_begin_for an_begin_for od_built an_built od_least_wrong an_least_wrong od_best_lean an_best_lean od__law_mix an__law_mix od__law_next an__law_next od__law_alike an__law_alike od__law_pick an__law_pick od__law_parts an__law_parts od__law_lengths an__law_lengths od__law_pairs an__law_pairs od__law_same an__law_same od__law_least an__law_least od__law_unlike an__law_unlike od__law_sorts an__law_sorts od__law_cost an__law_cost od__law_wrong an__law_wrong od__law_all an__law_all od__law_three an__law_three od__law_end an__law_end od__law_long an__law_long od__law_wrongs an__law_wrongs od_law an_law : Option Addr} {sl_is_integer sl_check_steps sl_check_good sl_Machine_init sl_Machine_steps sl_Machine_good sl_Machine_len sl_is_unlike sl_goals_of sl_come_to sl_useful sl_counted sl_numbered sl_classes_by sl_shrunk sl_marks_of sl_kinds_of sl_come_counts sl_fewest sl_lean_parts sl_Plan_init sl_Plan_gap sl_Plan_early sl_best_stay sl_goal_for sl_mark_for sl_begin_for sl_built sl_least_wrong sl_best_lean sl__law_mix sl__law_next sl__law_alike sl__law_pick sl__law_parts sl__law_lengths sl__law_pairs sl__law_same sl__law_least sl__law_unlike sl__law_sorts sl__law_cost sl__law_wrong sl__law_all sl__law_three sl__law_end sl__law_long sl__law_wrongs sl_law : Array (Option Value)} {oc_is_integer kV_is_integer dc_is_integer pm_is_integer cd_is_integer ct_is_integer oc_check_steps kV_check_steps dc_check_steps pm_check_steps cd_check_steps ct_check_steps oc_check_good kV_check_good dc_check_good pm_check_good cd_check_good ct_check_good oc_Machine_init kV_Machine_init dc_Machine_init pm_Machine_init cd_Machine_init ct_Machine_init oc_Machine_steps kV_Machine_steps dc_Machine_steps pm_Machine_steps cd_Machine_steps ct_Machine_steps oc_Machine_good kV_Machine_good dc_Machine_good pm_Machine_good cd_Machine_good ct_Machine_good oc_Machine_len kV_Machine_len dc_Machine_len pm_Machine_len cd_Machine_len ct_Machine_len oc_is_unlike kV_is_unlike dc_is_unlike pm_is_unlike cd_is_unlike ct_is_unlike oc_goals_of kV_goals_of dc_goals_of pm_goals_of cd_goals_of ct_goals_of oc_come_to kV_come_to dc_come_to pm_come_to cd_come_to ct_come_to oc_useful kV_useful dc_useful pm_useful cd_useful ct_useful oc_counted kV_counted dc_counted pm_counted cd_counted ct_counted oc_numbered kV_numbered dc_numbered pm_numbered cd_numbered ct_numbered oc_classes_by kV_classes_by dc_classes_by pm_classes_by cd_classes_by ct_classes_by oc_shrunk kV_shrunk dc_shrunk pm_shrunk cd_shrunk ct_shrunk oc_marks_of kV_marks_of dc_marks_of pm_marks_of cd_marks_of ct_marks_of oc_kinds_of kV_kinds_of dc_kinds_of pm_kinds_of cd_kinds_of ct_kinds_of oc_come_counts kV_come_counts dc_come_counts pm_come_counts cd_come_counts ct_come_counts oc_fewest kV_fewest dc_fewest pm_fewest cd_fewest ct_fewest oc_lean_parts kV_lean_parts dc_lean_parts pm_lean_parts cd_lean_parts ct_lean_parts oc_Plan_init kV_Plan_init dc_Plan_init pm_Plan_init cd_Plan_init ct_Plan_init oc_Plan_gap kV_Plan_gap dc_Plan_gap pm_Plan_gap cd_Plan_gap ct_Plan_gap oc_Plan_early kV_Plan_early dc_Plan_early pm_Plan_early cd_Plan_early ct_Plan_early oc_best_stay kV_best_stay dc_best_stay pm_best_stay cd_best_stay ct_best_stay oc_goal_for kV_goal_for dc_goal_for pm_goal_for cd_goal_for ct_goal_for oc_mark_for kV_mark_for dc_mark_for pm_mark_for cd_mark_for ct_mark_for oc_begin_for kV_begin_for dc_begin_for pm_begin_for cd_begin_for ct_begin_for oc_built kV_built dc_built pm_built cd_built ct_built oc_least_wrong kV_least_wrong dc_least_wrong pm_least_wrong cd_least_wrong ct_least_wrong oc_best_lean kV_best_lean dc_best_lean pm_best_lean cd_best_lean ct_best_lean oc__law_mix kV__law_mix dc__law_mix pm__law_mix cd__law_mix ct__law_mix oc__law_next kV__law_next dc__law_next pm__law_next cd__law_next ct__law_next oc__law_alike kV__law_alike dc__law_alike pm__law_alike cd__law_alike ct__law_alike oc__law_pick kV__law_pick dc__law_pick pm__law_pick cd__law_pick ct__law_pick oc__law_parts kV__law_parts dc__law_parts pm__law_parts cd__law_parts ct__law_parts oc__law_lengths kV__law_lengths dc__law_lengths pm__law_lengths cd__law_lengths ct__law_lengths oc__law_pairs kV__law_pairs dc__law_pairs pm__law_pairs cd__law_pairs ct__law_pairs oc__law_same kV__law_same dc__law_same pm__law_same cd__law_same ct__law_same oc__law_least kV__law_least dc__law_least pm__law_least cd__law_least ct__law_least oc__law_unlike kV__law_unlike dc__law_unlike pm__law_unlike cd__law_unlike ct__law_unlike oc__law_sorts kV__law_sorts dc__law_sorts pm__law_sorts cd__law_sorts ct__law_sorts oc__law_cost kV__law_cost dc__law_cost pm__law_cost cd__law_cost ct__law_cost oc__law_wrong kV__law_wrong dc__law_wrong pm__law_wrong cd__law_wrong ct__law_wrong oc__law_all kV__law_all dc__law_all pm__law_all cd__law_all ct__law_all oc__law_three kV__law_three dc__law_three pm__law_three cd__law_three ct__law_three oc__law_end kV__law_end dc__law_end pm__law_end cd__law_end ct__law_end oc__law_long kV__law_long dc__law_long pm__law_long cd__law_long ct__law_long oc__law_wrongs kV__law_wrongs dc__law_wrongs pm__law_wrongs cd__law_wrongs ct__law_wrongs oc_law kV_law dc_law pm_law cd_law ct_law : Value}
    (X : K.In h) (G : h.Ns mainGlobals mg)
    (a_is_integer : PySem.W.nsIn K mainGlobals "is_integer" = some (some (.ref f_is_integer)))
    (a_check_steps : PySem.W.nsIn K mainGlobals "check_steps" = some (some (.ref f_check_steps)))
    (a_check_good : PySem.W.nsIn K mainGlobals "check_good" = some (some (.ref f_check_good)))
    (a_is_unlike : PySem.W.nsIn K mainGlobals "is_unlike" = some (some (.ref f_is_unlike)))
    (a_goals_of : PySem.W.nsIn K mainGlobals "goals_of" = some (some (.ref f_goals_of)))
    (a_come_to : PySem.W.nsIn K mainGlobals "come_to" = some (some (.ref f_come_to)))
    (a_useful : PySem.W.nsIn K mainGlobals "useful" = some (some (.ref f_useful)))
    (a_counted : PySem.W.nsIn K mainGlobals "counted" = some (some (.ref f_counted)))
    (a_numbered : PySem.W.nsIn K mainGlobals "numbered" = some (some (.ref f_numbered)))
    (a_classes_by : PySem.W.nsIn K mainGlobals "classes_by" = some (some (.ref f_classes_by)))
    (a_shrunk : PySem.W.nsIn K mainGlobals "shrunk" = some (some (.ref f_shrunk)))
    (a_marks_of : PySem.W.nsIn K mainGlobals "marks_of" = some (some (.ref f_marks_of)))
    (a_kinds_of : PySem.W.nsIn K mainGlobals "kinds_of" = some (some (.ref f_kinds_of)))
    (a_come_counts : PySem.W.nsIn K mainGlobals "come_counts" = some (some (.ref f_come_counts)))
    (a_fewest : PySem.W.nsIn K mainGlobals "fewest" = some (some (.ref f_fewest)))
    (a_lean_parts : PySem.W.nsIn K mainGlobals "lean_parts" = some (some (.ref f_lean_parts)))
    (a_best_stay : PySem.W.nsIn K mainGlobals "best_stay" = some (some (.ref f_best_stay)))
    (a_goal_for : PySem.W.nsIn K mainGlobals "goal_for" = some (some (.ref f_goal_for)))
    (a_mark_for : PySem.W.nsIn K mainGlobals "mark_for" = some (some (.ref f_mark_for)))
    (a_begin_for : PySem.W.nsIn K mainGlobals "begin_for" = some (some (.ref f_begin_for)))
    (a_built : PySem.W.nsIn K mainGlobals "built" = some (some (.ref f_built)))
    (a_least_wrong : PySem.W.nsIn K mainGlobals "least_wrong" = some (some (.ref f_least_wrong)))
    (a_best_lean : PySem.W.nsIn K mainGlobals "best_lean" = some (some (.ref f_best_lean)))
    (a__law_mix : PySem.W.nsIn K mainGlobals "_law_mix" = some (some (.ref f__law_mix)))
    (a__law_next : PySem.W.nsIn K mainGlobals "_law_next" = some (some (.ref f__law_next)))
    (a__law_alike : PySem.W.nsIn K mainGlobals "_law_alike" = some (some (.ref f__law_alike)))
    (a__law_pick : PySem.W.nsIn K mainGlobals "_law_pick" = some (some (.ref f__law_pick)))
    (a__law_parts : PySem.W.nsIn K mainGlobals "_law_parts" = some (some (.ref f__law_parts)))
    (a__law_lengths : PySem.W.nsIn K mainGlobals "_law_lengths" = some (some (.ref f__law_lengths)))
    (a__law_pairs : PySem.W.nsIn K mainGlobals "_law_pairs" = some (some (.ref f__law_pairs)))
    (a__law_same : PySem.W.nsIn K mainGlobals "_law_same" = some (some (.ref f__law_same)))
    (a__law_least : PySem.W.nsIn K mainGlobals "_law_least" = some (some (.ref f__law_least)))
    (a__law_unlike : PySem.W.nsIn K mainGlobals "_law_unlike" = some (some (.ref f__law_unlike)))
    (a__law_sorts : PySem.W.nsIn K mainGlobals "_law_sorts" = some (some (.ref f__law_sorts)))
    (a__law_cost : PySem.W.nsIn K mainGlobals "_law_cost" = some (some (.ref f__law_cost)))
    (a__law_wrong : PySem.W.nsIn K mainGlobals "_law_wrong" = some (some (.ref f__law_wrong)))
    (a__law_all : PySem.W.nsIn K mainGlobals "_law_all" = some (some (.ref f__law_all)))
    (a__law_three : PySem.W.nsIn K mainGlobals "_law_three" = some (some (.ref f__law_three)))
    (a__law_end : PySem.W.nsIn K mainGlobals "_law_end" = some (some (.ref f__law_end)))
    (a__law_long : PySem.W.nsIn K mainGlobals "_law_long" = some (some (.ref f__law_long)))
    (a__law_wrongs : PySem.W.nsIn K mainGlobals "_law_wrongs" = some (some (.ref f__law_wrongs)))
    (a_law : PySem.W.nsIn K mainGlobals "law" = some (some (.ref f_law)))
    (a_M : PySem.W.nsIn K mainGlobals "Machine" = some (some (.ref C)))
    (a_P : PySem.W.nsIn K mainGlobals "Plan" = some (some (.ref D)))
    (a_Machine_init : PySem.W.findIn K (.ref C) "__init__" = some (some (.ref f_Machine_init)))
    (i_Machine_init : PySem.W.isFn K (.ref f_Machine_init) = true)
    (a_Machine_len : PySem.W.findIn K (.ref C) "__len__" = some (some (.ref f_Machine_len)))
    (i_Machine_len : PySem.W.isFn K (.ref f_Machine_len) = true)
    (a_Plan_init : PySem.W.findIn K (.ref D) "__init__" = some (some (.ref f_Plan_init)))
    (i_Plan_init : PySem.W.isFn K (.ref f_Plan_init) = true)
    (a_Plan_gap : PySem.W.findIn K (.ref D) "gap" = some (some (.ref f_Plan_gap)))
    (i_Plan_gap : PySem.W.isFn K (.ref f_Plan_gap) = true)
    (a_Plan_early : PySem.W.findIn K (.ref D) "early" = some (some (.ref f_Plan_early)))
    (i_Plan_early : PySem.W.isFn K (.ref f_Plan_early) = true)
    (q_steps : PySem.W.findIn K (.ref C) "steps" = some (some (.ref p_steps)))
    (qg_steps : PySem.W.specialIn K (.ref p_steps) "__get__" = some (some (.builtin "property.__get__")))
    (qt_steps : PySem.W.takesIn K (.ref p_steps) = some true)
    (qr_steps : PySem.W.recIn K p_steps "property" = some (.ref f_Machine_steps :: rest_steps))
    (q_good : PySem.W.findIn K (.ref C) "good" = some (some (.ref p_good)))
    (qg_good : PySem.W.specialIn K (.ref p_good) "__get__" = some (some (.builtin "property.__get__")))
    (qt_good : PySem.W.takesIn K (.ref p_good) = some true)
    (qr_good : PySem.W.recIn K p_good "property" = some (.ref f_Machine_good :: rest_good))
    (l_is_integer : K.lookup f_is_integer = some ⟨oc_is_integer, od_is_integer, .func (PySem.W.fnOf "is_integer" "is_integer" (defArgs st_is_integer) (defBody st_is_integer) (defScope st_is_integer) .none kV_is_integer dc_is_integer pm_is_integer an_is_integer cd_is_integer ct_is_integer), sl_is_integer⟩)
    (c_is_integer : PySem.W.codeIn K cd_is_integer "is_integer" = true)
    (k_is_integer : PySem.W.keepIn K (.ref f_is_integer) = true)
    (l_check_steps : K.lookup f_check_steps = some ⟨oc_check_steps, od_check_steps, .func (PySem.W.fnOf "check_steps" "check_steps" (defArgs st_check_steps) (defBody st_check_steps) (defScope st_check_steps) .none kV_check_steps dc_check_steps pm_check_steps an_check_steps cd_check_steps ct_check_steps), sl_check_steps⟩)
    (c_check_steps : PySem.W.codeIn K cd_check_steps "check_steps" = true)
    (k_check_steps : PySem.W.keepIn K (.ref f_check_steps) = true)
    (l_check_good : K.lookup f_check_good = some ⟨oc_check_good, od_check_good, .func (PySem.W.fnOf "check_good" "check_good" (defArgs st_check_good) (defBody st_check_good) (defScope st_check_good) .none kV_check_good dc_check_good pm_check_good an_check_good cd_check_good ct_check_good), sl_check_good⟩)
    (c_check_good : PySem.W.codeIn K cd_check_good "check_good" = true)
    (k_check_good : PySem.W.keepIn K (.ref f_check_good) = true)
    (l_Machine_init : K.lookup f_Machine_init = some ⟨oc_Machine_init, od_Machine_init, .func (PySem.W.fnOf "__init__" "Machine.__init__" (defArgs st_Machine_init) (defBody st_Machine_init) (defScope st_Machine_init) .none kV_Machine_init dc_Machine_init pm_Machine_init an_Machine_init cd_Machine_init ct_Machine_init), sl_Machine_init⟩)
    (c_Machine_init : PySem.W.codeIn K cd_Machine_init "Machine.__init__" = true)
    (k_Machine_init : PySem.W.keepIn K (.ref f_Machine_init) = true)
    (l_Machine_steps : K.lookup f_Machine_steps = some ⟨oc_Machine_steps, od_Machine_steps, .func (PySem.W.fnOf "steps" "Machine.steps" (defArgs st_Machine_steps) (defBody st_Machine_steps) (defScope st_Machine_steps) .none kV_Machine_steps dc_Machine_steps pm_Machine_steps an_Machine_steps cd_Machine_steps ct_Machine_steps), sl_Machine_steps⟩)
    (c_Machine_steps : PySem.W.codeIn K cd_Machine_steps "Machine.steps" = true)
    (k_Machine_steps : PySem.W.keepIn K (.ref f_Machine_steps) = true)
    (l_Machine_good : K.lookup f_Machine_good = some ⟨oc_Machine_good, od_Machine_good, .func (PySem.W.fnOf "good" "Machine.good" (defArgs st_Machine_good) (defBody st_Machine_good) (defScope st_Machine_good) .none kV_Machine_good dc_Machine_good pm_Machine_good an_Machine_good cd_Machine_good ct_Machine_good), sl_Machine_good⟩)
    (c_Machine_good : PySem.W.codeIn K cd_Machine_good "Machine.good" = true)
    (k_Machine_good : PySem.W.keepIn K (.ref f_Machine_good) = true)
    (l_Machine_len : K.lookup f_Machine_len = some ⟨oc_Machine_len, od_Machine_len, .func (PySem.W.fnOf "__len__" "Machine.__len__" (defArgs st_Machine_len) (defBody st_Machine_len) (defScope st_Machine_len) .none kV_Machine_len dc_Machine_len pm_Machine_len an_Machine_len cd_Machine_len ct_Machine_len), sl_Machine_len⟩)
    (c_Machine_len : PySem.W.codeIn K cd_Machine_len "Machine.__len__" = true)
    (k_Machine_len : PySem.W.keepIn K (.ref f_Machine_len) = true)
    (l_is_unlike : K.lookup f_is_unlike = some ⟨oc_is_unlike, od_is_unlike, .func (PySem.W.fnOf "is_unlike" "is_unlike" (defArgs st_is_unlike) (defBody st_is_unlike) (defScope st_is_unlike) .none kV_is_unlike dc_is_unlike pm_is_unlike an_is_unlike cd_is_unlike ct_is_unlike), sl_is_unlike⟩)
    (c_is_unlike : PySem.W.codeIn K cd_is_unlike "is_unlike" = true)
    (k_is_unlike : PySem.W.keepIn K (.ref f_is_unlike) = true)
    (l_goals_of : K.lookup f_goals_of = some ⟨oc_goals_of, od_goals_of, .func (PySem.W.fnOf "goals_of" "goals_of" (defArgs st_goals_of) (defBody st_goals_of) (defScope st_goals_of) .none kV_goals_of dc_goals_of pm_goals_of an_goals_of cd_goals_of ct_goals_of), sl_goals_of⟩)
    (c_goals_of : PySem.W.codeIn K cd_goals_of "goals_of" = true)
    (k_goals_of : PySem.W.keepIn K (.ref f_goals_of) = true)
    (l_come_to : K.lookup f_come_to = some ⟨oc_come_to, od_come_to, .func (PySem.W.fnOf "come_to" "come_to" (defArgs st_come_to) (defBody st_come_to) (defScope st_come_to) .none kV_come_to dc_come_to pm_come_to an_come_to cd_come_to ct_come_to), sl_come_to⟩)
    (c_come_to : PySem.W.codeIn K cd_come_to "come_to" = true)
    (k_come_to : PySem.W.keepIn K (.ref f_come_to) = true)
    (l_useful : K.lookup f_useful = some ⟨oc_useful, od_useful, .func (PySem.W.fnOf "useful" "useful" (defArgs st_useful) (defBody st_useful) (defScope st_useful) .none kV_useful dc_useful pm_useful an_useful cd_useful ct_useful), sl_useful⟩)
    (c_useful : PySem.W.codeIn K cd_useful "useful" = true)
    (k_useful : PySem.W.keepIn K (.ref f_useful) = true)
    (l_counted : K.lookup f_counted = some ⟨oc_counted, od_counted, .func (PySem.W.fnOf "counted" "counted" (defArgs st_counted) (defBody st_counted) (defScope st_counted) .none kV_counted dc_counted pm_counted an_counted cd_counted ct_counted), sl_counted⟩)
    (c_counted : PySem.W.codeIn K cd_counted "counted" = true)
    (k_counted : PySem.W.keepIn K (.ref f_counted) = true)
    (l_numbered : K.lookup f_numbered = some ⟨oc_numbered, od_numbered, .func (PySem.W.fnOf "numbered" "numbered" (defArgs st_numbered) (defBody st_numbered) (defScope st_numbered) .none kV_numbered dc_numbered pm_numbered an_numbered cd_numbered ct_numbered), sl_numbered⟩)
    (c_numbered : PySem.W.codeIn K cd_numbered "numbered" = true)
    (k_numbered : PySem.W.keepIn K (.ref f_numbered) = true)
    (l_classes_by : K.lookup f_classes_by = some ⟨oc_classes_by, od_classes_by, .func (PySem.W.fnOf "classes_by" "classes_by" (defArgs st_classes_by) (defBody st_classes_by) (defScope st_classes_by) .none kV_classes_by dc_classes_by pm_classes_by an_classes_by cd_classes_by ct_classes_by), sl_classes_by⟩)
    (c_classes_by : PySem.W.codeIn K cd_classes_by "classes_by" = true)
    (k_classes_by : PySem.W.keepIn K (.ref f_classes_by) = true)
    (l_shrunk : K.lookup f_shrunk = some ⟨oc_shrunk, od_shrunk, .func (PySem.W.fnOf "shrunk" "shrunk" (defArgs st_shrunk) (defBody st_shrunk) (defScope st_shrunk) .none kV_shrunk dc_shrunk pm_shrunk an_shrunk cd_shrunk ct_shrunk), sl_shrunk⟩)
    (c_shrunk : PySem.W.codeIn K cd_shrunk "shrunk" = true)
    (k_shrunk : PySem.W.keepIn K (.ref f_shrunk) = true)
    (l_marks_of : K.lookup f_marks_of = some ⟨oc_marks_of, od_marks_of, .func (PySem.W.fnOf "marks_of" "marks_of" (defArgs st_marks_of) (defBody st_marks_of) (defScope st_marks_of) .none kV_marks_of dc_marks_of pm_marks_of an_marks_of cd_marks_of ct_marks_of), sl_marks_of⟩)
    (c_marks_of : PySem.W.codeIn K cd_marks_of "marks_of" = true)
    (k_marks_of : PySem.W.keepIn K (.ref f_marks_of) = true)
    (l_kinds_of : K.lookup f_kinds_of = some ⟨oc_kinds_of, od_kinds_of, .func (PySem.W.fnOf "kinds_of" "kinds_of" (defArgs st_kinds_of) (defBody st_kinds_of) (defScope st_kinds_of) .none kV_kinds_of dc_kinds_of pm_kinds_of an_kinds_of cd_kinds_of ct_kinds_of), sl_kinds_of⟩)
    (c_kinds_of : PySem.W.codeIn K cd_kinds_of "kinds_of" = true)
    (k_kinds_of : PySem.W.keepIn K (.ref f_kinds_of) = true)
    (l_come_counts : K.lookup f_come_counts = some ⟨oc_come_counts, od_come_counts, .func (PySem.W.fnOf "come_counts" "come_counts" (defArgs st_come_counts) (defBody st_come_counts) (defScope st_come_counts) .none kV_come_counts dc_come_counts pm_come_counts an_come_counts cd_come_counts ct_come_counts), sl_come_counts⟩)
    (c_come_counts : PySem.W.codeIn K cd_come_counts "come_counts" = true)
    (k_come_counts : PySem.W.keepIn K (.ref f_come_counts) = true)
    (l_fewest : K.lookup f_fewest = some ⟨oc_fewest, od_fewest, .func (PySem.W.fnOf "fewest" "fewest" (defArgs st_fewest) (defBody st_fewest) (defScope st_fewest) .none kV_fewest dc_fewest pm_fewest an_fewest cd_fewest ct_fewest), sl_fewest⟩)
    (c_fewest : PySem.W.codeIn K cd_fewest "fewest" = true)
    (k_fewest : PySem.W.keepIn K (.ref f_fewest) = true)
    (l_lean_parts : K.lookup f_lean_parts = some ⟨oc_lean_parts, od_lean_parts, .func (PySem.W.fnOf "lean_parts" "lean_parts" (defArgs st_lean_parts) (defBody st_lean_parts) (defScope st_lean_parts) .none kV_lean_parts dc_lean_parts pm_lean_parts an_lean_parts cd_lean_parts ct_lean_parts), sl_lean_parts⟩)
    (c_lean_parts : PySem.W.codeIn K cd_lean_parts "lean_parts" = true)
    (k_lean_parts : PySem.W.keepIn K (.ref f_lean_parts) = true)
    (l_Plan_init : K.lookup f_Plan_init = some ⟨oc_Plan_init, od_Plan_init, .func (PySem.W.fnOf "__init__" "Plan.__init__" (defArgs st_Plan_init) (defBody st_Plan_init) (defScope st_Plan_init) .none kV_Plan_init dc_Plan_init pm_Plan_init an_Plan_init cd_Plan_init ct_Plan_init), sl_Plan_init⟩)
    (c_Plan_init : PySem.W.codeIn K cd_Plan_init "Plan.__init__" = true)
    (k_Plan_init : PySem.W.keepIn K (.ref f_Plan_init) = true)
    (l_Plan_gap : K.lookup f_Plan_gap = some ⟨oc_Plan_gap, od_Plan_gap, .func (PySem.W.fnOf "gap" "Plan.gap" (defArgs st_Plan_gap) (defBody st_Plan_gap) (defScope st_Plan_gap) .none kV_Plan_gap dc_Plan_gap pm_Plan_gap an_Plan_gap cd_Plan_gap ct_Plan_gap), sl_Plan_gap⟩)
    (c_Plan_gap : PySem.W.codeIn K cd_Plan_gap "Plan.gap" = true)
    (k_Plan_gap : PySem.W.keepIn K (.ref f_Plan_gap) = true)
    (l_Plan_early : K.lookup f_Plan_early = some ⟨oc_Plan_early, od_Plan_early, .func (PySem.W.fnOf "early" "Plan.early" (defArgs st_Plan_early) (defBody st_Plan_early) (defScope st_Plan_early) .none kV_Plan_early dc_Plan_early pm_Plan_early an_Plan_early cd_Plan_early ct_Plan_early), sl_Plan_early⟩)
    (c_Plan_early : PySem.W.codeIn K cd_Plan_early "Plan.early" = true)
    (k_Plan_early : PySem.W.keepIn K (.ref f_Plan_early) = true)
    (l_best_stay : K.lookup f_best_stay = some ⟨oc_best_stay, od_best_stay, .func (PySem.W.fnOf "best_stay" "best_stay" (defArgs st_best_stay) (defBody st_best_stay) (defScope st_best_stay) .none kV_best_stay dc_best_stay pm_best_stay an_best_stay cd_best_stay ct_best_stay), sl_best_stay⟩)
    (c_best_stay : PySem.W.codeIn K cd_best_stay "best_stay" = true)
    (k_best_stay : PySem.W.keepIn K (.ref f_best_stay) = true)
    (l_goal_for : K.lookup f_goal_for = some ⟨oc_goal_for, od_goal_for, .func (PySem.W.fnOf "goal_for" "goal_for" (defArgs st_goal_for) (defBody st_goal_for) (defScope st_goal_for) .none kV_goal_for dc_goal_for pm_goal_for an_goal_for cd_goal_for ct_goal_for), sl_goal_for⟩)
    (c_goal_for : PySem.W.codeIn K cd_goal_for "goal_for" = true)
    (k_goal_for : PySem.W.keepIn K (.ref f_goal_for) = true)
    (l_mark_for : K.lookup f_mark_for = some ⟨oc_mark_for, od_mark_for, .func (PySem.W.fnOf "mark_for" "mark_for" (defArgs st_mark_for) (defBody st_mark_for) (defScope st_mark_for) .none kV_mark_for dc_mark_for pm_mark_for an_mark_for cd_mark_for ct_mark_for), sl_mark_for⟩)
    (c_mark_for : PySem.W.codeIn K cd_mark_for "mark_for" = true)
    (k_mark_for : PySem.W.keepIn K (.ref f_mark_for) = true)
    (l_begin_for : K.lookup f_begin_for = some ⟨oc_begin_for, od_begin_for, .func (PySem.W.fnOf "begin_for" "begin_for" (defArgs st_begin_for) (defBody st_begin_for) (defScope st_begin_for) .none kV_begin_for dc_begin_for pm_begin_for an_begin_for cd_begin_for ct_begin_for), sl_begin_for⟩)
    (c_begin_for : PySem.W.codeIn K cd_begin_for "begin_for" = true)
    (k_begin_for : PySem.W.keepIn K (.ref f_begin_for) = true)
    (l_built : K.lookup f_built = some ⟨oc_built, od_built, .func (PySem.W.fnOf "built" "built" (defArgs st_built) (defBody st_built) (defScope st_built) .none kV_built dc_built pm_built an_built cd_built ct_built), sl_built⟩)
    (c_built : PySem.W.codeIn K cd_built "built" = true)
    (k_built : PySem.W.keepIn K (.ref f_built) = true)
    (l_least_wrong : K.lookup f_least_wrong = some ⟨oc_least_wrong, od_least_wrong, .func (PySem.W.fnOf "least_wrong" "least_wrong" (defArgs st_least_wrong) (defBody st_least_wrong) (defScope st_least_wrong) .none kV_least_wrong dc_least_wrong pm_least_wrong an_least_wrong cd_least_wrong ct_least_wrong), sl_least_wrong⟩)
    (c_least_wrong : PySem.W.codeIn K cd_least_wrong "least_wrong" = true)
    (k_least_wrong : PySem.W.keepIn K (.ref f_least_wrong) = true)
    (l_best_lean : K.lookup f_best_lean = some ⟨oc_best_lean, od_best_lean, .func (PySem.W.fnOf "best_lean" "best_lean" (defArgs st_best_lean) (defBody st_best_lean) (defScope st_best_lean) .none kV_best_lean dc_best_lean pm_best_lean an_best_lean cd_best_lean ct_best_lean), sl_best_lean⟩)
    (c_best_lean : PySem.W.codeIn K cd_best_lean "best_lean" = true)
    (k_best_lean : PySem.W.keepIn K (.ref f_best_lean) = true)
    (l__law_mix : K.lookup f__law_mix = some ⟨oc__law_mix, od__law_mix, .func (PySem.W.fnOf "_law_mix" "_law_mix" (defArgs st__law_mix) (defBody st__law_mix) (defScope st__law_mix) .none kV__law_mix dc__law_mix pm__law_mix an__law_mix cd__law_mix ct__law_mix), sl__law_mix⟩)
    (c__law_mix : PySem.W.codeIn K cd__law_mix "_law_mix" = true)
    (k__law_mix : PySem.W.keepIn K (.ref f__law_mix) = true)
    (l__law_next : K.lookup f__law_next = some ⟨oc__law_next, od__law_next, .func (PySem.W.fnOf "_law_next" "_law_next" (defArgs st__law_next) (defBody st__law_next) (defScope st__law_next) .none kV__law_next dc__law_next pm__law_next an__law_next cd__law_next ct__law_next), sl__law_next⟩)
    (c__law_next : PySem.W.codeIn K cd__law_next "_law_next" = true)
    (k__law_next : PySem.W.keepIn K (.ref f__law_next) = true)
    (l__law_alike : K.lookup f__law_alike = some ⟨oc__law_alike, od__law_alike, .func (PySem.W.fnOf "_law_alike" "_law_alike" (defArgs st__law_alike) (defBody st__law_alike) (defScope st__law_alike) .none kV__law_alike dc__law_alike pm__law_alike an__law_alike cd__law_alike ct__law_alike), sl__law_alike⟩)
    (c__law_alike : PySem.W.codeIn K cd__law_alike "_law_alike" = true)
    (k__law_alike : PySem.W.keepIn K (.ref f__law_alike) = true)
    (l__law_pick : K.lookup f__law_pick = some ⟨oc__law_pick, od__law_pick, .func (PySem.W.fnOf "_law_pick" "_law_pick" (defArgs st__law_pick) (defBody st__law_pick) (defScope st__law_pick) .none kV__law_pick dc__law_pick pm__law_pick an__law_pick cd__law_pick ct__law_pick), sl__law_pick⟩)
    (c__law_pick : PySem.W.codeIn K cd__law_pick "_law_pick" = true)
    (k__law_pick : PySem.W.keepIn K (.ref f__law_pick) = true)
    (l__law_parts : K.lookup f__law_parts = some ⟨oc__law_parts, od__law_parts, .func (PySem.W.fnOf "_law_parts" "_law_parts" (defArgs st__law_parts) (defBody st__law_parts) (defScope st__law_parts) .none kV__law_parts dc__law_parts pm__law_parts an__law_parts cd__law_parts ct__law_parts), sl__law_parts⟩)
    (c__law_parts : PySem.W.codeIn K cd__law_parts "_law_parts" = true)
    (k__law_parts : PySem.W.keepIn K (.ref f__law_parts) = true)
    (l__law_lengths : K.lookup f__law_lengths = some ⟨oc__law_lengths, od__law_lengths, .func (PySem.W.fnOf "_law_lengths" "_law_lengths" (defArgs st__law_lengths) (defBody st__law_lengths) (defScope st__law_lengths) .none kV__law_lengths dc__law_lengths pm__law_lengths an__law_lengths cd__law_lengths ct__law_lengths), sl__law_lengths⟩)
    (c__law_lengths : PySem.W.codeIn K cd__law_lengths "_law_lengths" = true)
    (k__law_lengths : PySem.W.keepIn K (.ref f__law_lengths) = true)
    (l__law_pairs : K.lookup f__law_pairs = some ⟨oc__law_pairs, od__law_pairs, .func (PySem.W.fnOf "_law_pairs" "_law_pairs" (defArgs st__law_pairs) (defBody st__law_pairs) (defScope st__law_pairs) .none kV__law_pairs dc__law_pairs pm__law_pairs an__law_pairs cd__law_pairs ct__law_pairs), sl__law_pairs⟩)
    (c__law_pairs : PySem.W.codeIn K cd__law_pairs "_law_pairs" = true)
    (k__law_pairs : PySem.W.keepIn K (.ref f__law_pairs) = true)
    (l__law_same : K.lookup f__law_same = some ⟨oc__law_same, od__law_same, .func (PySem.W.fnOf "_law_same" "_law_same" (defArgs st__law_same) (defBody st__law_same) (defScope st__law_same) .none kV__law_same dc__law_same pm__law_same an__law_same cd__law_same ct__law_same), sl__law_same⟩)
    (c__law_same : PySem.W.codeIn K cd__law_same "_law_same" = true)
    (k__law_same : PySem.W.keepIn K (.ref f__law_same) = true)
    (l__law_least : K.lookup f__law_least = some ⟨oc__law_least, od__law_least, .func (PySem.W.fnOf "_law_least" "_law_least" (defArgs st__law_least) (defBody st__law_least) (defScope st__law_least) .none kV__law_least dc__law_least pm__law_least an__law_least cd__law_least ct__law_least), sl__law_least⟩)
    (c__law_least : PySem.W.codeIn K cd__law_least "_law_least" = true)
    (k__law_least : PySem.W.keepIn K (.ref f__law_least) = true)
    (l__law_unlike : K.lookup f__law_unlike = some ⟨oc__law_unlike, od__law_unlike, .func (PySem.W.fnOf "_law_unlike" "_law_unlike" (defArgs st__law_unlike) (defBody st__law_unlike) (defScope st__law_unlike) .none kV__law_unlike dc__law_unlike pm__law_unlike an__law_unlike cd__law_unlike ct__law_unlike), sl__law_unlike⟩)
    (c__law_unlike : PySem.W.codeIn K cd__law_unlike "_law_unlike" = true)
    (k__law_unlike : PySem.W.keepIn K (.ref f__law_unlike) = true)
    (l__law_sorts : K.lookup f__law_sorts = some ⟨oc__law_sorts, od__law_sorts, .func (PySem.W.fnOf "_law_sorts" "_law_sorts" (defArgs st__law_sorts) (defBody st__law_sorts) (defScope st__law_sorts) .none kV__law_sorts dc__law_sorts pm__law_sorts an__law_sorts cd__law_sorts ct__law_sorts), sl__law_sorts⟩)
    (c__law_sorts : PySem.W.codeIn K cd__law_sorts "_law_sorts" = true)
    (k__law_sorts : PySem.W.keepIn K (.ref f__law_sorts) = true)
    (l__law_cost : K.lookup f__law_cost = some ⟨oc__law_cost, od__law_cost, .func (PySem.W.fnOf "_law_cost" "_law_cost" (defArgs st__law_cost) (defBody st__law_cost) (defScope st__law_cost) .none kV__law_cost dc__law_cost pm__law_cost an__law_cost cd__law_cost ct__law_cost), sl__law_cost⟩)
    (c__law_cost : PySem.W.codeIn K cd__law_cost "_law_cost" = true)
    (k__law_cost : PySem.W.keepIn K (.ref f__law_cost) = true)
    (l__law_wrong : K.lookup f__law_wrong = some ⟨oc__law_wrong, od__law_wrong, .func (PySem.W.fnOf "_law_wrong" "_law_wrong" (defArgs st__law_wrong) (defBody st__law_wrong) (defScope st__law_wrong) .none kV__law_wrong dc__law_wrong pm__law_wrong an__law_wrong cd__law_wrong ct__law_wrong), sl__law_wrong⟩)
    (c__law_wrong : PySem.W.codeIn K cd__law_wrong "_law_wrong" = true)
    (k__law_wrong : PySem.W.keepIn K (.ref f__law_wrong) = true)
    (l__law_all : K.lookup f__law_all = some ⟨oc__law_all, od__law_all, .func (PySem.W.fnOf "_law_all" "_law_all" (defArgs st__law_all) (defBody st__law_all) (defScope st__law_all) .none kV__law_all dc__law_all pm__law_all an__law_all cd__law_all ct__law_all), sl__law_all⟩)
    (c__law_all : PySem.W.codeIn K cd__law_all "_law_all" = true)
    (k__law_all : PySem.W.keepIn K (.ref f__law_all) = true)
    (l__law_three : K.lookup f__law_three = some ⟨oc__law_three, od__law_three, .func (PySem.W.fnOf "_law_three" "_law_three" (defArgs st__law_three) (defBody st__law_three) (defScope st__law_three) .none kV__law_three dc__law_three pm__law_three an__law_three cd__law_three ct__law_three), sl__law_three⟩)
    (c__law_three : PySem.W.codeIn K cd__law_three "_law_three" = true)
    (k__law_three : PySem.W.keepIn K (.ref f__law_three) = true)
    (l__law_end : K.lookup f__law_end = some ⟨oc__law_end, od__law_end, .func (PySem.W.fnOf "_law_end" "_law_end" (defArgs st__law_end) (defBody st__law_end) (defScope st__law_end) .none kV__law_end dc__law_end pm__law_end an__law_end cd__law_end ct__law_end), sl__law_end⟩)
    (c__law_end : PySem.W.codeIn K cd__law_end "_law_end" = true)
    (k__law_end : PySem.W.keepIn K (.ref f__law_end) = true)
    (l__law_long : K.lookup f__law_long = some ⟨oc__law_long, od__law_long, .func (PySem.W.fnOf "_law_long" "_law_long" (defArgs st__law_long) (defBody st__law_long) (defScope st__law_long) .none kV__law_long dc__law_long pm__law_long an__law_long cd__law_long ct__law_long), sl__law_long⟩)
    (c__law_long : PySem.W.codeIn K cd__law_long "_law_long" = true)
    (k__law_long : PySem.W.keepIn K (.ref f__law_long) = true)
    (l__law_wrongs : K.lookup f__law_wrongs = some ⟨oc__law_wrongs, od__law_wrongs, .func (PySem.W.fnOf "_law_wrongs" "_law_wrongs" (defArgs st__law_wrongs) (defBody st__law_wrongs) (defScope st__law_wrongs) .none kV__law_wrongs dc__law_wrongs pm__law_wrongs an__law_wrongs cd__law_wrongs ct__law_wrongs), sl__law_wrongs⟩)
    (c__law_wrongs : PySem.W.codeIn K cd__law_wrongs "_law_wrongs" = true)
    (k__law_wrongs : PySem.W.keepIn K (.ref f__law_wrongs) = true)
    (l_law : K.lookup f_law = some ⟨oc_law, od_law, .func (PySem.W.fnOf "law" "law" (defArgs st_law) (defBody st_law) (defScope st_law) .none kV_law dc_law pm_law an_law cd_law ct_law), sl_law⟩)
    (c_law : PySem.W.codeIn K cd_law "law" = true)
    (k_law : PySem.W.keepIn K (.ref f_law) = true)
    (n_all : PySem.W.nsIn K mainGlobals "all" = some none)
    (n_any : PySem.W.nsIn K mainGlobals "any" = some none)
    (n_bool : PySem.W.nsIn K mainGlobals "bool" = some none)
    (n_enumerate : PySem.W.nsIn K mainGlobals "enumerate" = some none)
    (n_int : PySem.W.nsIn K mainGlobals "int" = some none)
    (n_isinstance : PySem.W.nsIn K mainGlobals "isinstance" = some none)
    (n_len : PySem.W.nsIn K mainGlobals "len" = some none)
    (n_list : PySem.W.nsIn K mainGlobals "list" = some none)
    (n_max : PySem.W.nsIn K mainGlobals "max" = some none)
    (n_min : PySem.W.nsIn K mainGlobals "min" = some none)
    (n_range : PySem.W.nsIn K mainGlobals "range" = some none)
    (n_str : PySem.W.nsIn K mainGlobals "str" = some none)
    (n_sum : PySem.W.nsIn K mainGlobals "sum" = some none)
    (n_tuple : PySem.W.nsIn K mainGlobals "tuple" = some none)
    (n_zip : PySem.W.nsIn K mainGlobals "zip" = some none)
    (v_MOST_STANDS : PySem.W.nsIn K mainGlobals "MOST_STANDS" = some (some (.int 8 u1)))
    (v_MOST_LETTERS : PySem.W.nsIn K mainGlobals "MOST_LETTERS" = some (some (.int 3 u2)))
    (v_KERNEL : PySem.W.nsIn K mainGlobals "KERNEL" = some (some (.str "kernel" u3)))
    (v_EARLY : PySem.W.nsIn K mainGlobals "EARLY" = some (some (.str "early" u4)))
    (pgC : PySem.W.plainGet K C Str.empty = true)
    (hdC : PySem.W.hasDictIn K C = true)
    (poC : PySem.W.plainOver K C = true)
    (saC : PySem.W.findIn K (.ref C) "__setattr__" = some (some (.builtin "object.__setattr__")))
    (mkC : PySem.W.makesIn K C = true)
    (kcC : PySem.W.keepIn K (.ref C) = true)
    (pgD : PySem.W.plainGet K D Str.empty = true)
    (hdD : PySem.W.hasDictIn K D = true)
    (poD : PySem.W.plainOver K D = true)
    (saD : PySem.W.findIn K (.ref D) "__setattr__" = some (some (.builtin "object.__setattr__")))
    (mkD : PySem.W.makesIn K D = true)
    (kcD : PySem.W.keepIn K (.ref D) = true)
    (na_parts : PySem.W.findIn K (.ref C) "parts" = some none)
    (na_rows : PySem.W.findIn K (.ref D) "rows" = some none)
    (na_marks : PySem.W.findIn K (.ref D) "marks" = some none)
    (na_least : PySem.W.findIn K (.ref D) "least" = some none)
    (na_kinds : PySem.W.findIn K (.ref D) "kinds" = some none)
    (na_counts : PySem.W.findIn K (.ref D) "counts" = some none)
    (na_stays : PySem.W.findIn K (.ref D) "stays" = some none)
    (isa : PySem.W.findIn K (.ref C) "__class__" = some (some (.builtin "object.__class__")))
    (isn : PySem.W.specialIn K (.builtin "object.__class__") "__get__" = some (some (.builtin "getset_descriptor.__get__")))
    (ist : PySem.W.takesIn K (.builtin "object.__class__") = some true)
    (ism : PySem.W.mroIn K C (.type "object") = some true)
    : ∃ A : Ad, Txt A K mg ∧ mg "law" = some (.ref A.f_law) ∧ ∀ (s : Shared) (v : Value), BindsTo s A.d_law ⟨[v], []⟩ [("_law_script", v)] := by
  have F_is_integer := fun_mk (st := st_is_integer) l_is_integer c_is_integer k_is_integer
  have b_is_integer := F_is_integer.binds (ps := ps_is_integer) fun _ _ _ _ _ _ us hl => match us, hl with | [_, _, _], _ => rfl
  have F_check_steps := fun_mk (st := st_check_steps) l_check_steps c_check_steps k_check_steps
  have b_check_steps := F_check_steps.binds (ps := ps_check_steps) fun _ _ _ _ _ _ us hl => match us, hl with | [_], _ => rfl
  have F_check_good := fun_mk (st := st_check_good) l_check_good c_check_good k_check_good
  have b_check_good := F_check_good.binds (ps := ps_check_good) fun _ _ _ _ _ _ us hl => match us, hl with | [_, _], _ => rfl
  have F_Machine_init := fun_mk (st := st_Machine_init) l_Machine_init c_Machine_init k_Machine_init
  have b_Machine_init := F_Machine_init.binds (ps := ps_Machine_init) fun _ _ _ _ _ _ us hl => match us, hl with | [_, _, _], _ => rfl
  have F_Machine_steps := fun_mk (st := st_Machine_steps) l_Machine_steps c_Machine_steps k_Machine_steps
  have b_Machine_steps := F_Machine_steps.binds (ps := ps_Machine_steps) fun _ _ _ _ _ _ us hl => match us, hl with | [_], _ => rfl
  have F_Machine_good := fun_mk (st := st_Machine_good) l_Machine_good c_Machine_good k_Machine_good
  have b_Machine_good := F_Machine_good.binds (ps := ps_Machine_good) fun _ _ _ _ _ _ us hl => match us, hl with | [_], _ => rfl
  have F_Machine_len := fun_mk (st := st_Machine_len) l_Machine_len c_Machine_len k_Machine_len
  have b_Machine_len := F_Machine_len.binds (ps := ps_Machine_len) fun _ _ _ _ _ _ us hl => match us, hl with | [_], _ => rfl
  have F_is_unlike := fun_mk (st := st_is_unlike) l_is_unlike c_is_unlike k_is_unlike
  have b_is_unlike := F_is_unlike.binds (ps := ps_is_unlike) fun _ _ _ _ _ _ us hl => match us, hl with | [_, _, _], _ => rfl
  have F_goals_of := fun_mk (st := st_goals_of) l_goals_of c_goals_of k_goals_of
  have b_goals_of := F_goals_of.binds (ps := ps_goals_of) fun _ _ _ _ _ _ us hl => match us, hl with | [_, _, _], _ => rfl
  have F_come_to := fun_mk (st := st_come_to) l_come_to c_come_to k_come_to
  have b_come_to := F_come_to.binds (ps := ps_come_to) fun _ _ _ _ _ _ us hl => match us, hl with | [_, _, _], _ => rfl
  have F_useful := fun_mk (st := st_useful) l_useful c_useful k_useful
  have b_useful := F_useful.binds (ps := ps_useful) fun _ _ _ _ _ _ us hl => match us, hl with | [_, _, _], _ => rfl
  have F_counted := fun_mk (st := st_counted) l_counted c_counted k_counted
  have b_counted := F_counted.binds (ps := ps_counted) fun _ _ _ _ _ _ us hl => match us, hl with | [_, _, _], _ => rfl
  have F_numbered := fun_mk (st := st_numbered) l_numbered c_numbered k_numbered
  have b_numbered := F_numbered.binds (ps := ps_numbered) fun _ _ _ _ _ _ us hl => match us, hl with | [_], _ => rfl
  have F_classes_by := fun_mk (st := st_classes_by) l_classes_by c_classes_by k_classes_by
  have b_classes_by := F_classes_by.binds (ps := ps_classes_by) fun _ _ _ _ _ _ us hl => match us, hl with | [_, _], _ => rfl
  have F_shrunk := fun_mk (st := st_shrunk) l_shrunk c_shrunk k_shrunk
  have b_shrunk := F_shrunk.binds (ps := ps_shrunk) fun _ _ _ _ _ _ us hl => match us, hl with | [_, _], _ => rfl
  have F_marks_of := fun_mk (st := st_marks_of) l_marks_of c_marks_of k_marks_of
  have b_marks_of := F_marks_of.binds (ps := ps_marks_of) fun _ _ _ _ _ _ us hl => match us, hl with | [_], _ => rfl
  have F_kinds_of := fun_mk (st := st_kinds_of) l_kinds_of c_kinds_of k_kinds_of
  have b_kinds_of := F_kinds_of.binds (ps := ps_kinds_of) fun _ _ _ _ _ _ us hl => match us, hl with | [_], _ => rfl
  have F_come_counts := fun_mk (st := st_come_counts) l_come_counts c_come_counts k_come_counts
  have b_come_counts := F_come_counts.binds (ps := ps_come_counts) fun _ _ _ _ _ _ us hl => match us, hl with | [_], _ => rfl
  have F_fewest := fun_mk (st := st_fewest) l_fewest c_fewest k_fewest
  have b_fewest := F_fewest.binds (ps := ps_fewest) fun _ _ _ _ _ _ us hl => match us, hl with | [_], _ => rfl
  have F_lean_parts := fun_mk (st := st_lean_parts) l_lean_parts c_lean_parts k_lean_parts
  have b_lean_parts := F_lean_parts.binds (ps := ps_lean_parts) fun _ _ _ _ _ _ us hl => match us, hl with | [_], _ => rfl
  have F_Plan_init := fun_mk (st := st_Plan_init) l_Plan_init c_Plan_init k_Plan_init
  have b_Plan_init := F_Plan_init.binds (ps := ps_Plan_init) fun _ _ _ _ _ _ us hl => match us, hl with | [_, _], _ => rfl
  have F_Plan_gap := fun_mk (st := st_Plan_gap) l_Plan_gap c_Plan_gap k_Plan_gap
  have b_Plan_gap := F_Plan_gap.binds (ps := ps_Plan_gap) fun _ _ _ _ _ _ us hl => match us, hl with | [_, _, _], _ => rfl
  have F_Plan_early := fun_mk (st := st_Plan_early) l_Plan_early c_Plan_early k_Plan_early
  have b_Plan_early := F_Plan_early.binds (ps := ps_Plan_early) fun _ _ _ _ _ _ us hl => match us, hl with | [_, _], _ => rfl
  have F_best_stay := fun_mk (st := st_best_stay) l_best_stay c_best_stay k_best_stay
  have b_best_stay := F_best_stay.binds (ps := ps_best_stay) fun _ _ _ _ _ _ us hl => match us, hl with | [_, _, _], _ => rfl
  have F_goal_for := fun_mk (st := st_goal_for) l_goal_for c_goal_for k_goal_for
  have b_goal_for := F_goal_for.binds (ps := ps_goal_for) fun _ _ _ _ _ _ us hl => match us, hl with | [_, _, _], _ => rfl
  have F_mark_for := fun_mk (st := st_mark_for) l_mark_for c_mark_for k_mark_for
  have b_mark_for := F_mark_for.binds (ps := ps_mark_for) fun _ _ _ _ _ _ us hl => match us, hl with | [_, _], _ => rfl
  have F_begin_for := fun_mk (st := st_begin_for) l_begin_for c_begin_for k_begin_for
  have b_begin_for := F_begin_for.binds (ps := ps_begin_for) fun _ _ _ _ _ _ us hl => match us, hl with | [_], _ => rfl
  have F_built := fun_mk (st := st_built) l_built c_built k_built
  have b_built := F_built.binds (ps := ps_built) fun _ _ _ _ _ _ us hl => match us, hl with | [_], _ => rfl
  have F_least_wrong := fun_mk (st := st_least_wrong) l_least_wrong c_least_wrong k_least_wrong
  have b_least_wrong := F_least_wrong.binds (ps := ps_least_wrong) fun _ _ _ _ _ _ us hl => match us, hl with | [_], _ => rfl
  have F_best_lean := fun_mk (st := st_best_lean) l_best_lean c_best_lean k_best_lean
  have b_best_lean := F_best_lean.binds (ps := ps_best_lean) fun _ _ _ _ _ _ us hl => match us, hl with | [_], _ => rfl
  have F__law_mix := fun_mk (st := st__law_mix) l__law_mix c__law_mix k__law_mix
  have b__law_mix := F__law_mix.binds (ps := ps__law_mix) fun _ _ _ _ _ _ us hl => match us, hl with | [_, _], _ => rfl
  have F__law_next := fun_mk (st := st__law_next) l__law_next c__law_next k__law_next
  have b__law_next := F__law_next.binds (ps := ps__law_next) fun _ _ _ _ _ _ us hl => match us, hl with | [_, _], _ => rfl
  have F__law_alike := fun_mk (st := st__law_alike) l__law_alike c__law_alike k__law_alike
  have b__law_alike := F__law_alike.binds (ps := ps__law_alike) fun _ _ _ _ _ _ us hl => match us, hl with | [_, _], _ => rfl
  have F__law_pick := fun_mk (st := st__law_pick) l__law_pick c__law_pick k__law_pick
  have b__law_pick := F__law_pick.binds (ps := ps__law_pick) fun _ _ _ _ _ _ us hl => match us, hl with | [_, _], _ => rfl
  have F__law_parts := fun_mk (st := st__law_parts) l__law_parts c__law_parts k__law_parts
  have b__law_parts := F__law_parts.binds (ps := ps__law_parts) fun _ _ _ _ _ _ us hl => match us, hl with | [_, _], _ => rfl
  have F__law_lengths := fun_mk (st := st__law_lengths) l__law_lengths c__law_lengths k__law_lengths
  have b__law_lengths := F__law_lengths.binds (ps := ps__law_lengths) fun _ _ _ _ _ _ us hl => match us, hl with | [_, _, _, _], _ => rfl
  have F__law_pairs := fun_mk (st := st__law_pairs) l__law_pairs c__law_pairs k__law_pairs
  have b__law_pairs := F__law_pairs.binds (ps := ps__law_pairs) fun _ _ _ _ _ _ us hl => match us, hl with | [_, _, _], _ => rfl
  have F__law_same := fun_mk (st := st__law_same) l__law_same c__law_same k__law_same
  have b__law_same := F__law_same.binds (ps := ps__law_same) fun _ _ _ _ _ _ us hl => match us, hl with | [_, _, _], _ => rfl
  have F__law_least := fun_mk (st := st__law_least) l__law_least c__law_least k__law_least
  have b__law_least := F__law_least.binds (ps := ps__law_least) fun _ _ _ _ _ _ us hl => match us, hl with | [_], _ => rfl
  have F__law_unlike := fun_mk (st := st__law_unlike) l__law_unlike c__law_unlike k__law_unlike
  have b__law_unlike := F__law_unlike.binds (ps := ps__law_unlike) fun _ _ _ _ _ _ us hl => match us, hl with | [_, _, _], _ => rfl
  have F__law_sorts := fun_mk (st := st__law_sorts) l__law_sorts c__law_sorts k__law_sorts
  have b__law_sorts := F__law_sorts.binds (ps := ps__law_sorts) fun _ _ _ _ _ _ us hl => match us, hl with | [_], _ => rfl
  have F__law_cost := fun_mk (st := st__law_cost) l__law_cost c__law_cost k__law_cost
  have b__law_cost := F__law_cost.binds (ps := ps__law_cost) fun _ _ _ _ _ _ us hl => match us, hl with | [_, _, _, _], _ => rfl
  have F__law_wrong := fun_mk (st := st__law_wrong) l__law_wrong c__law_wrong k__law_wrong
  have b__law_wrong := F__law_wrong.binds (ps := ps__law_wrong) fun _ _ _ _ _ _ us hl => match us, hl with | [_], _ => rfl
  have F__law_all := fun_mk (st := st__law_all) l__law_all c__law_all k__law_all
  have b__law_all := F__law_all.binds (ps := ps__law_all) fun _ _ _ _ _ _ us hl => match us, hl with | [_, _], _ => rfl
  have F__law_three := fun_mk (st := st__law_three) l__law_three c__law_three k__law_three
  have b__law_three := F__law_three.binds (ps := ps__law_three) fun _ _ _ _ _ _ us hl => match us, hl with | [], _ => rfl
  have F__law_end := fun_mk (st := st__law_end) l__law_end c__law_end k__law_end
  have b__law_end := F__law_end.binds (ps := ps__law_end) fun _ _ _ _ _ _ us hl => match us, hl with | [_, _, _], _ => rfl
  have F__law_long := fun_mk (st := st__law_long) l__law_long c__law_long k__law_long
  have b__law_long := F__law_long.binds (ps := ps__law_long) fun _ _ _ _ _ _ us hl => match us, hl with | [_, _], _ => rfl
  have F__law_wrongs := fun_mk (st := st__law_wrongs) l__law_wrongs c__law_wrongs k__law_wrongs
  have b__law_wrongs := F__law_wrongs.binds (ps := ps__law_wrongs) fun _ _ _ _ _ _ us hl => match us, hl with | [_, _], _ => rfl
  have F_law := fun_mk (st := st_law) l_law c_law k_law
  have b_law := F_law.binds (ps := ps_law) fun _ _ _ _ _ _ us hl => match us, hl with | [_], _ => rfl
  refine ⟨{ f_is_integer := f_is_integer, d_is_integer := PySem.W.fnOf "is_integer" "is_integer" (defArgs st_is_integer) (defBody st_is_integer) (defScope st_is_integer) .none kV_is_integer dc_is_integer pm_is_integer an_is_integer cd_is_integer ct_is_integer, f_check_steps := f_check_steps, d_check_steps := PySem.W.fnOf "check_steps" "check_steps" (defArgs st_check_steps) (defBody st_check_steps) (defScope st_check_steps) .none kV_check_steps dc_check_steps pm_check_steps an_check_steps cd_check_steps ct_check_steps, f_check_good := f_check_good, d_check_good := PySem.W.fnOf "check_good" "check_good" (defArgs st_check_good) (defBody st_check_good) (defScope st_check_good) .none kV_check_good dc_check_good pm_check_good an_check_good cd_check_good ct_check_good, f_Machine_init := f_Machine_init, d_Machine_init := PySem.W.fnOf "__init__" "Machine.__init__" (defArgs st_Machine_init) (defBody st_Machine_init) (defScope st_Machine_init) .none kV_Machine_init dc_Machine_init pm_Machine_init an_Machine_init cd_Machine_init ct_Machine_init, f_Machine_steps := f_Machine_steps, d_Machine_steps := PySem.W.fnOf "steps" "Machine.steps" (defArgs st_Machine_steps) (defBody st_Machine_steps) (defScope st_Machine_steps) .none kV_Machine_steps dc_Machine_steps pm_Machine_steps an_Machine_steps cd_Machine_steps ct_Machine_steps, f_Machine_good := f_Machine_good, d_Machine_good := PySem.W.fnOf "good" "Machine.good" (defArgs st_Machine_good) (defBody st_Machine_good) (defScope st_Machine_good) .none kV_Machine_good dc_Machine_good pm_Machine_good an_Machine_good cd_Machine_good ct_Machine_good, f_Machine_len := f_Machine_len, d_Machine_len := PySem.W.fnOf "__len__" "Machine.__len__" (defArgs st_Machine_len) (defBody st_Machine_len) (defScope st_Machine_len) .none kV_Machine_len dc_Machine_len pm_Machine_len an_Machine_len cd_Machine_len ct_Machine_len, f_is_unlike := f_is_unlike, d_is_unlike := PySem.W.fnOf "is_unlike" "is_unlike" (defArgs st_is_unlike) (defBody st_is_unlike) (defScope st_is_unlike) .none kV_is_unlike dc_is_unlike pm_is_unlike an_is_unlike cd_is_unlike ct_is_unlike, f_goals_of := f_goals_of, d_goals_of := PySem.W.fnOf "goals_of" "goals_of" (defArgs st_goals_of) (defBody st_goals_of) (defScope st_goals_of) .none kV_goals_of dc_goals_of pm_goals_of an_goals_of cd_goals_of ct_goals_of, f_come_to := f_come_to, d_come_to := PySem.W.fnOf "come_to" "come_to" (defArgs st_come_to) (defBody st_come_to) (defScope st_come_to) .none kV_come_to dc_come_to pm_come_to an_come_to cd_come_to ct_come_to, f_useful := f_useful, d_useful := PySem.W.fnOf "useful" "useful" (defArgs st_useful) (defBody st_useful) (defScope st_useful) .none kV_useful dc_useful pm_useful an_useful cd_useful ct_useful, f_counted := f_counted, d_counted := PySem.W.fnOf "counted" "counted" (defArgs st_counted) (defBody st_counted) (defScope st_counted) .none kV_counted dc_counted pm_counted an_counted cd_counted ct_counted, f_numbered := f_numbered, d_numbered := PySem.W.fnOf "numbered" "numbered" (defArgs st_numbered) (defBody st_numbered) (defScope st_numbered) .none kV_numbered dc_numbered pm_numbered an_numbered cd_numbered ct_numbered, f_classes_by := f_classes_by, d_classes_by := PySem.W.fnOf "classes_by" "classes_by" (defArgs st_classes_by) (defBody st_classes_by) (defScope st_classes_by) .none kV_classes_by dc_classes_by pm_classes_by an_classes_by cd_classes_by ct_classes_by, f_shrunk := f_shrunk, d_shrunk := PySem.W.fnOf "shrunk" "shrunk" (defArgs st_shrunk) (defBody st_shrunk) (defScope st_shrunk) .none kV_shrunk dc_shrunk pm_shrunk an_shrunk cd_shrunk ct_shrunk, f_marks_of := f_marks_of, d_marks_of := PySem.W.fnOf "marks_of" "marks_of" (defArgs st_marks_of) (defBody st_marks_of) (defScope st_marks_of) .none kV_marks_of dc_marks_of pm_marks_of an_marks_of cd_marks_of ct_marks_of, f_kinds_of := f_kinds_of, d_kinds_of := PySem.W.fnOf "kinds_of" "kinds_of" (defArgs st_kinds_of) (defBody st_kinds_of) (defScope st_kinds_of) .none kV_kinds_of dc_kinds_of pm_kinds_of an_kinds_of cd_kinds_of ct_kinds_of, f_come_counts := f_come_counts, d_come_counts := PySem.W.fnOf "come_counts" "come_counts" (defArgs st_come_counts) (defBody st_come_counts) (defScope st_come_counts) .none kV_come_counts dc_come_counts pm_come_counts an_come_counts cd_come_counts ct_come_counts, f_fewest := f_fewest, d_fewest := PySem.W.fnOf "fewest" "fewest" (defArgs st_fewest) (defBody st_fewest) (defScope st_fewest) .none kV_fewest dc_fewest pm_fewest an_fewest cd_fewest ct_fewest, f_lean_parts := f_lean_parts, d_lean_parts := PySem.W.fnOf "lean_parts" "lean_parts" (defArgs st_lean_parts) (defBody st_lean_parts) (defScope st_lean_parts) .none kV_lean_parts dc_lean_parts pm_lean_parts an_lean_parts cd_lean_parts ct_lean_parts, f_Plan_init := f_Plan_init, d_Plan_init := PySem.W.fnOf "__init__" "Plan.__init__" (defArgs st_Plan_init) (defBody st_Plan_init) (defScope st_Plan_init) .none kV_Plan_init dc_Plan_init pm_Plan_init an_Plan_init cd_Plan_init ct_Plan_init, f_Plan_gap := f_Plan_gap, d_Plan_gap := PySem.W.fnOf "gap" "Plan.gap" (defArgs st_Plan_gap) (defBody st_Plan_gap) (defScope st_Plan_gap) .none kV_Plan_gap dc_Plan_gap pm_Plan_gap an_Plan_gap cd_Plan_gap ct_Plan_gap, f_Plan_early := f_Plan_early, d_Plan_early := PySem.W.fnOf "early" "Plan.early" (defArgs st_Plan_early) (defBody st_Plan_early) (defScope st_Plan_early) .none kV_Plan_early dc_Plan_early pm_Plan_early an_Plan_early cd_Plan_early ct_Plan_early, f_best_stay := f_best_stay, d_best_stay := PySem.W.fnOf "best_stay" "best_stay" (defArgs st_best_stay) (defBody st_best_stay) (defScope st_best_stay) .none kV_best_stay dc_best_stay pm_best_stay an_best_stay cd_best_stay ct_best_stay, f_goal_for := f_goal_for, d_goal_for := PySem.W.fnOf "goal_for" "goal_for" (defArgs st_goal_for) (defBody st_goal_for) (defScope st_goal_for) .none kV_goal_for dc_goal_for pm_goal_for an_goal_for cd_goal_for ct_goal_for, f_mark_for := f_mark_for, d_mark_for := PySem.W.fnOf "mark_for" "mark_for" (defArgs st_mark_for) (defBody st_mark_for) (defScope st_mark_for) .none kV_mark_for dc_mark_for pm_mark_for an_mark_for cd_mark_for ct_mark_for, f_begin_for := f_begin_for, d_begin_for := PySem.W.fnOf "begin_for" "begin_for" (defArgs st_begin_for) (defBody st_begin_for) (defScope st_begin_for) .none kV_begin_for dc_begin_for pm_begin_for an_begin_for cd_begin_for ct_begin_for, f_built := f_built, d_built := PySem.W.fnOf "built" "built" (defArgs st_built) (defBody st_built) (defScope st_built) .none kV_built dc_built pm_built an_built cd_built ct_built, f_least_wrong := f_least_wrong, d_least_wrong := PySem.W.fnOf "least_wrong" "least_wrong" (defArgs st_least_wrong) (defBody st_least_wrong) (defScope st_least_wrong) .none kV_least_wrong dc_least_wrong pm_least_wrong an_least_wrong cd_least_wrong ct_least_wrong, f_best_lean := f_best_lean, d_best_lean := PySem.W.fnOf "best_lean" "best_lean" (defArgs st_best_lean) (defBody st_best_lean) (defScope st_best_lean) .none kV_best_lean dc_best_lean pm_best_lean an_best_lean cd_best_lean ct_best_lean, f__law_mix := f__law_mix, d__law_mix := PySem.W.fnOf "_law_mix" "_law_mix" (defArgs st__law_mix) (defBody st__law_mix) (defScope st__law_mix) .none kV__law_mix dc__law_mix pm__law_mix an__law_mix cd__law_mix ct__law_mix, f__law_next := f__law_next, d__law_next := PySem.W.fnOf "_law_next" "_law_next" (defArgs st__law_next) (defBody st__law_next) (defScope st__law_next) .none kV__law_next dc__law_next pm__law_next an__law_next cd__law_next ct__law_next, f__law_alike := f__law_alike, d__law_alike := PySem.W.fnOf "_law_alike" "_law_alike" (defArgs st__law_alike) (defBody st__law_alike) (defScope st__law_alike) .none kV__law_alike dc__law_alike pm__law_alike an__law_alike cd__law_alike ct__law_alike, f__law_pick := f__law_pick, d__law_pick := PySem.W.fnOf "_law_pick" "_law_pick" (defArgs st__law_pick) (defBody st__law_pick) (defScope st__law_pick) .none kV__law_pick dc__law_pick pm__law_pick an__law_pick cd__law_pick ct__law_pick, f__law_parts := f__law_parts, d__law_parts := PySem.W.fnOf "_law_parts" "_law_parts" (defArgs st__law_parts) (defBody st__law_parts) (defScope st__law_parts) .none kV__law_parts dc__law_parts pm__law_parts an__law_parts cd__law_parts ct__law_parts, f__law_lengths := f__law_lengths, d__law_lengths := PySem.W.fnOf "_law_lengths" "_law_lengths" (defArgs st__law_lengths) (defBody st__law_lengths) (defScope st__law_lengths) .none kV__law_lengths dc__law_lengths pm__law_lengths an__law_lengths cd__law_lengths ct__law_lengths, f__law_pairs := f__law_pairs, d__law_pairs := PySem.W.fnOf "_law_pairs" "_law_pairs" (defArgs st__law_pairs) (defBody st__law_pairs) (defScope st__law_pairs) .none kV__law_pairs dc__law_pairs pm__law_pairs an__law_pairs cd__law_pairs ct__law_pairs, f__law_same := f__law_same, d__law_same := PySem.W.fnOf "_law_same" "_law_same" (defArgs st__law_same) (defBody st__law_same) (defScope st__law_same) .none kV__law_same dc__law_same pm__law_same an__law_same cd__law_same ct__law_same, f__law_least := f__law_least, d__law_least := PySem.W.fnOf "_law_least" "_law_least" (defArgs st__law_least) (defBody st__law_least) (defScope st__law_least) .none kV__law_least dc__law_least pm__law_least an__law_least cd__law_least ct__law_least, f__law_unlike := f__law_unlike, d__law_unlike := PySem.W.fnOf "_law_unlike" "_law_unlike" (defArgs st__law_unlike) (defBody st__law_unlike) (defScope st__law_unlike) .none kV__law_unlike dc__law_unlike pm__law_unlike an__law_unlike cd__law_unlike ct__law_unlike, f__law_sorts := f__law_sorts, d__law_sorts := PySem.W.fnOf "_law_sorts" "_law_sorts" (defArgs st__law_sorts) (defBody st__law_sorts) (defScope st__law_sorts) .none kV__law_sorts dc__law_sorts pm__law_sorts an__law_sorts cd__law_sorts ct__law_sorts, f__law_cost := f__law_cost, d__law_cost := PySem.W.fnOf "_law_cost" "_law_cost" (defArgs st__law_cost) (defBody st__law_cost) (defScope st__law_cost) .none kV__law_cost dc__law_cost pm__law_cost an__law_cost cd__law_cost ct__law_cost, f__law_wrong := f__law_wrong, d__law_wrong := PySem.W.fnOf "_law_wrong" "_law_wrong" (defArgs st__law_wrong) (defBody st__law_wrong) (defScope st__law_wrong) .none kV__law_wrong dc__law_wrong pm__law_wrong an__law_wrong cd__law_wrong ct__law_wrong, f__law_all := f__law_all, d__law_all := PySem.W.fnOf "_law_all" "_law_all" (defArgs st__law_all) (defBody st__law_all) (defScope st__law_all) .none kV__law_all dc__law_all pm__law_all an__law_all cd__law_all ct__law_all, f__law_three := f__law_three, d__law_three := PySem.W.fnOf "_law_three" "_law_three" (defArgs st__law_three) (defBody st__law_three) (defScope st__law_three) .none kV__law_three dc__law_three pm__law_three an__law_three cd__law_three ct__law_three, f__law_end := f__law_end, d__law_end := PySem.W.fnOf "_law_end" "_law_end" (defArgs st__law_end) (defBody st__law_end) (defScope st__law_end) .none kV__law_end dc__law_end pm__law_end an__law_end cd__law_end ct__law_end, f__law_long := f__law_long, d__law_long := PySem.W.fnOf "_law_long" "_law_long" (defArgs st__law_long) (defBody st__law_long) (defScope st__law_long) .none kV__law_long dc__law_long pm__law_long an__law_long cd__law_long ct__law_long, f__law_wrongs := f__law_wrongs, d__law_wrongs := PySem.W.fnOf "_law_wrongs" "_law_wrongs" (defArgs st__law_wrongs) (defBody st__law_wrongs) (defScope st__law_wrongs) .none kV__law_wrongs dc__law_wrongs pm__law_wrongs an__law_wrongs cd__law_wrongs ct__law_wrongs, f_law := f_law, d_law := PySem.W.fnOf "law" "law" (defArgs st_law) (defBody st_law) (defScope st_law) .none kV_law dc_law pm_law an_law cd_law ct_law, M := C, P := D, q_steps := p_steps, q_good := p_good, u_stands := u1, u_letters := u2, u_kernel := u3, u_early := u4 }, ?_, PySem.W.mg_of X G a_law, fun s v => .of_eq rfl⟩
  exact { F_is_integer := F_is_integer, b_is_integer := b_is_integer, g_is_integer := PySem.W.mg_of X G a_is_integer, F_check_steps := F_check_steps, b_check_steps := b_check_steps, g_check_steps := PySem.W.mg_of X G a_check_steps, F_check_good := F_check_good, b_check_good := b_check_good, g_check_good := PySem.W.mg_of X G a_check_good, F_Machine_init := F_Machine_init, b_Machine_init := b_Machine_init, F_Machine_steps := F_Machine_steps, b_Machine_steps := b_Machine_steps, F_Machine_good := F_Machine_good, b_Machine_good := b_Machine_good, F_Machine_len := F_Machine_len, b_Machine_len := b_Machine_len, F_is_unlike := F_is_unlike, b_is_unlike := b_is_unlike, g_is_unlike := PySem.W.mg_of X G a_is_unlike, F_goals_of := F_goals_of, b_goals_of := b_goals_of, g_goals_of := PySem.W.mg_of X G a_goals_of, F_come_to := F_come_to, b_come_to := b_come_to, g_come_to := PySem.W.mg_of X G a_come_to, F_useful := F_useful, b_useful := b_useful, g_useful := PySem.W.mg_of X G a_useful, F_counted := F_counted, b_counted := b_counted, g_counted := PySem.W.mg_of X G a_counted, F_numbered := F_numbered, b_numbered := b_numbered, g_numbered := PySem.W.mg_of X G a_numbered, F_classes_by := F_classes_by, b_classes_by := b_classes_by, g_classes_by := PySem.W.mg_of X G a_classes_by, F_shrunk := F_shrunk, b_shrunk := b_shrunk, g_shrunk := PySem.W.mg_of X G a_shrunk, F_marks_of := F_marks_of, b_marks_of := b_marks_of, g_marks_of := PySem.W.mg_of X G a_marks_of, F_kinds_of := F_kinds_of, b_kinds_of := b_kinds_of, g_kinds_of := PySem.W.mg_of X G a_kinds_of, F_come_counts := F_come_counts, b_come_counts := b_come_counts, g_come_counts := PySem.W.mg_of X G a_come_counts, F_fewest := F_fewest, b_fewest := b_fewest, g_fewest := PySem.W.mg_of X G a_fewest, F_lean_parts := F_lean_parts, b_lean_parts := b_lean_parts, g_lean_parts := PySem.W.mg_of X G a_lean_parts, F_Plan_init := F_Plan_init, b_Plan_init := b_Plan_init, F_Plan_gap := F_Plan_gap, b_Plan_gap := b_Plan_gap, F_Plan_early := F_Plan_early, b_Plan_early := b_Plan_early, F_best_stay := F_best_stay, b_best_stay := b_best_stay, g_best_stay := PySem.W.mg_of X G a_best_stay, F_goal_for := F_goal_for, b_goal_for := b_goal_for, g_goal_for := PySem.W.mg_of X G a_goal_for, F_mark_for := F_mark_for, b_mark_for := b_mark_for, g_mark_for := PySem.W.mg_of X G a_mark_for, F_begin_for := F_begin_for, b_begin_for := b_begin_for, g_begin_for := PySem.W.mg_of X G a_begin_for, F_built := F_built, b_built := b_built, g_built := PySem.W.mg_of X G a_built, F_least_wrong := F_least_wrong, b_least_wrong := b_least_wrong, g_least_wrong := PySem.W.mg_of X G a_least_wrong, F_best_lean := F_best_lean, b_best_lean := b_best_lean, g_best_lean := PySem.W.mg_of X G a_best_lean, F__law_mix := F__law_mix, b__law_mix := b__law_mix, g__law_mix := PySem.W.mg_of X G a__law_mix, F__law_next := F__law_next, b__law_next := b__law_next, g__law_next := PySem.W.mg_of X G a__law_next, F__law_alike := F__law_alike, b__law_alike := b__law_alike, g__law_alike := PySem.W.mg_of X G a__law_alike, F__law_pick := F__law_pick, b__law_pick := b__law_pick, g__law_pick := PySem.W.mg_of X G a__law_pick, F__law_parts := F__law_parts, b__law_parts := b__law_parts, g__law_parts := PySem.W.mg_of X G a__law_parts, F__law_lengths := F__law_lengths, b__law_lengths := b__law_lengths, g__law_lengths := PySem.W.mg_of X G a__law_lengths, F__law_pairs := F__law_pairs, b__law_pairs := b__law_pairs, g__law_pairs := PySem.W.mg_of X G a__law_pairs, F__law_same := F__law_same, b__law_same := b__law_same, g__law_same := PySem.W.mg_of X G a__law_same, F__law_least := F__law_least, b__law_least := b__law_least, g__law_least := PySem.W.mg_of X G a__law_least, F__law_unlike := F__law_unlike, b__law_unlike := b__law_unlike, g__law_unlike := PySem.W.mg_of X G a__law_unlike, F__law_sorts := F__law_sorts, b__law_sorts := b__law_sorts, g__law_sorts := PySem.W.mg_of X G a__law_sorts, F__law_cost := F__law_cost, b__law_cost := b__law_cost, g__law_cost := PySem.W.mg_of X G a__law_cost, F__law_wrong := F__law_wrong, b__law_wrong := b__law_wrong, g__law_wrong := PySem.W.mg_of X G a__law_wrong, F__law_all := F__law_all, b__law_all := b__law_all, g__law_all := PySem.W.mg_of X G a__law_all, F__law_three := F__law_three, b__law_three := b__law_three, g__law_three := PySem.W.mg_of X G a__law_three, F__law_end := F__law_end, b__law_end := b__law_end, g__law_end := PySem.W.mg_of X G a__law_end, F__law_long := F__law_long, b__law_long := b__law_long, g__law_long := PySem.W.mg_of X G a__law_long, F__law_wrongs := F__law_wrongs, b__law_wrongs := b__law_wrongs, g__law_wrongs := PySem.W.mg_of X G a__law_wrongs, F_law := F_law, b_law := b_law, g_law := PySem.W.mg_of X G a_law, n_all := PySem.W.mg_none_of X G n_all, n_any := PySem.W.mg_none_of X G n_any, n_bool := PySem.W.mg_none_of X G n_bool, n_enumerate := PySem.W.mg_none_of X G n_enumerate, n_int := PySem.W.mg_none_of X G n_int, n_isinstance := PySem.W.mg_none_of X G n_isinstance, n_len := PySem.W.mg_none_of X G n_len, n_list := PySem.W.mg_none_of X G n_list, n_max := PySem.W.mg_none_of X G n_max, n_min := PySem.W.mg_none_of X G n_min, n_range := PySem.W.mg_none_of X G n_range, n_str := PySem.W.mg_none_of X G n_str, n_sum := PySem.W.mg_none_of X G n_sum, n_tuple := PySem.W.mg_none_of X G n_tuple, n_zip := PySem.W.mg_none_of X G n_zip, c_MOST_STANDS := PySem.W.mg_of X G v_MOST_STANDS, c_MOST_LETTERS := PySem.W.mg_of X G v_MOST_LETTERS, c_KERNEL := PySem.W.mg_of X G v_KERNEL, c_EARLY := PySem.W.mg_of X G v_EARLY, mgM := PySem.W.mg_of X G a_M, mgP := PySem.W.mg_of X G a_P, clM := ⟨pgC, hdC, poC, saC⟩, clP := ⟨pgD, hdD, poD, saD⟩, mkM := ⟨mkC, a_Machine_init, i_Machine_init, kcC⟩, mkP := ⟨mkD, a_Plan_init, i_Plan_init, kcD⟩, na_parts := na_parts, na_rows := na_rows, na_marks := na_marks, na_least := na_least, na_kinds := na_kinds, na_counts := na_counts, na_stays := na_stays, me_gap := ⟨a_Plan_gap, i_Plan_gap, k_Plan_gap⟩, me_early := ⟨a_Plan_early, i_Plan_early, k_Plan_early⟩, pr_steps := ⟨q_steps, qg_steps, qt_steps, rest_steps, qr_steps⟩, pr_good := ⟨q_good, qg_good, qt_good, rest_good, qr_good⟩, ln := ⟨a_Machine_len, i_Machine_len⟩, isM := ⟨isa, isn, ist, ism, if_pos (beq_self_eq_true _)⟩ }

end B
open PySem PySem.W PyProof.Rows
open_top hd for PySem.Challenge.rw_butfewrows_k23_whole_least_wrong
namespace B
open PySem PySem.W PyProof.Rows
theorem facts {l : PySem.W.OpenLaw} {w : World} {K : PySem.W.Frag} {mg : Str → Option Value} {fa : Addr} (hfa : mg "law" = some (.ref fa)) (h : ∃ A : Ad, Txt A K mg ∧ mg "law" = some (.ref A.f_law) ∧ ∀ (s : Shared) (v : Value), BindsTo s A.d_law ⟨[v], []⟩ [("_law_script", v)]) :
    ∃ fd : FuncData, (∀ (s : Shared) (v : Value), BindsTo s fd ⟨[v], []⟩ [("_law_script", v)]) ∧ ∀ base : Heap, K.In base → base.Ns mainGlobals mg → L2.FnOk l.prog w K mg base L2.CX0 10 fa fd ["_law_script"] (spLaw K) := by
  obtain ⟨A, T, e, hb⟩ := h
  have e2 := hfa.symm.trans e
  cases e2
  exact ⟨A.d_law, hb, fun base _ _ => ok_law T⟩
end B
open PySem PySem.W PyProof.Rows
set_option maxHeartbeats 0 in
theorem PySem.Challenge.cw_butfewrows_k23_whole_least_wrong_holds : PySem.Challenge.rw_butfewrows_k23_whole_least_wrong.Holds := by
  exact hd (by
  k_fill
  refine L2.walk_of (l := PySem.Challenge.rw_butfewrows_k23_whole_least_wrong) (n := 63) (k := 10) (x := "_law_script") (CX := fun _ => L2.CX0) (sp := fun w => B.spLaw _) rfl (by decide) rfl ⟨rfl, by decide, by decide⟩ (fun w h Y => PySem.W.kIn_of Y) ?F (fun _ _ a ns hl _ hS => ⟨a, ns, rfl, hS, hl, fun _ => rfl⟩) (fun _ _ _ _ _ h => h)
  case F =>
    intro w mg fa h KX G hmg
    refine B.facts hmg ?_
    refine' B.txt_mk KX G ?a_is_integer ?a_check_steps ?a_check_good ?a_is_unlike ?a_goals_of ?a_come_to ?a_useful ?a_counted ?a_numbered ?a_classes_by ?a_shrunk ?a_marks_of ?a_kinds_of ?a_come_counts ?a_fewest ?a_lean_parts ?a_best_stay ?a_goal_for ?a_mark_for ?a_begin_for ?a_built ?a_least_wrong ?a_best_lean ?a__law_mix ?a__law_next ?a__law_alike ?a__law_pick ?a__law_parts ?a__law_lengths ?a__law_pairs ?a__law_same ?a__law_least ?a__law_unlike ?a__law_sorts ?a__law_cost ?a__law_wrong ?a__law_all ?a__law_three ?a__law_end ?a__law_long ?a__law_wrongs ?a_law ?a_M ?a_P ?a_Machine_init ?i_Machine_init ?a_Machine_len ?i_Machine_len ?a_Plan_init ?i_Plan_init ?a_Plan_gap ?i_Plan_gap ?a_Plan_early ?i_Plan_early ?q_steps ?qg_steps ?qt_steps ?qr_steps ?q_good ?qg_good ?qt_good ?qr_good ?l_is_integer ?c_is_integer ?k_is_integer ?l_check_steps ?c_check_steps ?k_check_steps ?l_check_good ?c_check_good ?k_check_good ?l_Machine_init ?c_Machine_init ?k_Machine_init ?l_Machine_steps ?c_Machine_steps ?k_Machine_steps ?l_Machine_good ?c_Machine_good ?k_Machine_good ?l_Machine_len ?c_Machine_len ?k_Machine_len ?l_is_unlike ?c_is_unlike ?k_is_unlike ?l_goals_of ?c_goals_of ?k_goals_of ?l_come_to ?c_come_to ?k_come_to ?l_useful ?c_useful ?k_useful ?l_counted ?c_counted ?k_counted ?l_numbered ?c_numbered ?k_numbered ?l_classes_by ?c_classes_by ?k_classes_by ?l_shrunk ?c_shrunk ?k_shrunk ?l_marks_of ?c_marks_of ?k_marks_of ?l_kinds_of ?c_kinds_of ?k_kinds_of ?l_come_counts ?c_come_counts ?k_come_counts ?l_fewest ?c_fewest ?k_fewest ?l_lean_parts ?c_lean_parts ?k_lean_parts ?l_Plan_init ?c_Plan_init ?k_Plan_init ?l_Plan_gap ?c_Plan_gap ?k_Plan_gap ?l_Plan_early ?c_Plan_early ?k_Plan_early ?l_best_stay ?c_best_stay ?k_best_stay ?l_goal_for ?c_goal_for ?k_goal_for ?l_mark_for ?c_mark_for ?k_mark_for ?l_begin_for ?c_begin_for ?k_begin_for ?l_built ?c_built ?k_built ?l_least_wrong ?c_least_wrong ?k_least_wrong ?l_best_lean ?c_best_lean ?k_best_lean ?l__law_mix ?c__law_mix ?k__law_mix ?l__law_next ?c__law_next ?k__law_next ?l__law_alike ?c__law_alike ?k__law_alike ?l__law_pick ?c__law_pick ?k__law_pick ?l__law_parts ?c__law_parts ?k__law_parts ?l__law_lengths ?c__law_lengths ?k__law_lengths ?l__law_pairs ?c__law_pairs ?k__law_pairs ?l__law_same ?c__law_same ?k__law_same ?l__law_least ?c__law_least ?k__law_least ?l__law_unlike ?c__law_unlike ?k__law_unlike ?l__law_sorts ?c__law_sorts ?k__law_sorts ?l__law_cost ?c__law_cost ?k__law_cost ?l__law_wrong ?c__law_wrong ?k__law_wrong ?l__law_all ?c__law_all ?k__law_all ?l__law_three ?c__law_three ?k__law_three ?l__law_end ?c__law_end ?k__law_end ?l__law_long ?c__law_long ?k__law_long ?l__law_wrongs ?c__law_wrongs ?k__law_wrongs ?l_law ?c_law ?k_law ?n_all ?n_any ?n_bool ?n_enumerate ?n_int ?n_isinstance ?n_len ?n_list ?n_max ?n_min ?n_range ?n_str ?n_sum ?n_tuple ?n_zip ?v_MOST_STANDS ?v_MOST_LETTERS ?v_KERNEL ?v_EARLY ?pgC ?hdC ?poC ?saC ?mkC ?kcC ?pgD ?hdD ?poD ?saD ?mkD ?kcD ?na_parts ?na_rows ?na_marks ?na_least ?na_kinds ?na_counts ?na_stays ?isa ?isn ?ist ?ism
    (case a_is_integer => k_is)
    (case a_check_steps => k_is)
    (case a_check_good => k_is)
    (case a_is_unlike => k_is)
    (case a_goals_of => k_is)
    (case a_come_to => k_is)
    (case a_useful => k_is)
    (case a_counted => k_is)
    (case a_numbered => k_is)
    (case a_classes_by => k_is)
    (case a_shrunk => k_is)
    (case a_marks_of => k_is)
    (case a_kinds_of => k_is)
    (case a_come_counts => k_is)
    (case a_fewest => k_is)
    (case a_lean_parts => k_is)
    (case a_best_stay => k_is)
    (case a_goal_for => k_is)
    (case a_mark_for => k_is)
    (case a_begin_for => k_is)
    (case a_built => k_is)
    (case a_least_wrong => k_is)
    (case a_best_lean => k_is)
    (case a__law_mix => k_is)
    (case a__law_next => k_is)
    (case a__law_alike => k_is)
    (case a__law_pick => k_is)
    (case a__law_parts => k_is)
    (case a__law_lengths => k_is)
    (case a__law_pairs => k_is)
    (case a__law_same => k_is)
    (case a__law_least => k_is)
    (case a__law_unlike => k_is)
    (case a__law_sorts => k_is)
    (case a__law_cost => k_is)
    (case a__law_wrong => k_is)
    (case a__law_all => k_is)
    (case a__law_three => k_is)
    (case a__law_end => k_is)
    (case a__law_long => k_is)
    (case a__law_wrongs => k_is)
    (case a_law => k_is)
    (case a_M => k_is)
    (case a_P => k_is)
    (case a_Machine_init => k_is)
    (case i_Machine_init => k_is)
    (case a_Machine_len => k_is)
    (case i_Machine_len => k_is)
    (case a_Plan_init => k_is)
    (case i_Plan_init => k_is)
    (case a_Plan_gap => k_is)
    (case i_Plan_gap => k_is)
    (case a_Plan_early => k_is)
    (case i_Plan_early => k_is)
    (case q_steps => k_is)
    (case qg_steps => k_is)
    (case qt_steps => k_is)
    (case qr_steps => k_is)
    (case q_good => k_is)
    (case qg_good => k_is)
    (case qt_good => k_is)
    (case qr_good => k_is)
    (case l_is_integer => k_is)
    (case c_is_integer => k_is)
    (case k_is_integer => k_is)
    (case l_check_steps => k_is)
    (case c_check_steps => k_is)
    (case k_check_steps => k_is)
    (case l_check_good => k_is)
    (case c_check_good => k_is)
    (case k_check_good => k_is)
    (case l_Machine_init => k_is)
    (case c_Machine_init => k_is)
    (case k_Machine_init => k_is)
    (case l_Machine_steps => k_is)
    (case c_Machine_steps => k_is)
    (case k_Machine_steps => k_is)
    (case l_Machine_good => k_is)
    (case c_Machine_good => k_is)
    (case k_Machine_good => k_is)
    (case l_Machine_len => k_is)
    (case c_Machine_len => k_is)
    (case k_Machine_len => k_is)
    (case l_is_unlike => k_is)
    (case c_is_unlike => k_is)
    (case k_is_unlike => k_is)
    (case l_goals_of => k_is)
    (case c_goals_of => k_is)
    (case k_goals_of => k_is)
    (case l_come_to => k_is)
    (case c_come_to => k_is)
    (case k_come_to => k_is)
    (case l_useful => k_is)
    (case c_useful => k_is)
    (case k_useful => k_is)
    (case l_counted => k_is)
    (case c_counted => k_is)
    (case k_counted => k_is)
    (case l_numbered => k_is)
    (case c_numbered => k_is)
    (case k_numbered => k_is)
    (case l_classes_by => k_is)
    (case c_classes_by => k_is)
    (case k_classes_by => k_is)
    (case l_shrunk => k_is)
    (case c_shrunk => k_is)
    (case k_shrunk => k_is)
    (case l_marks_of => k_is)
    (case c_marks_of => k_is)
    (case k_marks_of => k_is)
    (case l_kinds_of => k_is)
    (case c_kinds_of => k_is)
    (case k_kinds_of => k_is)
    (case l_come_counts => k_is)
    (case c_come_counts => k_is)
    (case k_come_counts => k_is)
    (case l_fewest => k_is)
    (case c_fewest => k_is)
    (case k_fewest => k_is)
    (case l_lean_parts => k_is)
    (case c_lean_parts => k_is)
    (case k_lean_parts => k_is)
    (case l_Plan_init => k_is)
    (case c_Plan_init => k_is)
    (case k_Plan_init => k_is)
    (case l_Plan_gap => k_is)
    (case c_Plan_gap => k_is)
    (case k_Plan_gap => k_is)
    (case l_Plan_early => k_is)
    (case c_Plan_early => k_is)
    (case k_Plan_early => k_is)
    (case l_best_stay => k_is)
    (case c_best_stay => k_is)
    (case k_best_stay => k_is)
    (case l_goal_for => k_is)
    (case c_goal_for => k_is)
    (case k_goal_for => k_is)
    (case l_mark_for => k_is)
    (case c_mark_for => k_is)
    (case k_mark_for => k_is)
    (case l_begin_for => k_is)
    (case c_begin_for => k_is)
    (case k_begin_for => k_is)
    (case l_built => k_is)
    (case c_built => k_is)
    (case k_built => k_is)
    (case l_least_wrong => k_is)
    (case c_least_wrong => k_is)
    (case k_least_wrong => k_is)
    (case l_best_lean => k_is)
    (case c_best_lean => k_is)
    (case k_best_lean => k_is)
    (case l__law_mix => k_is)
    (case c__law_mix => k_is)
    (case k__law_mix => k_is)
    (case l__law_next => k_is)
    (case c__law_next => k_is)
    (case k__law_next => k_is)
    (case l__law_alike => k_is)
    (case c__law_alike => k_is)
    (case k__law_alike => k_is)
    (case l__law_pick => k_is)
    (case c__law_pick => k_is)
    (case k__law_pick => k_is)
    (case l__law_parts => k_is)
    (case c__law_parts => k_is)
    (case k__law_parts => k_is)
    (case l__law_lengths => k_is)
    (case c__law_lengths => k_is)
    (case k__law_lengths => k_is)
    (case l__law_pairs => k_is)
    (case c__law_pairs => k_is)
    (case k__law_pairs => k_is)
    (case l__law_same => k_is)
    (case c__law_same => k_is)
    (case k__law_same => k_is)
    (case l__law_least => k_is)
    (case c__law_least => k_is)
    (case k__law_least => k_is)
    (case l__law_unlike => k_is)
    (case c__law_unlike => k_is)
    (case k__law_unlike => k_is)
    (case l__law_sorts => k_is)
    (case c__law_sorts => k_is)
    (case k__law_sorts => k_is)
    (case l__law_cost => k_is)
    (case c__law_cost => k_is)
    (case k__law_cost => k_is)
    (case l__law_wrong => k_is)
    (case c__law_wrong => k_is)
    (case k__law_wrong => k_is)
    (case l__law_all => k_is)
    (case c__law_all => k_is)
    (case k__law_all => k_is)
    (case l__law_three => k_is)
    (case c__law_three => k_is)
    (case k__law_three => k_is)
    (case l__law_end => k_is)
    (case c__law_end => k_is)
    (case k__law_end => k_is)
    (case l__law_long => k_is)
    (case c__law_long => k_is)
    (case k__law_long => k_is)
    (case l__law_wrongs => k_is)
    (case c__law_wrongs => k_is)
    (case k__law_wrongs => k_is)
    (case l_law => k_is)
    (case c_law => k_is)
    (case k_law => k_is)
    (case n_all => k_is)
    (case n_any => k_is)
    (case n_bool => k_is)
    (case n_enumerate => k_is)
    (case n_int => k_is)
    (case n_isinstance => k_is)
    (case n_len => k_is)
    (case n_list => k_is)
    (case n_max => k_is)
    (case n_min => k_is)
    (case n_range => k_is)
    (case n_str => k_is)
    (case n_sum => k_is)
    (case n_tuple => k_is)
    (case n_zip => k_is)
    (case v_MOST_STANDS => k_is)
    (case v_MOST_LETTERS => k_is)
    (case v_KERNEL => k_is)
    (case v_EARLY => k_is)
    (case pgC => k_is)
    (case hdC => k_is)
    (case poC => k_is)
    (case saC => k_is)
    (case mkC => k_is)
    (case kcC => k_is)
    (case pgD => k_is)
    (case hdD => k_is)
    (case poD => k_is)
    (case saD => k_is)
    (case mkD => k_is)
    (case kcD => k_is)
    (case na_parts => k_is)
    (case na_rows => k_is)
    (case na_marks => k_is)
    (case na_least => k_is)
    (case na_kinds => k_is)
    (case na_counts => k_is)
    (case na_stays => k_is)
    (case isa => k_is)
    (case isn => k_is)
    (case ist => k_is)
    (case ism => k_is))
