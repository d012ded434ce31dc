import PyProof.Rows.All
import Wide.All
import OpenK.AllK
import Wide.FinOn
import HandS.ForMost
import HandS.Walk
import HandS.Wide
import HandS.Star
import HandS.Style
import HandS.IsInst
import HandS.NoneIn
import KE.GoesEnum
import HandS.Defaults
import HandS.TupSets
import KE.KeyNested
import KE.SortCalls
import KE.KStateDown
import HandS.Head0
import HandS.Head1
import HandS.Head2
import HandS.HeadHook1
import HandS.HeadHook2
import HandS.HeadHook4
import HandS.EndBits
import PySem.Challenge.RW_wholekits_k51_whole_texts_shown
set_option Elab.async false
set_option linter.all false
set_option maxRecDepth 100000
set_option maxHeartbeats 4000000
/-! DL1: a layer of pure data over the hand layer: tuples are values, lists stand in a store. -/
namespace DL
open PySem PySem.Spec L2

/-- pure data: tuples by value; a list that nobody changes any more by value (scr: an ordinary one that the store doesn't know; frz: the script, a constant); a list that may change by its address -/
inductive D where
  | non | bl (b : Bool) | int (i : Int) | str (x : Str) | tup (xs : List D) | scr (xs : List D) | frz (xs : List D) | ref (a : Addr)

/-- what stands at an address of the store -/
inductive SO where
  | lst (ds : List D)
abbrev Store := Addr → Option SO
def Store.set (S : Store) (a : Addr) (o : SO) : Store := fun b => if b = a then some o else S b
def Store.del (S : Store) (a : Addr) : Store := fun b => if b = a then none else S b
theorem Store.set_same {S : Store} {a : Addr} {o : SO} : S.set a o a = some o := by unfold Store.set; rw [if_pos rfl]
theorem Store.set_ne {S : Store} {a b : Addr} {o : SO} (h : b ≠ a) : S.set a o b = S b := by unfold Store.set; rw [if_neg h]
theorem Store.del_same {S : Store} {a : Addr} : S.del a a = none := by unfold Store.del; rw [if_pos rfl]
theorem Store.del_ne {S : Store} {a b : Addr} (h : b ≠ a) : S.del a b = S b := by unfold Store.del; rw [if_neg h]
theorem Store.set_set {S : Store} {a : Addr} {o u : SO} : (S.set a o).set a u = S.set a u := by
  funext b; unfold Store.set; by_cases h : b = a <;> simp [h]
theorem Store.del_set {S : Store} {a : Addr} {o : SO} (h : S a = none) : (S.set a o).del a = S := by
  funext b; unfold Store.set Store.del; by_cases e : b = a
  · subst e; simp [h]
  · simp [e]
theorem Store.set_self {S : Store} {a : Addr} {o : SO} (h : S a = some o) : S.set a o = S := by
  funext b; unfold Store.set; by_cases e : b = a
  · subst e; simp [h]
  · simp [e]
theorem Store.ne {S : Store} {a b : Addr} {o : SO} (h : S a = some o) (h' : S b = none) : a ≠ b := by
  intro e; subst e; rw [h] at h'; cases h'

/-! ### representation -/
/-- the written part; addresses that are set aside (lists that a comprehension is filling) -/
structure Kz where
  f : PySem.W.Frag
  z : Addr → Prop
/-- a list that is never changed: locked, or written -/
def SqF (K : Kz) (H : Hp) (a : Addr) (xs : List V) : Prop := (∃ o, H a = some (.frz o (.lst xs))) ∨
    ∃ (o : Obj) (its : Array Value) (n : Nat), K.f.lookup a = some o ∧ o.cls = .type "list" ∧ o.dict = none ∧ o.data = .seq its n ∧ its.size ≤ sizeLine ∧ Vals xs its.toList
theorem SqF.list {K : Kz} {H : Hp} {a : Addr} {xs : List V} (h : SqF K H a xs) : SqL K.f H a xs := by
  rcases h with ⟨o, h⟩ | h
  · exact .inl (.inr ⟨o, h⟩)
  · exact .inr h
/-- what a step keeps: tuples, locked lists; what the store doesn't know; new ones of the store are new -/
structure Ext (K : Kz) (S S' : Store) (H H' : Hp) : Prop where
  tup : ∀ b xs, SqT K.f H b xs → SqT K.f H' b xs
  frz : ∀ b o u, H b = some (.frz o u) → H' b = some (.frz o u)
  keep : ∀ b o, H b = some o → S b = none → H' b = some o
  new : ∀ b o, H b = some o → S b = none → S' b = none
mutual
inductive Rp (K : Kz) (S : Store) (H : Hp) : D → V → Prop
  | non : Rp K S H .non .non
  | bl (b : Bool) : Rp K S H (.bl b) (.bl b)
  | int (i : Int) : Rp K S H (.int i) (.int i)
  | str (x : Str) : Rp K S H (.str x) (.str x)
  | ref (a : Addr) : Rp K S H (.ref a) (.ref a)
  | tup {ds : List D} {a : Addr} {vs : List V} : SqT K.f H a vs → Rps K S H ds vs → Rp K S H (.tup ds) (.ref a)
  | scr {ds : List D} {a : Addr} {vs : List V} : H a = some (.lst vs) → S a = none → ¬ K.z a → Rps K S H ds vs → Rp K S H (.scr ds) (.ref a)
  | frz {ds : List D} {a : Addr} {vs : List V} : SqF K H a vs → Rps K S H ds vs → Rp K S H (.frz ds) (.ref a)
inductive Rps (K : Kz) (S : Store) (H : Hp) : List D → List V → Prop
  | nil : Rps K S H [] []
  | cons {d : D} {v : V} {ds : List D} {vs : List V} : Rp K S H d v → Rps K S H ds vs → Rps K S H (d :: ds) (v :: vs)
end
section
variable {K : Kz} {S S1 S2 : Store} {H H' H1 H2 : Hp}
theorem SqF.ext {a : Addr} {xs : List V} (h : SqF K H a xs) (x : Ext K S S1 H H') : SqF K H' a xs := by
  rcases h with ⟨o, h⟩ | h
  · exact .inl ⟨o, x.frz _ _ _ h⟩
  · exact .inr h
theorem Ext.refl : Ext K S S H H := ⟨fun _ _ h => h, fun _ _ _ h => h, fun _ _ h _ => h, fun _ _ _ h => h⟩
theorem Ext.trans (a : Ext K S S1 H H1) (b : Ext K S1 S2 H1 H2) : Ext K S S2 H H2 :=
  ⟨fun c xs h => b.tup c xs (a.tup c xs h), fun c o u h => b.frz c o u (a.frz c o u h), fun c o h n => b.keep c o (a.keep c o h n) (a.new c o h n), fun c o h n => b.new c o (a.keep c o h n) (a.new c o h n)⟩
mutual
theorem Rp.ext (h : Ext K S S1 H H') : ∀ {d : D} {v : V}, Rp K S H d v → Rp K S1 H' d v
  | _, _, .non => .non
  | _, _, .bl b => .bl b
  | _, _, .int i => .int i
  | _, _, .str x => .str x
  | _, _, .ref a => .ref a
  | _, _, .tup q r => .tup (h.tup _ _ q) (Rps.ext h r)
  | _, _, .scr q n z r => .scr (h.keep _ _ q n) (h.new _ _ q n) z (Rps.ext h r)
  | _, _, .frz q r => .frz (q.ext h) (Rps.ext h r)
theorem Rps.ext (h : Ext K S S1 H H') : ∀ {ds : List D} {vs : List V}, Rps K S H ds vs → Rps K S1 H' ds vs
  | _, _, .nil => .nil
  | _, _, .cons r t => .cons (Rp.ext h r) (Rps.ext h t)
end
theorem Rps.length : ∀ {ds : List D} {vs : List V}, Rps K S H ds vs → ds.length = vs.length
  | _, _, .nil => rfl
  | _, _, .cons _ t => congrArg (· + 1) (Rps.length t)
theorem Rps.get : ∀ {ds : List D} {vs : List V} {i : Nat} {d : D}, Rps K S H ds vs → ds[i]? = some d → ∃ v, vs[i]? = some v ∧ Rp K S H d v
  | _, _, _, _, .nil, e => by simp at e
  | _, _, 0, _, .cons r _, e => by simp at e; subst e; exact ⟨_, rfl, r⟩
  | _, _, i + 1, d, .cons _ t, e => by
    obtain ⟨v, h1, h2⟩ := Rps.get (i := i) (d := d) t (by simpa using e)
    exact ⟨v, by simpa using h1, h2⟩
theorem Rps.getV : ∀ {ds : List D} {vs : List V} {i : Nat} {v : V}, Rps K S H ds vs → vs[i]? = some v → ∃ d, ds[i]? = some d ∧ Rp K S H d v
  | _, _, _, _, .nil, e => by simp at e
  | _, _, 0, _, .cons r _, e => by simp at e; subst e; exact ⟨_, rfl, r⟩
  | _, _, i + 1, v, .cons _ t, e => by
    obtain ⟨d, h1, h2⟩ := Rps.getV (i := i) (v := v) t (by simpa using e)
    exact ⟨d, by simpa using h1, h2⟩
theorem Rps.append : ∀ {ds es : List D} {vs us : List V}, Rps K S H ds vs → Rps K S H es us → Rps K S H (ds ++ es) (vs ++ us)
  | _, _, _, _, .nil, s => s
  | _, _, _, _, .cons r t, s => .cons r (Rps.append t s)
theorem Rps.take : ∀ {ds : List D} {vs : List V} (n : Nat), Rps K S H ds vs → Rps K S H (ds.take n) (vs.take n)
  | _, _, 0, _ => .nil
  | _, _, _ + 1, .nil => .nil
  | _, _, n + 1, .cons r t => .cons r (Rps.take n t)
theorem Rps.drop : ∀ {ds : List D} {vs : List V} (n : Nat), Rps K S H ds vs → Rps K S H (ds.drop n) (vs.drop n)
  | _, _, 0, r => r
  | _, _, _ + 1, .nil => .nil
  | _, _, n + 1, .cons _ t => Rps.drop n t
theorem Rps.set {d : D} {v : V} (r : Rp K S H d v) : ∀ {ds : List D} {vs : List V} (i : Nat), Rps K S H ds vs → Rps K S H (ds.set i d) (vs.set i v)
  | _, _, _, .nil => .nil
  | _, _, 0, .cons _ t => .cons r t
  | _, _, i + 1, .cons q t => .cons q (Rps.set r i t)
theorem Rps.reverse : ∀ {ds : List D} {vs : List V}, Rps K S H ds vs → Rps K S H ds.reverse vs.reverse
  | _, _, .nil => .nil
  | _, _, .cons r t => by
    rw [List.reverse_cons, List.reverse_cons]
    exact (Rps.reverse t).append (.cons r .nil)
theorem Rps.ints : ∀ {ns : List Int}, Rps K S H (ns.map D.int) (ns.map V.int)
  | [] => .nil
  | _ :: _ => .cons (.int _) Rps.ints
theorem Rps.strs : ∀ {ns : List Str}, Rps K S H (ns.map D.str) (ns.map V.str)
  | [] => .nil
  | _ :: _ => .cons (.str _) Rps.strs
theorem Rps.of_ints : ∀ {ns : List Int} {vs : List V}, Rps K S H (ns.map D.int) vs → vs = ns.map V.int
  | [], _, .nil => rfl
  | _ :: _, _, .cons (.int _) t => by rw [Rps.of_ints t]; rfl
theorem Rps.of_strs : ∀ {ns : List Str} {vs : List V}, Rps K S H (ns.map D.str) vs → vs = ns.map V.str
  | [], _, .nil => rfl
  | _ :: _, _, .cons (.str _) t => by rw [Rps.of_strs t]; rfl
theorem Rps.of_bls : ∀ {ns : List Bool} {vs : List V}, Rps K S H (ns.map D.bl) vs → vs = ns.map V.bl
  | [], _, .nil => rfl
  | _ :: _, _, .cons (.bl _) t => by rw [Rps.of_bls t]; rfl
end

/-- the store is held -/
def SOk (K : Kz) (S : Store) (H : Hp) (a : Addr) : SO → Prop
  | .lst ds => ∃ vs, H a = some (.lst vs) ∧ Rps K S H ds vs
structure RelS (K : Kz) (S : Store) (H : Hp) : Prop where
  at_ : ∀ a o, S a = some o → SOk K S H a o
  aside : ∀ a, K.z a → S a = none ∧ ∃ o, H a = some o
/-- the slots -/
abbrev Env' := List (Option D)
structure RelE (K : Kz) (S : Store) (H : Hp) (ρ : Env') (σ : St) : Prop where
  len : ρ.length = σ.length
  at_ : ∀ (i : Nat) (d : D), ρ[i]? = some (some d) → ∃ v, σ[i]? = some (some v) ∧ Rp K S H d v
section
variable {K : Kz} {S S1 S2 : Store} {H H1 H2 : Hp} {ρ : Env'} {σ : St}
theorem RelE.ext (r : RelE K S H ρ σ) (x : Ext K S S1 H H1) : RelE K S1 H1 ρ σ :=
  ⟨r.len, fun i d e => let ⟨v, h1, h2⟩ := r.at_ i d e; ⟨v, h1, h2.ext x⟩⟩
theorem RelE.set {d : D} {v : V} (r : RelE K S H ρ σ) (h : Rp K S H d v) (i : Nat) : RelE K S H (ρ.set i (some d)) (σ.set i (some v)) := by
  refine ⟨by rw [List.length_set, List.length_set]; exact r.len, fun j e h' => ?_⟩
  by_cases hj : i = j
  · subst hj
    by_cases hl : i < ρ.length
    · rw [List.getElem?_set_self hl] at h'
      cases h'
      exact ⟨v, List.getElem?_set_self (by rw [← r.len]; exact hl), h⟩
    · rw [List.getElem?_eq_none (by simpa using hl)] at h'
      cases h'
  · rw [List.getElem?_set_ne hj] at h'
    obtain ⟨u, h1, h2⟩ := r.at_ j e h'
    exact ⟨u, by rw [List.getElem?_set_ne hj]; exact h1, h2⟩
theorem RelE.drop (r : RelE K S H ρ σ) (i : Nat) : RelE K S H (ρ.set i none) (σ.set i none) := by
  refine ⟨by rw [List.length_set, List.length_set]; exact r.len, fun j e h' => ?_⟩
  by_cases hj : i = j
  · subst hj
    by_cases hl : i < ρ.length
    · rw [List.getElem?_set_self hl] at h'
      cases h'
    · rw [List.getElem?_eq_none (by simpa using hl)] at h'
      cases h'
  · rw [List.getElem?_set_ne hj] at h'
    obtain ⟨u, h1, h2⟩ := r.at_ j e h'
    exact ⟨u, by rw [List.getElem?_set_ne hj]; exact h1, h2⟩
theorem RelS.free {a : Addr} (r : RelS K S H) (h : H a = none) : S a = none := by
  cases e : S a with
  | none => rfl
  | some o =>
    cases o with
    | lst ds => obtain ⟨vs, q, _⟩ := r.at_ a _ e; rw [h] at q; cases q
theorem RelS.nz {a : Addr} (r : RelS K S H) (h : H a = none) : ¬ K.z a := fun z => by
  obtain ⟨_, o, e⟩ := r.aside a z
  rw [h] at e; cases e
theorem RelS.side (r : RelS K S H) (x : Ext K S S1 H H1) : ∀ a, K.z a → S1 a = none ∧ ∃ o, H1 a = some o := fun a z =>
  let ⟨n, o, e⟩ := r.aside a z
  ⟨x.new _ _ e n, o, x.keep _ _ e n⟩
theorem sqt_new {a : Addr} {o : HO} (h : H a = none) : ∀ b xs, SqT K.f H b xs → SqT K.f (upd H a o) b xs := fun b xs q => by
  rcases q with (q | ⟨u, q⟩) | q
  · exact .inl (.inl (by rw [upd_ne (ne_of_none q h)]; exact q))
  · exact .inl (.inr ⟨u, by rw [upd_ne (ne_of_none q h)]; exact q⟩)
  · exact .inr q
theorem sqt_upd {a : Addr} {o : HO} {vs : List V} (h : H a = some (.lst vs)) : ∀ b xs, SqT K.f H b xs → SqT K.f (upd H a o) b xs := fun b xs q => by
  rcases q with (q | ⟨u, q⟩) | q
  · exact .inl (.inl (by rw [upd_ne (ne_of q h (fun z => nomatch z))]; exact q))
  · exact .inl (.inr ⟨u, by rw [upd_ne (ne_of q h (fun z => nomatch z))]; exact q⟩)
  · exact .inr q
/-- a new object that the store doesn't know -/
theorem Ext.hid {a : Addr} {o : HO} (h : H a = none) : Ext K S S H (upd H a o) :=
  ⟨sqt_new h, fun b o u q => by rw [upd_ne (ne_of_none q h)]; exact q, fun b u q _ => by rw [upd_ne (ne_of_none q h)]; exact q, fun _ _ _ n => n⟩
theorem RelS.hid {a : Addr} {o : HO} (r : RelS K S H) (h : H a = none) : RelS K S (upd H a o) := ⟨fun b u e => by
  cases u with
  | lst ds =>
    obtain ⟨vs, q, rr⟩ := r.at_ b _ e
    exact ⟨vs, by rw [upd_ne (ne_of_none q h)]; exact q, rr.ext (Ext.hid h)⟩, r.side (Ext.hid h)⟩
/-- a new list -/
theorem Ext.made {a : Addr} {o : HO} {u : SO} (h : H a = none) : Ext K S (S.set a u) H (upd H a o) :=
  ⟨sqt_new h, fun b o u q => by rw [upd_ne (ne_of_none q h)]; exact q, fun b u q _ => by rw [upd_ne (ne_of_none q h)]; exact q, fun b o q n => by rw [Store.set_ne (ne_of_none q h)]; exact n⟩
theorem RelS.made {a : Addr} {ds : List D} {vs : List V} (r : RelS K S H) (h : H a = none) (q : Rps K S H ds vs) : RelS K (S.set a (.lst ds)) (upd H a (.lst vs)) := ⟨fun b u e => by
  by_cases hb : b = a
  · subst hb
    rw [Store.set_same] at e
    cases e
    exact ⟨vs, upd_same, q.ext (Ext.made h)⟩
  · rw [Store.set_ne hb] at e
    cases u with
    | lst ds =>
      obtain ⟨us, q, rr⟩ := r.at_ b _ e
      exact ⟨us, by rw [upd_ne hb]; exact q, rr.ext (Ext.made h)⟩, r.side (Ext.made h)⟩
/-- a list is changed -/
theorem Ext.wrote {a : Addr} {ds : SO} {u : SO} {vs : List V} {o : HO} (e : S a = some ds) (h : H a = some (.lst vs)) : Ext K S (S.set a u) H (upd H a o) :=
  ⟨sqt_upd h, fun b o u q => by rw [upd_ne (ne_of q h (fun z => nomatch z))]; exact q, fun b u q n => by rw [upd_ne (fun z => by subst z; rw [e] at n; cases n)]; exact q, fun b o q n => by rw [Store.set_ne (fun z => by subst z; rw [e] at n; cases n)]; exact n⟩
theorem RelS.wrote {a : Addr} {ds es : List D} {vs ws : List V} (r : RelS K S H) (e : S a = some (.lst ds)) (h : H a = some (.lst vs)) (q : Rps K S H es ws) : RelS K (S.set a (.lst es)) (upd H a (.lst ws)) := ⟨fun b u e' => by
  by_cases hb : b = a
  · subst hb
    rw [Store.set_same] at e'
    cases e'
    exact ⟨ws, upd_same, q.ext (Ext.wrote e h)⟩
  · rw [Store.set_ne hb] at e'
    cases u with
    | lst ds =>
      obtain ⟨us, q, rr⟩ := r.at_ b _ e'
      exact ⟨us, by rw [upd_ne hb]; exact q, rr.ext (Ext.wrote e h)⟩, r.side (Ext.wrote e h)⟩
/-- less is known -/
def Sub (S1 S : Store) : Prop := ∀ a o, S1 a = some o → S a = some o
theorem Sub.refl (S : Store) : Sub S S := fun _ _ h => h
theorem Sub.trans {S3 : Store} (a : Sub S S1) (b : Sub S1 S3) : Sub S S3 := fun c o h => b c o (a c o h)
theorem Sub.set {a : Addr} {o : SO} (h : S a = none) : Sub S (S.set a o) := fun b u e => by
  rw [Store.set_ne (fun z => by subst z; rw [h] at e; cases e)]; exact e
theorem Sub.del {a : Addr} : Sub (S.del a) S := fun b u e => by
  by_cases hb : b = a
  · subst hb; rw [Store.del_same] at e; cases e
  · rw [Store.del_ne hb] at e; exact e
theorem Sub.none {a : Addr} (h : Sub S1 S) (n : S a = none) : S1 a = none := by
  cases e : S1 a with
  | none => rfl
  | some o => rw [h a o e] at n; cases n
theorem Ext.sub (h : Sub S1 S) : Ext K S S1 H H := ⟨fun _ _ h => h, fun _ _ _ h => h, fun _ _ h _ => h, fun b o q n => h.none n⟩
theorem RelS.sub (r : RelS K S H) (h : Sub S1 S) : RelS K S1 H := ⟨fun a o e => by
  cases o with
  | lst ds =>
    obtain ⟨us, q, rr⟩ := r.at_ a _ (h a _ e)
    exact ⟨us, q, rr.ext (Ext.sub h)⟩, r.side (Ext.sub h)⟩
end

/-! ### the judgements over data -/
abbrev DK := D → Store → Prop
abbrev DT := Env' → Store → DK → Prop
abbrev DB := Env' → Store → (Bool → Store → Prop) → Prop
abbrev DA := Env' → Store → (List D → Store → Prop) → Prop
structure DEnds where
  nx : Env' → Store → Prop
  rt : DK
  bk : Env' → Store → Prop := fun _ _ => False
  ct : Env' → Store → Prop := fun _ _ => False
abbrev DSt := DEnds → Env' → Store → Prop
def Po (K : Kz) (S : Store) (H : Hp) (P : DK) (Q : VK) : Prop := ∀ d S' v H', Ext K S S' H H' → Rp K S' H' d v → RelS K S' H' → P d S' → Q v H'
def PoB (K : Kz) (S : Store) (H : Hp) (P : Bool → Store → Prop) (Q : Bool → Hp → Prop) : Prop := ∀ b S' H', Ext K S S' H H' → RelS K S' H' → P b S' → Q b H'
def PoA (K : Kz) (S : Store) (H : Hp) (P : List D → Store → Prop) (Q : List V → Hp → Prop) : Prop := ∀ ds S' vs H', Ext K S S' H H' → Rps K S' H' ds vs → RelS K S' H' → P ds S' → Q vs H'
def PoS (K : Kz) (S : Store) (H : Hp) (P : Env' → Store → Prop) (Q : St → Hp → Prop) : Prop := ∀ ρ' S' σ' H', Ext K S S' H H' → RelE K S' H' ρ' σ' → RelS K S' H' → P ρ' S' → Q σ' H'
structure PoD (K : Kz) (S : Store) (H : Hp) (P : DEnds) (Q : Ends) : Prop where
  nx : PoS K S H P.nx Q.nx
  rt : Po K S H P.rt Q.rt
  bk : PoS K S H P.bk Q.bk
  ct : PoS K S H P.ct Q.ct
def lE (K : Kz) (w : DT) : TE := fun σ H Q => ∃ ρ S P, RelE K S H ρ σ ∧ RelS K S H ∧ w ρ S P ∧ Po K S H P Q
def lB (K : Kz) (w : DB) : TT := fun σ H Q => ∃ ρ S P, RelE K S H ρ σ ∧ RelS K S H ∧ w ρ S P ∧ PoB K S H P Q
def lA (K : Kz) (w : DA) : TA := fun σ H Q => ∃ ρ S P, RelE K S H ρ σ ∧ RelS K S H ∧ w ρ S P ∧ PoA K S H P Q
def lS (K : Kz) (w : DSt) : TS := fun Q σ H => ∃ ρ S P, RelE K S H ρ σ ∧ RelS K S H ∧ w P ρ S ∧ PoD K S H P Q
def DE (X : Cx) (e : Expr) (w : DT) : Prop := ∀ Z, PE X e (lE ⟨X.K, Z⟩ w)
def DTest (X : Cx) (e : Expr) (w : DB) : Prop := ∀ Z, PT X e (lB ⟨X.K, Z⟩ w)
def DW (X : Cx) (e : Expr) (w : DB) : Prop := ∀ Z, PW X e (lB ⟨X.K, Z⟩ w)
def DArgs (X : Cx) (es : List Expr) (w : DA) : Prop := ∀ Z, PA X es (lA ⟨X.K, Z⟩ w)
def DS (X : Cx) (st : Stmt) (w : DSt) : Prop := ∀ Z, PS X st (lS ⟨X.K, Z⟩ w)
def DSs (X : Cx) (st : List Stmt) (w : DSt) : Prop := ∀ Z, PSs X st (lS ⟨X.K, Z⟩ w)
section
variable {K : Kz} {S S1 : Store} {H H1 : Hp}
theorem Po.ext {P : DK} {Q : VK} (p : Po K S H P Q) (x : Ext K S S1 H H1) : Po K S1 H1 P Q := fun d S' v H' y r s q => p d S' v H' (x.trans y) r s q
theorem PoB.ext {P : Bool → Store → Prop} {Q : Bool → Hp → Prop} (p : PoB K S H P Q) (x : Ext K S S1 H H1) : PoB K S1 H1 P Q := fun d S' H' y s q => p d S' H' (x.trans y) s q
theorem PoA.ext {P : List D → Store → Prop} {Q : List V → Hp → Prop} (p : PoA K S H P Q) (x : Ext K S S1 H H1) : PoA K S1 H1 P Q := fun d S' v H' y r s q => p d S' v H' (x.trans y) r s q
theorem PoS.ext {P : Env' → Store → Prop} {Q : St → Hp → Prop} (p : PoS K S H P Q) (x : Ext K S S1 H H1) : PoS K S1 H1 P Q := fun d S' v H' y r s q => p d S' v H' (x.trans y) r s q
theorem PoD.ext {P : DEnds} {Q : Ends} (p : PoD K S H P Q) (x : Ext K S S1 H H1) : PoD K S1 H1 P Q := ⟨p.nx.ext x, p.rt.ext x, p.bk.ext x, p.ct.ext x⟩
end
section
variable {X : Cx} {e a b c : Expr} {t t' : TE} {pos : Pos}
theorem pe_imp (h : PE X e t) (i : ∀ σ H Q, t' σ H Q → t σ H Q) : PE X e t' := ⟨fun pins s σ H Q I q => h.run pins s σ H Q I (i σ H Q q)⟩
theorem pt_imp {t t' : TT} (h : PT X e t) (i : ∀ σ H Q, t' σ H Q → t σ H Q) : PT X e t' := ⟨fun pins s σ H Q I q => h.run pins s σ H Q I (i σ H Q q)⟩
theorem pw_imp {t t' : TT} (h : PW X e t) (i : ∀ σ H Q, t' σ H Q → t σ H Q) : PW X e t' := ⟨fun w pins s σ H Q I q => h.run w pins s σ H Q I (i σ H Q q)⟩
theorem pa_imp {es : List Expr} {t t' : TA} (h : PA X es t) (i : ∀ σ H Q, t' σ H Q → t σ H Q) : PA X es t' := ⟨fun pos pins s σ H Q I q => h.run pos pins s σ H Q I (i σ H Q q)⟩
theorem ps_imp {st : Stmt} {t t' : TS} (h : PS X st t) (i : ∀ D σ H, t' D σ H → t D σ H) : PS X st t' := ⟨fun pins s σ H Q I q => h.run pins s σ H Q I (i _ _ _ q)⟩
theorem pss_imp {st : List Stmt} {t t' : TS} (h : PSs X st t) (i : ∀ D σ H, t' D σ H → t D σ H) : PSs X st t' := ⟨fun pins s σ H Q I q => h.run pins s σ H Q I (i _ _ _ q)⟩
theorem opR_imp {f : Value → Value → Sem Value} {r r' : R2} (h : OpR X f r) (i : ∀ x y H Q, r' x y H Q → r x y H Q) : OpR X f r' := fun pins s σ H x y v u Q I rx ry q => h pins s σ H x y v u Q I rx ry (i _ _ _ _ q)
theorem callR_imp {f : Value} {r r' : List V → Hp → VK → Prop} (h : CallR X f r) (i : ∀ xs H Q, r' xs H Q → r xs H Q) : CallR X f r' := fun pins s σ H xs us Q I rx q => h pins s σ H xs us Q I rx (i _ _ _ q)
end
end DL

/-! DL2: rules for expressions, tests, arguments. -/
namespace DL
open PySem PySem.Spec L2

/-! ### names, constants, operators -/
def wVar (i : Nat) : DT := fun ρ S P => match ρ[i]? with | some (some d) => P d S | _ => False
def wC (d : D) : DT := fun _ S P => P d S
abbrev DR2 := D → D → Store → DK → Prop
abbrev DR1 := D → Store → DK → Prop
abbrev DRs := List D → Store → DK → Prop
def lR2 (K : Kz) (r : DR2) : R2 := fun x y H Q => ∃ S P d e, RelS K S H ∧ Rp K S H d x ∧ Rp K S H e y ∧ r d e S P ∧ Po K S H P Q
def lR1 (K : Kz) (r : DR1) : V → Hp → VK → Prop := fun x H Q => ∃ S P d, RelS K S H ∧ Rp K S H d x ∧ r d S P ∧ Po K S H P Q
def lRs (K : Kz) (r : DRs) : List V → Hp → VK → Prop := fun xs H Q => ∃ S P ds, RelS K S H ∧ Rps K S H ds xs ∧ r ds S P ∧ Po K S H P Q
def wOp (r : DR2) (wa wb : DT) : DT := fun ρ S P => wa ρ S fun x S1 => wb ρ S1 fun y S2 => r x y S2 P
def wUn (r : DR1) (wa : DT) : DT := fun ρ S P => wa ρ S fun x S1 => r x S1 P
def DOp (X : Cx) (f : Value → Value → Sem Value) (r : DR2) : Prop := ∀ Z, OpR X f (lR2 ⟨X.K, Z⟩ r)
def DUn (X : Cx) (f : Value → Sem Value) (r : DR1) : Prop := ∀ Z, UnR X f (lR1 ⟨X.K, Z⟩ r)
def DIx (X : Cx) (r : DR2) : Prop := ∀ Z, IxR X (lR2 ⟨X.K, Z⟩ r)
def DCall (X : Cx) (f : Value) (r : DRs) : Prop := ∀ Z, CallR X f (lRs ⟨X.K, Z⟩ r)
section
variable {X : Cx} {e a b c : Expr} {wa wb wc : DT} {pos : Pos}
theorem dv (i : Nat) {x : Str} (hN : X.N[i]? = some x := by rfl) (hv : Vis X.env.scope x := by first | exact Or.inl rfl | exact Or.inr (Or.inl rfl) | exact Or.inr (Or.inr rfl)) (hd : (x == ("__debug__" : Str)) = false := by decide)
    (hcd : (x == ("__classdict__" : Str)) = false := by decide) : DE X (.Name x pos) (wVar i) := fun Z => pe_imp (pv i hN hv hd hcd) fun σ H Q ⟨ρ, S, P, hE, hS, hw, hP⟩ => by
  unfold wVar at hw
  split at hw
  · rename_i d e
    obtain ⟨v, h1, h2⟩ := hE.at_ i d e
    exact ⟨v, h1, hP d S v H Ext.refl h2 hS hw⟩
  · exact hw.elim
theorem d_int {i j} : DE X (.Constant (.int i) j pos) (wC (.int i)) := fun Z => pe_imp pe_int fun _ _ _ ⟨_, S, P, _, hS, hw, hP⟩ => hP _ S _ _ Ext.refl (.int i) hS hw
theorem d_bl {i j} : DE X (.Constant (.bool i) j pos) (wC (.bl i)) := fun Z => pe_imp pe_bl fun _ _ _ ⟨_, S, P, _, hS, hw, hP⟩ => hP _ S _ _ Ext.refl (.bl i) hS hw
theorem d_non {j} : DE X (.Constant .none j pos) (wC .non) := fun Z => pe_imp pe_non fun _ _ _ ⟨_, S, P, _, hS, hw, hP⟩ => hP _ S _ _ Ext.refl .non hS hw
theorem d_str {x j} : DE X (.Constant (.str x) j pos) (wC (.str x)) := fun Z => pe_imp pe_str fun _ _ _ ⟨_, S, P, _, hS, hw, hP⟩ => hP _ S _ _ Ext.refl (.str x) hS hw
/-- a constant of the module that is no object -/
theorem d_globS {x z : Str} {t : Tok} (hm : X.mg x = some (.str z t)) (hg : Gl X x := by rfl) (hd : (x == ("__debug__" : Str)) = false := by decide) : DE X (.Name x pos) (wC (.str z)) := fun Z => pe_imp (pe_glob (v := .str z) hg hm ⟨t, rfl⟩ hd) fun _ _ _ ⟨_, S, P, _, hS, hw, hP⟩ => hP _ S _ _ Ext.refl (.str z) hS hw
theorem d_globI {x : Str} {z : Int} {t : Tok} (hm : X.mg x = some (.int z t)) (hg : Gl X x := by rfl) (hd : (x == ("__debug__" : Str)) = false := by decide) : DE X (.Name x pos) (wC (.int z)) := fun Z => pe_imp (pe_glob (v := .int z) hg hm ⟨t, rfl⟩ hd) fun _ _ _ ⟨_, S, P, _, hS, hw, hP⟩ => hP _ S _ _ Ext.refl (.int z) hS hw
theorem lop {K : Kz} {r : DR2} {σ : St} {H : Hp} {Q : VK} : lE K (wOp r wa wb) σ H Q → tOp (lR2 K r) (lE K wa) (lE K wb) σ H Q := fun ⟨ρ, S, P, hE, hS, hw, hP⟩ =>
  ⟨ρ, S, _, hE, hS, hw, fun _ _ _ _ x1 r1 s1 q1 => ⟨ρ, _, _, hE.ext x1, s1, q1, fun _ _ _ _ x2 r2 s2 q2 => ⟨_, P, _, _, s2, r1.ext x2, r2, q2, (hP.ext x1).ext x2⟩⟩⟩
theorem d_op {op : Operator} {r : DR2} (ho : DOp X (binaryOp op) r) (ha : DE X a wa) (hb : DE X b wb) : DE X (.BinOp a op b pos) (wOp r wa wb) := fun Z => pe_imp (pe_op (ho Z) (ha Z) (hb Z)) fun _ _ _ h => lop h
theorem d_cmp {op : CmpOp} {r : DR2} (ho : DOp X (compareOp op) r) (ha : DE X a wa) (hb : DE X b wb) (hm : behindInMarks op b = false) : DE X (.Compare a [op] [b] pos) (wOp r wa wb) := fun Z => pe_imp (pe_cmpR (ho Z) (ha Z) (hb Z) hm) fun _ _ _ h => lop h
theorem d_ix {r : DR2} (hr : DIx X r) (ha : DE X a wa) (hb : DE X b wb) (hs : PlainIx b := by exact fun _ _ => rfl) : DE X (.Subscript a b pos) (wOp r wa wb) := fun Z => pe_imp (pe_ix (hr Z) (ha Z) (hb Z) hs) fun _ _ _ h => lop h
theorem d_un {op : UnaryOp} {r : DR1} (ho : DUn X (unaryOp op) r) (ha : DE X a wa) : DE X (.UnaryOp op a pos) (wUn r wa) := fun Z => pe_imp (pe_un (ho Z) (ha Z)) fun _ _ _ ⟨ρ, S, P, hE, hS, hw, hP⟩ =>
  ⟨ρ, S, _, hE, hS, hw, fun _ _ _ _ x1 r1 s1 q1 => ⟨_, P, _, s1, r1, q1, hP.ext x1⟩⟩

/-! ### tests -/
def wT (w : DT) : DB := fun ρ S P => w ρ S fun d S1 => match d with | .bl b => P b S1 | _ => False
theorem ltest {K : Kz} {w : DT} {σ : St} {H : Hp} {Q : Bool → Hp → Prop} : lB K (wT w) σ H Q → lE K w σ H (fun x H1 => ∃ k, x = .bl k ∧ Q k H1) := fun ⟨ρ, S, P, hE, hS, hw, hP⟩ =>
  ⟨ρ, S, _, hE, hS, hw, fun d S1 v H1 x1 r1 s1 q1 => by
    cases d with
    | bl b => cases r1; exact ⟨b, rfl, hP b S1 H1 x1 s1 q1⟩
    | _ => exact q1.elim⟩
theorem dt_val {w : DT} (h : DE X e w) (he : ∀ whole, isTrue e X.env whole = (do let v ← whole; standAt e.pos; holding [v] (truthy v)) := by intro _; rfl) : DTest X e (wT w) := fun Z => pt_imp (pt_val (h Z) he) fun _ _ _ h => ltest h
theorem dt_cmp {op : CmpOp} {r : DR2} (ho : DOp X (compareOp op) r) (ha : DE X a wa) (hb : DE X b wb) (hm : behindInMarks op b = false) : DTest X (.Compare a [op] [b] pos) (wT (wOp r wa wb)) := fun Z => pt_imp (pt_cmpR (ho Z) (ha Z) (hb Z) hm) fun _ _ _ h => by
    obtain ⟨ρ, S, P, hE, hS, hw, hP⟩ := ltest h
    exact lop ⟨ρ, S, P, hE, hS, hw, hP⟩
def wNotT (w : DB) : DB := fun ρ S P => w ρ S fun b S1 => P (!b) S1
def wAndT (w u : DB) : DB := fun ρ S P => w ρ S fun b S1 => if b = true then u ρ S1 P else P false S1
def wOrT (w u : DB) : DB := fun ρ S P => w ρ S fun b S1 => if b = true then P true S1 else u ρ S1 P
theorem dt_not {w : DB} (h : DTest X a w) : DTest X (.UnaryOp .Not a pos) (wNotT w) := fun Z => pt_imp (pt_not (h Z)) fun _ _ _ ⟨ρ, S, P, hE, hS, hw, hP⟩ =>
  ⟨ρ, S, _, hE, hS, hw, fun _ _ _ x1 s1 q1 => hP _ _ _ x1 s1 q1⟩
theorem dw_and1 {w : DB} (h : DTest X a w) : DW X (.BoolOp .And [a] pos) w := fun Z => pw_and1 (h Z)
theorem dw_or1 {w : DB} (h : DTest X a w) : DW X (.BoolOp .Or [a] pos) w := fun Z => pw_or1 (h Z)
theorem dw_and {w u : DB} {rest : List Expr} (ha : DTest X a w) (hb : DW X (.BoolOp .And (b :: rest) pos) u) : DW X (.BoolOp .And (a :: b :: rest) pos) (wAndT w u) := fun Z => pw_imp (pw_and (ha Z) (hb Z)) fun _ _ _ ⟨ρ, S, P, hE, hS, hw, hP⟩ =>
  ⟨ρ, S, _, hE, hS, hw, fun b _ _ x1 s1 q1 => by
    cases b with
    | true => exact ⟨ρ, _, P, hE.ext x1, s1, q1, hP.ext x1⟩
    | false => exact hP _ _ _ x1 s1 q1⟩
theorem dw_or {w u : DB} {rest : List Expr} (ha : DTest X a w) (hb : DW X (.BoolOp .Or (b :: rest) pos) u) : DW X (.BoolOp .Or (a :: b :: rest) pos) (wOrT w u) := fun Z => pw_imp (pw_or (ha Z) (hb Z)) fun _ _ _ ⟨ρ, S, P, hE, hS, hw, hP⟩ =>
  ⟨ρ, S, _, hE, hS, hw, fun b _ _ x1 s1 q1 => by
    cases b with
    | false => exact ⟨ρ, _, P, hE.ext x1, s1, q1, hP.ext x1⟩
    | true => exact hP _ _ _ x1 s1 q1⟩
theorem dt_pw {w : DB} (h : DW X e w) : DTest X e w := fun Z => (h Z).pt
def wAndV (w u : DT) : DT := fun ρ S P => w ρ S fun d S1 => match d with | .bl true => u ρ S1 P | .bl false => P (.bl false) S1 | _ => False
def wOrV (w u : DT) : DT := fun ρ S P => w ρ S fun d S1 => match d with | .bl true => P (.bl true) S1 | .bl false => u ρ S1 P | _ => False
def wNotV (w : DT) : DT := fun ρ S P => w ρ S fun d S1 => match d with | .bl b => P (.bl (!b)) S1 | _ => False
theorem d_one {op} {w : DT} (h : DE X a w) : DE X (.BoolOp op [a] pos) w := fun Z => pe_one (h Z)
theorem d_and {w u : DT} {rest : List Expr} (ha : DE X a w) (hb : DE X (.BoolOp .And (b :: rest) pos) u) : DE X (.BoolOp .And (a :: b :: rest) pos) (wAndV w u) := fun Z => pe_imp (pe_and (ha Z) (hb Z)) fun _ _ _ ⟨ρ, S, P, hE, hS, hw, hP⟩ =>
  ⟨ρ, S, _, hE, hS, hw, fun d _ _ _ x1 r1 s1 q1 => by
    cases d with
    | bl b =>
      cases r1
      refine ⟨b, rfl, ?_⟩
      cases b with
      | true => exact ⟨ρ, _, P, hE.ext x1, s1, q1, hP.ext x1⟩
      | false => exact hP _ _ _ _ x1 (.bl false) s1 q1
    | _ => exact q1.elim⟩
theorem d_or {w u : DT} {rest : List Expr} (ha : DE X a w) (hb : DE X (.BoolOp .Or (b :: rest) pos) u) : DE X (.BoolOp .Or (a :: b :: rest) pos) (wOrV w u) := fun Z => pe_imp (pe_or (ha Z) (hb Z)) fun _ _ _ ⟨ρ, S, P, hE, hS, hw, hP⟩ =>
  ⟨ρ, S, _, hE, hS, hw, fun d _ _ _ x1 r1 s1 q1 => by
    cases d with
    | bl b =>
      cases r1
      refine ⟨b, rfl, ?_⟩
      cases b with
      | true => exact hP _ _ _ _ x1 (.bl true) s1 q1
      | false => exact ⟨ρ, _, P, hE.ext x1, s1, q1, hP.ext x1⟩
    | _ => exact q1.elim⟩
theorem d_not {w : DT} (h : DE X a w) : DE X (.UnaryOp .Not a pos) (wNotV w) := fun Z => pe_imp (pe_not (h Z)) fun _ _ _ ⟨ρ, S, P, hE, hS, hw, hP⟩ =>
  ⟨ρ, S, _, hE, hS, hw, fun d _ _ _ x1 r1 s1 q1 => by
    cases d with
    | bl b => cases r1; exact ⟨b, rfl, hP _ _ _ _ x1 (.bl _) s1 q1⟩
    | _ => exact q1.elim⟩
def wIfE (t : DB) (wa wb : DT) : DT := fun ρ S P => t ρ S fun b S1 => if b = true then wa ρ S1 P else wb ρ S1 P
theorem d_ifE {t : DB} (hc : DTest X c t) (ha : DE X a wa) (hb : DE X b wb) : DE X (.IfExp c a b pos) (wIfE t wa wb) := fun Z => pe_imp (pe_ifExp (hc Z) (ha Z) (hb Z)) fun _ _ _ ⟨ρ, S, P, hE, hS, hw, hP⟩ =>
  ⟨ρ, S, _, hE, hS, hw, fun b _ _ x1 s1 q1 => by
    cases b with
    | true => exact ⟨ρ, _, P, hE.ext x1, s1, q1, hP.ext x1⟩
    | false => exact ⟨ρ, _, P, hE.ext x1, s1, q1, hP.ext x1⟩⟩
def wChain (r r' : DR2) (wa wb wc : DT) : DT := fun ρ S P => wa ρ S fun x S1 => wb ρ S1 fun y S2 => r x y S2 fun k S3 => match k with | .bl true => wc ρ S3 fun z S4 => r' y z S4 P | .bl false => P (.bl false) S3 | _ => False
theorem lchain {K : Kz} {r r' : DR2} {σ : St} {H : Hp} {Q : VK} : lE K (wChain r r' wa wb wc) σ H Q → tChain (lR2 K r) (lR2 K r') (lE K wa) (lE K wb) (lE K wc) σ H Q := fun ⟨ρ, S, P, hE, hS, hw, hP⟩ =>
  ⟨ρ, S, _, hE, hS, hw, fun _ _ _ _ x1 r1 s1 q1 => ⟨ρ, _, _, hE.ext x1, s1, q1, fun _ _ _ _ x2 r2 s2 q2 => ⟨_, _, _, _, s2, r1.ext x2, r2, q2, fun d _ _ _ x3 r3 s3 q3 => by
    cases d with
    | bl b =>
      cases r3
      refine ⟨b, rfl, ?_⟩
      cases b with
      | true => exact ⟨ρ, _, _, ((hE.ext x1).ext x2).ext x3, s3, q3, fun _ _ _ _ x4 r4 s4 q4 => ⟨_, P, _, _, s4, (r2.ext x3).ext x4, r4, q4, (((hP.ext x1).ext x2).ext x3).ext x4⟩⟩
      | false => exact hP _ _ _ _ ((x1.trans x2).trans x3) (.bl false) s3 q3
    | _ => exact q3.elim⟩⟩⟩
theorem d_chain {op op' : CmpOp} {r r' : DR2} (ho : DOp X (compareOp op) r) (ho' : DOp X (compareOp op') r') (ha : DE X a wa) (hb : DE X b wb) (hc : DE X c wc) (hm : lastMarks [op, op'] [b, c] = false := by with_unfolding_all rfl) : DE X (.Compare a [op, op'] [b, c] pos) (wChain r r' wa wb wc) := fun Z => pe_imp (pe_chain (ho Z) (ho' Z) (ha Z) (hb Z) (hc Z) hm) fun _ _ _ h => lchain h
theorem dt_chain {op op' : CmpOp} {r r' : DR2} (ho : DOp X (compareOp op) r) (ho' : DOp X (compareOp op') r') (ha : DE X a wa) (hb : DE X b wb) (hc : DE X c wc) (hm : lastMarks [op, op'] [b, c] = false := by with_unfolding_all rfl) : DTest X (.Compare a [op, op'] [b, c] pos) (wT (wChain r r' wa wb wc)) := fun Z => pt_imp (pt_chain (ho Z) (ho' Z) (ha Z) (hb Z) (hc Z) hm) fun _ _ _ h => by
    obtain ⟨ρ, S, P, hE, hS, hw, hP⟩ := ltest h
    exact lchain ⟨ρ, S, P, hE, hS, hw, hP⟩
end
end DL

/-! DL3: operators, subscripts, displays, calls of built-ins. -/
namespace DL
open PySem PySem.Spec L2

/-- the items of a tuple or list -/
def seqOf (S : Store) : D → Option (List D)
  | .tup ds => some ds
  | .scr ds => some ds
  | .frz ds => some ds
  | .ref a => match S a with | some (.lst ds) => some ds | none => none
  | _ => none
theorem seq_rp {K : Kz} {S : Store} {H : Hp} {d : D} {v : V} {ds : List D} (hS : RelS K S H) (r : Rp K S H d v) (h : seqOf S d = some ds) : ∃ a vs, v = .ref a ∧ (SqL K.f H a vs ∨ SqT K.f H a vs) ∧ Rps K S H ds vs := by
  cases r with
  | tup q r => simp only [seqOf, Option.some.injEq] at h; subst h; exact ⟨_, _, rfl, .inr q, r⟩
  | scr q n nz r => simp only [seqOf, Option.some.injEq] at h; subst h; exact ⟨_, _, rfl, .inl (SqL.of q), r⟩
  | frz q r => simp only [seqOf, Option.some.injEq] at h; subst h; exact ⟨_, _, rfl, .inl q.list, r⟩
  | ref a =>
    unfold seqOf at h
    simp only at h
    split at h
    · rename_i ds' e
      cases h
      obtain ⟨vs, q, r⟩ := hS.at_ a _ e
      exact ⟨a, vs, rfl, .inl (SqL.of q), r⟩
    · cases h
  | _ => simp [seqOf] at h
/-- the items of a list -/
def lstOf (S : Store) : D → Option (List D)
  | .scr ds => some ds
  | .frz ds => some ds
  | .ref a => match S a with | some (.lst ds) => some ds | none => none
  | _ => none
theorem lst_rp {K : Kz} {S : Store} {H : Hp} {d : D} {v : V} {ds : List D} (hS : RelS K S H) (r : Rp K S H d v) (h : lstOf S d = some ds) : ∃ a vs, v = .ref a ∧ SqL K.f H a vs ∧ Rps K S H ds vs := by
  cases r with
  | scr q n nz r => simp only [lstOf, Option.some.injEq] at h; subst h; exact ⟨_, _, rfl, SqL.of q, r⟩
  | frz q r => simp only [lstOf, Option.some.injEq] at h; subst h; exact ⟨_, _, rfl, q.list, r⟩
  | ref a =>
    unfold lstOf at h
    simp only at h
    split at h
    · rename_i ds' e
      cases h
      obtain ⟨vs, q, r⟩ := hS.at_ a _ e
      exact ⟨a, vs, rfl, SqL.of q, r⟩
    · cases h
  | _ => simp [lstOf] at h
/-- the items of a list that stands in the heap -/
def curOf (S : Store) : D → Option (List D)
  | .scr ds => some ds
  | .ref a => match S a with | some (.lst ds) => some ds | none => none
  | _ => none
theorem cur_rp {K : Kz} {S : Store} {H : Hp} {d : D} {v : V} {ds : List D} (hS : RelS K S H) (r : Rp K S H d v) (h : curOf S d = some ds) : ∃ a vs, v = .ref a ∧ H a = some (.lst vs) ∧ Rps K S H ds vs := by
  cases r with
  | scr q n nz r => simp only [curOf, Option.some.injEq] at h; subst h; exact ⟨_, _, rfl, q, r⟩
  | ref a =>
    unfold curOf at h
    simp only at h
    split at h
    · rename_i ds' e
      cases h
      obtain ⟨vs, q, r⟩ := hS.at_ a _ e
      exact ⟨a, vs, rfl, q, r⟩
    · cases h
  | _ => simp [curOf] at h
/-- f of what is there -/
def wSome {α : Type} (o : Option α) (f : α → Prop) : Prop := match o with | some a => f a | none => False
theorem wSome_some {α : Type} {a : α} {f : α → Prop} : wSome (some a) f = f a := rfl
theorem wSome.get {α : Type} {o : Option α} {f : α → Prop} (h : wSome o f) : ∃ a, o = some a ∧ f a := by
  cases o with
  | none => exact h.elim
  | some a => exact ⟨a, rfl, h⟩
theorem wSome.of {α : Type} {o : Option α} {a : α} {f : α → Prop} (e : o = some a) (h : f a) : wSome o f := by subst e; exact h

section
variable {X : Cx}
theorem opI {f : Value → Value → Sem Value} {r r' : R2} (h : OpR X f r) (i : ∀ x y H Q, r' x y H Q → r x y H Q) : OpR X f r' := fun pins s σ H x y v u Q I rx ry q => h pins s σ H x y v u Q I rx ry (i _ _ _ _ q)
theorem ixI {r r' : R2} (h : IxR X r) (i : ∀ x y H Q, r' x y H Q → r x y H Q) : IxR X r' := fun val sl pins s σ H x y v u Q I rx ry q => h val sl pins s σ H x y v u Q I rx ry (i _ _ _ _ q)
theorem unI {f : Value → Sem Value} {r r' : V → Hp → VK → Prop} (h : UnR X f r) (i : ∀ x H Q, r' x H Q → r x H Q) : UnR X f r' := fun pins s σ H x v Q I rx q => h pins s σ H x v Q I rx (i _ _ _ q)
theorem callI {f : Value} {r r' : List V → Hp → VK → Prop} (h : CallR X f r) (i : ∀ xs H Q, r' xs H Q → r xs H Q) : CallR X f r' := fun pins s σ H xs us Q I rx q => h pins s σ H xs us Q I rx (i _ _ _ q)
theorem slI {r r' : V → Option Int → Option Int → Hp → VK → Prop} (h : SlR X r) (i : ∀ x lo hi H Q, r' x lo hi H Q → r x lo hi H Q) : SlR X r' := fun pins s σ H x v vl vu lo hi sl Q I rx hs pl pu q => h pins s σ H x v vl vu lo hi sl Q I rx hs pl pu (i _ _ _ _ _ q)
theorem mtI {id : String} {r r' : V → List V → Hp → VK → Prop} (h : MtR X id r) (i : ∀ x xs H Q, r' x xs H Q → r x xs H Q) : MtR X id r' := fun pins s σ H x xs v us Q I rx rs q => h pins s σ H x xs v us Q I rx rs (i _ _ _ _ q)

/-! ### + - * // % ** -/
def rAddD : DR2
  | .int i, .int j, S, P => P (.int (i + j)) S
  | .str a, .str b, S, P => a.length + b.length ≤ sizeLine ∧ P (.str (a ++ b)) S
  | .tup xs, .tup ys, S, P => xs ≠ [] ∧ xs.length + ys.length ≤ sizeLine ∧ P (.tup (xs ++ ys)) S
  | x, y, S, P => wSome (curOf S x) fun xs => wSome (curOf S y) fun ys => xs.length + ys.length ≤ sizeLine ∧ P (.scr (xs ++ ys)) S
theorem cat_imp {K : Kz} {x y : V} {H : Hp} {Q : VK} {S : Store} {P : DK} {d e : D} (hS : RelS K S H) (rx : Rp K S H d x) (ry : Rp K S H e y) (hP : Po K S H P Q)
    (h : wSome (curOf S d) fun xs => wSome (curOf S e) fun ys => xs.length + ys.length ≤ sizeLine ∧ P (.scr (xs ++ ys)) S) : rCat x y H Q := by
  obtain ⟨xs, e1, h⟩ := h.get
  obtain ⟨ys, e2, hz, h⟩ := h.get
  obtain ⟨a, vs, rfl, q1, r1⟩ := cur_rp hS rx e1
  obtain ⟨b, us, rfl, q2, r2⟩ := cur_rp hS ry e2
  refine ⟨a, b, vs, us, rfl, rfl, q1, q2, by rw [← r1.length, ← r2.length]; exact hz, fun p hp => ?_⟩
  exact hP _ S _ _ (Ext.hid hp) (.scr upd_same (hS.free hp) (hS.nz hp) ((r1.append r2).ext (Ext.hid hp))) (hS.hid hp) h
theorem add_ok : DOp X (binaryOp .Add) rAddD := fun Z => opI (op_add.or (op_add_str.or (op_catT.or op_cat))) fun x y H Q ⟨S, P, d, e, hS, rx, ry, h, hP⟩ => by
  cases rx with
  | int i =>
    cases ry with
    | int j => exact .inl ⟨i, j, rfl, rfl, hP _ S _ _ Ext.refl (.int _) hS h⟩
    | _ => exact h.elim
  | str a =>
    cases ry with
    | str b => exact .inr (.inl ⟨a, b, rfl, rfl, h.1, hP _ S _ _ Ext.refl (.str _) hS h.2⟩)
    | _ => exact h.elim
  | tup q r =>
    cases ry with
    | tup q2 r2 =>
      obtain ⟨hn, hz, h⟩ := h
      have hl := r.length
      have hl2 := r2.length
      refine .inr (.inr (.inl ⟨_, _, _, _, rfl, rfl, q, q2, ?_, by rw [← hl, ← hl2]; exact hz, ?_⟩))
      · intro z; subst z; cases r; exact hn rfl
      · first
          | exact ⟨fun e => by
              subst e
              cases r2
              rw [List.append_nil] at h
              exact hP _ S _ _ Ext.refl (.tup q r) hS h, fun _ p hp => hP _ S _ _ (Ext.hid hp) (.tup (SqT.of upd_same) ((r.append r2).ext (Ext.hid hp))) (hS.hid hp) h⟩
          | trace_state
    | _ => exact h.elim
  | non => exact h.elim
  | bl _ => exact h.elim
  | scr q n nz r => exact .inr (.inr (.inr (cat_imp hS (.scr q n nz r) ry hP (by cases ry <;> exact h))))
  | frz q r => exact .inr (.inr (.inr (cat_imp hS (.frz q r) ry hP (by cases ry <;> exact h))))
  | ref a => exact .inr (.inr (.inr (cat_imp hS (.ref a) ry hP (by cases ry <;> exact h))))
/-- two ints -/
def ints2 (f : Int → Int → Store → DK → Prop) : DR2
  | .int i, .int j, S, P => f i j S P
  | _, _, _, _ => False
theorem ints2_ok {K : Kz} {f : Int → Int → Store → DK → Prop} {x y : V} {H : Hp} {Q : VK} (h : lR2 K (ints2 f) x y H Q) : ∃ i j S P, x = .int i ∧ y = .int j ∧ RelS K S H ∧ f i j S P ∧ Po K S H P Q := by
  obtain ⟨S, P, d, e, hS, rx, ry, h, hP⟩ := h
  cases rx with
  | int i =>
    cases ry with
    | int j => exact ⟨i, j, S, P, rfl, rfl, hS, h, hP⟩
    | _ => exact h.elim
  | _ => exact h.elim
def rSubD : DR2 := ints2 fun i j S P => P (.int (i - j)) S
def rMulD : DR2 := ints2 fun i j S P => IntMulOk i j ∧ P (.int (i * j)) S
def rFdivD : DR2 := ints2 fun i j S P => (j ≠ 0 ∧ j.natAbs.log2 < 9000) ∧ P (.int (i.fdiv j)) S
def rModD : DR2 := ints2 fun i j S P => j ≠ 0 ∧ P (.int (i.fmod j)) S
def rPowD : DR2 := ints2 fun i j S P => (0 ≤ j ∧ (Builtin.Int.intBits i : Int) * j ≤ 2 ^ 27) ∧ P (.int (i ^ j.toNat)) S
theorem sub_ok : DOp X (binaryOp .Sub) rSubD := fun Z => opI op_sub fun x y H Q h => by
  obtain ⟨i, j, S, P, rfl, rfl, hS, h, hP⟩ := ints2_ok h
  exact ⟨i, j, rfl, rfl, hP _ S _ _ Ext.refl (.int _) hS h⟩
theorem mul_ok : DOp X (binaryOp .Mult) rMulD := fun Z => opI (L2.opI (C := IntMulOk) (g := fun i j => i * j) fun _ _ _ _ _ _ _ hc q => PyProof.Rows.mul_int q hc) fun x y H Q h => by
  obtain ⟨i, j, S, P, rfl, rfl, hS, h, hP⟩ := ints2_ok h
  exact ⟨i, j, rfl, rfl, h.1, hP _ S _ _ Ext.refl (.int _) hS h.2⟩
theorem fdiv_ok : DOp X (binaryOp .FloorDiv) rFdivD := fun Z => opI (L2.opI (C := fun _ j => j ≠ 0 ∧ j.natAbs.log2 < 9000) (g := fun i j => i.fdiv j) fun _ _ _ _ _ _ _ hc q => PyProof.Rows.floordiv_int hc.1 q (.inl (PyProof.noPylong_of_log2 hc.2))) fun x y H Q h => by
  obtain ⟨i, j, S, P, rfl, rfl, hS, h, hP⟩ := ints2_ok h
  exact ⟨i, j, rfl, rfl, h.1, hP _ S _ _ Ext.refl (.int _) hS h.2⟩
theorem mod_ok : DOp X (binaryOp .Mod) rModD := fun Z => opI op_modN fun x y H Q h => by
  obtain ⟨i, j, S, P, rfl, rfl, hS, h, hP⟩ := ints2_ok h
  exact ⟨i, j, rfl, rfl, h.1, hP _ S _ _ Ext.refl (.int _) hS h.2⟩
theorem pow_ok : DOp X (binaryOp .Pow) rPowD := fun Z => opI (L2.opI (C := fun i j => 0 ≤ j ∧ (Builtin.Int.intBits i : Int) * j ≤ 2 ^ 27) (g := fun i j => i ^ j.toNat) fun _ _ _ _ _ _ _ hc q => PyProof.Rows.pow_int hc.1 hc.2 q) fun x y H Q h => by
  obtain ⟨i, j, S, P, rfl, rfl, hS, h, hP⟩ := ints2_ok h
  exact ⟨i, j, rfl, rfl, h.1, hP _ S _ _ Ext.refl (.int _) hS h.2⟩
def rNegD : DR1
  | .int i, S, P => P (.int (-i)) S
  | _, _, _ => False
theorem neg_ok : DUn X (unaryOp .USub) rNegD := fun Z => unI un_neg fun x H Q ⟨S, P, d, hS, rx, h, hP⟩ => by
  cases rx with
  | int i => exact ⟨i, rfl, hP _ S _ _ Ext.refl (.int _) hS h⟩
  | _ => exact h.elim

/-! ### comparisons -/
def cmpI (p : Int → Int → Bool) (q : List Nat → List Nat → Bool) : DR2
  | .int i, .int j, S, P => P (.bl (p i j)) S
  | .str i, .str j, S, P => P (.bl (q i.cps.toList j.cps.toList)) S
  | _, _, _, _ => False
theorem cmp_imp {K : Kz} {p : Int → Int → Bool} {q : List Nat → List Nat → Bool} {x y : V} {H : Hp} {Q : VK} (h : lR2 K (cmpI p q) x y H Q) :
    (∃ i j, x = .int i ∧ y = .int j ∧ Q (.bl (p i j)) H) ∨ ∃ i j, x = .str i ∧ y = .str j ∧ Q (.bl (q i.cps.toList j.cps.toList)) H := by
  obtain ⟨S, P, d, e, hS, rx, ry, h, hP⟩ := h
  cases rx with
  | int i =>
    cases ry with
    | int j => exact .inl ⟨i, j, rfl, rfl, hP _ S _ _ Ext.refl (.bl _) hS h⟩
    | _ => exact h.elim
  | str i =>
    cases ry with
    | str j => exact .inr ⟨i, j, rfl, rfl, hP _ S _ _ Ext.refl (.bl _) hS h⟩
    | _ => exact h.elim
  | _ => exact h.elim
def rLtD : DR2 := cmpI (fun i j => decide (i < j)) fun i j => decide (i < j)
def rLeD : DR2 := cmpI (fun i j => decide (i ≤ j)) fun i j => !decide (j < i)
def rGtD : DR2 := cmpI (fun i j => decide (j < i)) fun i j => decide (j < i)
def rGeD : DR2 := cmpI (fun i j => decide (j ≤ i)) fun i j => !decide (i < j)
theorem lt_ok : DOp X (compareOp .Lt) rLtD := fun Z => opI (op_lt.or op_lt_str) fun x y H Q h => cmp_imp h
theorem le_ok : DOp X (compareOp .LtE) rLeD := fun Z => opI (op_le.or op_le_str) fun x y H Q h => cmp_imp h
theorem gt_ok : DOp X (compareOp .Gt) rGtD := fun Z => opI (op_gt.or op_gt_str) fun x y H Q h => cmp_imp h
theorem ge_ok : DOp X (compareOp .GtE) rGeD := fun Z => opI (op_ge.or op_ge_str) fun x y H Q h => cmp_imp h
/-- == of two ints, texts, bools, None -/
def rEqD (neg : Bool) : DR2
  | .int i, .int j, S, P => P (.bl (neg ^^ decide (i = j))) S
  | .str i, .str j, S, P => P (.bl (neg ^^ decide (i = j))) S
  | .bl i, .bl j, S, P => P (.bl (neg ^^ decide (i = j))) S
  | _, _, _, _ => False
theorem eq_imp {K : Kz} {neg : Bool} {x y : V} {H : Hp} {Q : VK} (h : lR2 K (rEqD neg) x y H Q) : scal x y = true ∧ Q (.bl (neg ^^ decide (x = y))) H := by
  obtain ⟨S, P, d, e, hS, rx, ry, h, hP⟩ := h
  cases rx with
  | int i =>
    cases ry with
    | int j => exact ⟨rfl, by have := hP _ S _ _ Ext.refl (.bl _) hS h; simpa using this⟩
    | _ => exact h.elim
  | str i =>
    cases ry with
    | str j => exact ⟨rfl, by have := hP _ S _ _ Ext.refl (.bl _) hS h; simpa using this⟩
    | _ => exact h.elim
  | bl i =>
    cases ry with
    | bl j => exact ⟨rfl, by have := hP _ S _ _ Ext.refl (.bl _) hS h; simpa using this⟩
    | _ => exact h.elim
  | _ => exact h.elim
theorem eq_ok : DOp X (compareOp .Eq) (rEqD false) := fun Z => opI op_eq fun x y H Q h => by
  have h := eq_imp h
  exact ⟨h.1, by simpa using h.2⟩
theorem ne_ok : DOp X (compareOp .NotEq) (rEqD true) := fun Z => opI op_ne fun x y H Q h => by
  have h := eq_imp h
  exact ⟨h.1, by simpa using h.2⟩
def isNon : D → Bool
  | .non => true
  | _ => false
/-- x is None, x is True -/
def rIsD (neg : Bool) : DR2
  | .bl a, .bl b, S, P => P (.bl (neg ^^ decide (a = b))) S
  | x, .non, S, P => P (.bl (neg ^^ isNon x)) S
  | _, _, _, _ => False
theorem is_imp {K : Kz} {neg : Bool} {x y : V} {H : Hp} {Q : VK} (h : lR2 K (rIsD neg) x y H Q) :
    (y = .non ∧ Q (.bl (neg ^^ decide (x = .non))) H) ∨ ∃ a b : Bool, x = .bl a ∧ y = .bl b ∧ Q (.bl (neg ^^ decide (a = b))) H := by
  obtain ⟨S, P, d, e, hS, rx, ry, h, hP⟩ := h
  cases ry with
  | non => exact .inl ⟨rfl, by cases rx <;> exact hP _ S _ _ Ext.refl (.bl _) hS h⟩
  | bl b =>
    cases rx with
    | bl a => exact .inr ⟨a, b, rfl, rfl, hP _ S _ _ Ext.refl (.bl _) hS h⟩
    | _ => exact h.elim
  | _ => cases rx <;> exact h.elim
theorem is_ok : DOp X (compareOp .Is) (rIsD false) := fun Z => opI (op_isN.or op_isBl) fun x y H Q h => by have h := is_imp h; simp only [Bool.false_xor] at h; exact h
theorem isnot_ok : DOp X (compareOp .IsNot) (rIsD true) := fun Z => opI (op_notN.or op_notBl) fun x y H Q h => by have h := is_imp h; simp only [Bool.true_xor] at h; exact h

/-! ### subscripts -/
def rIxD : DR2
  | .str z, .int i, S, P => z.length ≤ sizeLine ∧ wSome (atI z.cps.toList i) fun c => P (.str ⟨#[c]⟩) S
  | x, .int i, S, P => wSome (seqOf S x) fun ds => wSome (atI ds i) fun d => P d S
  | _, _, _, _ => False
theorem atI_rp {K : Kz} {S : Store} {H : Hp} {ds : List D} {vs : List V} {i : Int} {d : D} (r : Rps K S H ds vs) (h : atI ds i = some d) : ∃ v, atI vs i = some v ∧ Rp K S H d v := by
  unfold atI at h ⊢
  rw [← r.length]
  cases e : ixN ds.length i with
  | none => rw [e] at h; cases h
  | some j =>
    rw [e] at h
    obtain ⟨v, h1, h2⟩ := r.get (i := j) (d := d) h
    exact ⟨v, h1, h2⟩
theorem ix_ok : DIx X rIxD := fun Z => ixI ix_seq fun x y H Q ⟨S, P, d, e, hS, rx, ry, h, hP⟩ => by
  cases ry with
  | int i =>
    have go : (wSome (seqOf S d) fun ds => wSome (atI ds i) fun d => P d S) → rIx X.K x (.int i) H Q := fun h => by
      obtain ⟨ds, e1, h⟩ := h.get
      obtain ⟨c, e2, h⟩ := h.get
      obtain ⟨a, vs, rfl, q, r⟩ := seq_rp hS rx e1
      obtain ⟨v, e3, r3⟩ := atI_rp r e2
      have hq := hP c S v H Ext.refl r3 hS h
      rcases q with q | q
      · exact .inl ⟨a, vs, i, v, rfl, rfl, q, e3, hq⟩
      · exact .inr (.inl ⟨a, vs, i, v, rfl, rfl, q, e3, hq⟩)
    cases rx with
    | str z =>
      obtain ⟨hz, h⟩ := h
      obtain ⟨c, e, h⟩ := h.get
      exact .inr (.inr ⟨z, i, c, rfl, rfl, hz, e, hP _ S _ _ Ext.refl (.str _) hS h⟩)
    | _ => exact go h
  | _ => cases rx <;> exact h.elim
end
end DL

/-! DL4: arguments, displays, slices, calls. -/
namespace DL
open PySem PySem.Spec L2
section
variable {X : Cx} {e a b c o : Expr} {es : List Expr} {wa wb wc w we wo : DT} {wr : DA} {pos : Pos}
/-! ### argument lists, displays -/
def wNil : DA := fun _ S P => P [] S
def wCons (w : DT) (wr : DA) : DA := fun ρ S P => w ρ S fun d S1 => wr ρ S1 fun ds S2 => P (d :: ds) S2
def wStar (w : DT) (wr : DA) : DA := fun ρ S P => w ρ S fun d S1 => wSome (seqOf S1 d) fun es => wr ρ S1 fun ds S2 => P (es ++ ds) S2
theorem da_nil : DArgs X [] wNil := fun Z => pa_imp pa_nil fun _ _ _ ⟨_, S, P, _, hS, hw, hP⟩ => hP _ S _ _ Ext.refl .nil hS hw
theorem da_cons (ha : DE X e w) (hr : DArgs X es wr) (hs : starEach (e :: es) X.env = (false, eval e X.env) :: starEach es X.env := by rfl) : DArgs X (e :: es) (wCons w wr) := fun Z => pa_imp (pa_cons (ha Z) (hr Z) hs) fun _ _ _ ⟨ρ, S, P, hE, hS, hw, hP⟩ =>
  ⟨ρ, S, _, hE, hS, hw, fun _ _ _ _ x1 r1 s1 q1 => ⟨ρ, _, _, hE.ext x1, s1, q1, fun _ _ _ _ x2 r2 s2 q2 => hP _ _ _ _ (x1.trans x2) (.cons (r1.ext x2) r2) s2 q2⟩⟩
theorem da_star {p : Pos} (ha : DE X e w) (hr : DArgs X es wr) (hs : starEach (.Starred e p :: es) X.env = (true, eval e X.env) :: starEach es X.env := by rfl) : DArgs X (.Starred e p :: es) (wStar w wr) := fun Z => pa_imp (StX.pa_star (ha Z) (hr Z) hs) fun _ _ _ ⟨ρ, S, P, hE, hS, hw, hP⟩ =>
  ⟨ρ, S, _, hE, hS, hw, fun _ _ _ _ x1 r1 s1 q1 => by
    obtain ⟨ds, e, q1⟩ := q1.get
    obtain ⟨a, vs, rfl, q, r⟩ := seq_rp s1 r1 e
    exact ⟨a, vs, rfl, q.symm, ρ, _, _, hE.ext x1, s1, q1, fun _ _ _ _ x2 r2 s2 q2 => hP _ _ _ _ (x1.trans x2) ((r.ext x2).append r2) s2 q2⟩⟩
def wTup (w : DA) : DT := fun ρ S P => w ρ S fun ds S1 => ds.length ≤ 1000000 ∧ P (.tup ds) S1
def wLst (w : DA) : DT := fun ρ S P => w ρ S fun ds S1 => ds.length ≤ 1000000 ∧ P (.scr ds) S1
def wLstM (w : DA) : DT := fun ρ S P => w ρ S fun ds S1 => ds.length ≤ 1000000 ∧ ∀ p, S1 p = none → P (.ref p) (S1.set p (.lst ds))
theorem line6 {n : Nat} (h : n ≤ 1000000) : n ≤ sizeLine := Nat.le_trans h (by decide)
theorem d_tup {k : Nat} (h : DArgs X es wr) : DE X (.Tuple es k pos) (wTup wr) := fun Z => pe_imp (pe_tup (h Z)) fun _ _ _ ⟨ρ, S, P, hE, hS, hw, hP⟩ =>
  ⟨ρ, S, _, hE, hS, hw, fun _ _ _ _ x1 r1 s1 q1 => ⟨by rw [← r1.length]; exact line6 q1.1, fun p hp => hP _ _ _ _ (x1.trans (Ext.hid hp)) (.tup (SqT.of upd_same) (r1.ext (Ext.hid hp))) (s1.hid hp) q1.2⟩⟩
theorem d_lst (h : DArgs X es wr) : DE X (.List es pos) (wLst wr) := fun Z => pe_imp (pe_lst (h Z)) fun _ _ _ ⟨ρ, S, P, hE, hS, hw, hP⟩ =>
  ⟨ρ, S, _, hE, hS, hw, fun _ _ _ _ x1 r1 s1 q1 => ⟨by rw [← r1.length]; exact line6 q1.1, fun p hp => hP _ _ _ _ (x1.trans (Ext.hid hp)) (.scr upd_same (s1.free hp) (s1.nz hp) (r1.ext (Ext.hid hp))) (s1.hid hp) q1.2⟩⟩
theorem d_lstM (h : DArgs X es wr) : DE X (.List es pos) (wLstM wr) := fun Z => pe_imp (pe_lst (h Z)) fun _ _ _ ⟨ρ, S, P, hE, hS, hw, hP⟩ =>
  ⟨ρ, S, _, hE, hS, hw, fun _ _ _ _ x1 r1 s1 q1 => ⟨by rw [← r1.length]; exact line6 q1.1, fun p hp => hP _ _ _ _ (x1.trans (Ext.made hp)) (.ref p) (s1.made hp r1) (q1.2 p (s1.free hp))⟩⟩

/-! ### slices -/
abbrev DO := Env' → Store → (Option Int → Store → Prop) → Prop
def PoO (K : Kz) (S : Store) (H : Hp) (P : Option Int → Store → Prop) (Q : Option Int → Hp → Prop) : Prop := ∀ o S' H', Ext K S S' H H' → RelS K S' H' → P o S' → Q o H'
def lO (K : Kz) (w : DO) : TO := fun σ H Q => ∃ ρ S P, RelE K S H ρ σ ∧ RelS K S H ∧ w ρ S P ∧ PoO K S H P Q
def DPart (X : Cx) (e : Option Expr) (w : DO) : Prop := ∀ Z, PO X e (lO ⟨X.K, Z⟩ w)
def wNoPart : DO := fun _ S P => P none S
def wPart (w : DT) : DO := fun ρ S P => w ρ S fun d S1 => match d with | .int i => P (some i) S1 | _ => False
theorem po_imp {e : Option Expr} {t t' : TO} (h : PO X e t) (i : ∀ σ H Q, t' σ H Q → t σ H Q) : PO X e t' := ⟨fun pins s σ H Q I q => h.run pins s σ H Q I (i σ H Q q)⟩
theorem dp_none : DPart X none wNoPart := fun Z => po_imp po_none fun _ _ _ ⟨_, S, P, _, hS, hw, hP⟩ => hP _ S _ Ext.refl hS hw
theorem dp_some (h : DE X e w) : DPart X (some e) (wPart w) := fun Z => po_imp (po_some (h Z)) fun _ _ _ ⟨ρ, S, P, hE, hS, hw, hP⟩ =>
  ⟨ρ, S, _, hE, hS, hw, fun d _ _ _ x1 r1 s1 q1 => by
    cases d with
    | int i => cases r1; exact ⟨i, rfl, hP _ _ _ x1 s1 q1⟩
    | _ => exact q1.elim⟩
def cutD {α : Type} (xs : List α) (lo hi : Option Int) : List α := (xs.drop (HT.sIx xs.length 0 lo)).take (HT.sIx xs.length xs.length hi - HT.sIx xs.length 0 lo)
def rSlD (x : D) (lo hi : Option Int) (S : Store) (P : DK) : Prop := match x with
  | .str z => z.length ≤ sizeLine ∧ P (.str (cutS z lo hi)) S
  | .tup ds => ¬ (HT.sIx ds.length 0 lo = 0 ∧ HT.sIx ds.length ds.length hi = ds.length) ∧ P (.tup (cutD ds lo hi)) S
  | x => wSome (lstOf S x) fun ds => P (.scr (cutD ds lo hi)) S
def wSl (wo : DT) (wl wh : DO) : DT := fun ρ S P => wo ρ S fun x S1 => wl ρ S1 fun l S2 => wh ρ S2 fun h S3 => rSlD x l h S3 P
theorem cut_rp {K : Kz} {S : Store} {H : Hp} {ds : List D} {vs : List V} {lo hi : Option Int} (r : Rps K S H ds vs) : Rps K S H (cutD ds lo hi) (cutV vs lo hi) := by
  unfold cutD cutV
  rw [r.length]
  exact (r.drop _).take _
def lSlR (K : Kz) : V → Option Int → Option Int → Hp → VK → Prop := fun x lo hi H Q => ∃ S P d, RelS K S H ∧ Rp K S H d x ∧ rSlD d lo hi S P ∧ Po K S H P Q
theorem sl_ok : ∀ Z, SlR X (lSlR ⟨X.K, Z⟩) := fun Z => slI (sl_str.or (sl_tup.or sl_list)) fun x lo hi H Q ⟨S, P, d, hS, rx, h, hP⟩ => by
  have go : (wSome (lstOf S d) fun ds => P (.scr (cutD ds lo hi)) S) → rSlL X.K x lo hi H Q := fun h => by
    obtain ⟨ds, e1, h⟩ := h.get
    obtain ⟨a, vs, rfl, q, r⟩ := lst_rp hS rx e1
    exact ⟨a, vs, rfl, q, fun p hp => hP _ S _ _ (Ext.hid hp) (.scr upd_same (hS.free hp) (hS.nz hp) ((cut_rp r).ext (Ext.hid hp))) (hS.hid hp) h⟩
  cases rx with
  | str z => exact .inl ⟨z, rfl, h.1, hP _ S _ _ Ext.refl (.str _) hS h.2⟩
  | tup q r =>
    refine .inr (.inl ⟨_, _, rfl, q, by rw [← r.length]; exact h.1, fun p hp => hP _ S _ _ (Ext.hid hp) (.tup (SqT.of upd_same) ((cut_rp r).ext (Ext.hid hp))) (hS.hid hp) h.2⟩)
  | _ => exact .inr (.inr (go h))
theorem d_sl {lo hi : Option Expr} {wl wh : DO} {p2 : Pos} (ho : DE X e w) (hl : DPart X lo wl) (hh : DPart X hi wh) : DE X (.Subscript e (.Slice lo hi none p2) pos) (wSl w wl wh) := fun Z => pe_imp (pe_slice (sl_ok Z) (ho Z) (hl Z) (hh Z)) fun _ _ _ ⟨ρ, S, P, hE, hS, hw, hP⟩ =>
  ⟨ρ, S, _, hE, hS, hw, fun _ _ _ _ x1 r1 s1 q1 => ⟨ρ, _, _, hE.ext x1, s1, q1, fun _ _ _ x2 s2 q2 => ⟨ρ, _, _, (hE.ext x1).ext x2, s2, q2, fun _ _ _ x3 s3 q3 => ⟨_, P, _, s3, (r1.ext x2).ext x3, q3, ((hP.ext x1).ext x2).ext x3⟩⟩⟩⟩
/-- xs[::-1] -/
def wRev (w : DT) : DT := fun ρ S P => w ρ S fun d S1 => wSome (lstOf S1 d) fun ds => P (.scr ds.reverse) S1
theorem d_rev {k : Nat} {p1 p2 p3 : Pos} (h : DE X e w) : DE X (.Subscript e (.Slice none none (some (.UnaryOp .USub (.Constant (.int 1) k p1) p2)) p3) pos) (wRev w) := fun Z => pe_imp (pe_revL (h Z)) fun _ _ _ ⟨ρ, S, P, hE, hS, hw, hP⟩ =>
  ⟨ρ, S, _, hE, hS, hw, fun _ _ _ _ x1 r1 s1 q1 => by
    obtain ⟨ds, e, q1⟩ := q1.get
    obtain ⟨a, vs, rfl, q, r⟩ := lst_rp s1 r1 e
    exact ⟨a, vs, rfl, q, fun p hp => hP _ _ _ _ (x1.trans (Ext.hid hp)) (.scr upd_same (s1.free hp) (s1.nz hp) (r.reverse.ext (Ext.hid hp))) (s1.hid hp) q1⟩⟩

/-! ### calls of built-ins -/
def wCB (r : DRs) (w : DA) : DT := fun ρ S P => w ρ S fun ds S1 => r ds S1 P
theorem lcb {K : Kz} {r : DRs} {σ : St} {H : Hp} {Q : VK} : lE K (wCB r wr) σ H Q → tCB (lRs K r) (lA K wr) σ H Q := fun ⟨ρ, S, P, hE, hS, hw, hP⟩ =>
  ⟨ρ, S, _, hE, hS, hw, fun _ _ _ _ x1 r1 s1 q1 => ⟨_, P, _, s1, r1, q1, hP.ext x1⟩⟩
theorem d_callB {id : String} {x : Str} {p : Pos} {r : DRs} (hc : DCall X (.builtin id) r) (hm : X.mg x = none) (hv : bootBuiltins x = some (.builtin id)) (ha : DArgs X (e :: es) wr) (hg : Gl X x := by rfl) (hn : x ≠ "__name__" := by decide) (hdb : (x == ("__debug__" : Str)) = false := by decide)
    (he : starEach (e :: es) X.env = (false, eval e X.env) :: starEach es X.env := by rfl) (hpl : (backTo pos (starEach es X.env)).any (·.1) = false := by rfl) : DE X (.Call (.Name x p) (e :: es) [] pos) (wCB r wr) := fun Z => pe_imp (pe_callB (hc Z) hg hm hv (ha Z) hn hdb he hpl) fun _ _ _ h => lcb h
theorem d_callTy {T : String} {x : Str} {p : Pos} {r : DRs} (hc : DCall X (.type T) r) (hm : X.mg x = none) (hv : bootBuiltins x = some (.type T)) (ha : DArgs X (e :: es) wr) (hg : Gl X x := by rfl) (hn : x ≠ "__name__" := by decide) (hdb : (x == ("__debug__" : Str)) = false := by decide)
    (he : starEach (e :: es) X.env = (false, eval e X.env) :: starEach es X.env := by rfl) (hpl : (backTo pos (starEach es X.env)).any (·.1) = false := by rfl) : DE X (.Call (.Name x p) (e :: es) [] pos) (wCB r wr) := fun Z => pe_imp (pe_callTy (hc Z) hg hm hv (ha Z) hn hdb he hpl) fun _ _ _ h => lcb h
def rLenD : DRs
  | [.str z], S, P => z.length ≤ sizeLine ∧ P (.int z.length) S
  | [x], S, P => wSome (seqOf S x) fun ds => P (.int ds.length) S
  | _, _, _ => False
theorem len_ok : DCall X (.builtin "len") rLenD := fun Z => callI (call_len_seq.or call_len_str) fun xs H Q ⟨S, P, ds, hS, rx, h, hP⟩ => by
  cases rx with
  | nil => exact h.elim
  | @cons d v _ _ r t =>
    cases t with
    | nil =>
      have go : (wSome (seqOf S d) fun ds => P (.int ds.length) S) → ∃ p ys, [v] = [V.ref p] ∧ (SqL X.K H p ys ∨ SqT X.K H p ys) ∧ Q (.int ys.length) H := fun h => by
        obtain ⟨ds, e1, h⟩ := h.get
        obtain ⟨a, vs, rfl, q, r⟩ := seq_rp hS r e1
        exact ⟨a, vs, rfl, q, by rw [← r.length]; exact hP _ S _ _ Ext.refl (.int _) hS h⟩
      cases r with
      | str z => exact .inr ⟨z, rfl, h.1, hP _ S _ _ Ext.refl (.int _) hS h.2⟩
      | _ => exact .inl (go h)
    | cons _ _ => cases r <;> exact h.elim
def strI (i : Int) : Str := toString i
def rStrD : DRs
  | [.int i], S, P => i.natAbs.log2 < 1920 ∧ P (.str (strI i)) S
  | _, _, _ => False
theorem str_ok : DCall X (.type "str") rStrD := fun Z => callI call_str_int fun xs H Q ⟨S, P, ds, hS, rx, h, hP⟩ => by
  cases rx with
  | nil => exact h.elim
  | cons r t =>
    cases t with
    | nil =>
      cases r with
      | int i => exact ⟨i, rfl, h.1, hP _ S _ _ Ext.refl (.str _) hS h.2⟩
      | _ => exact h.elim
    | cons _ _ => cases r <;> exact h.elim
def rIntD : DRs
  | [.int i], S, P => P (.int i) S
  | [.str z], S, P => wSome (PySem.intText? z) fun n => z.length ≤ 640 ∧ P (.int n) S
  | _, _, _ => False
theorem int_ok : DCall X (.type "int") rIntD := fun Z => callI (call_int1.or call_int_str) fun xs H Q ⟨S, P, ds, hS, rx, h, hP⟩ => by
  cases rx with
  | nil => exact h.elim
  | cons r t =>
    cases t with
    | nil =>
      cases r with
      | int i => exact .inl (.inl ⟨i, rfl, hP _ S _ _ Ext.refl (.int _) hS h⟩)
      | str z =>
        obtain ⟨n, e, h1, h2⟩ := h.get
        exact .inr ⟨z, n, rfl, e, h1, hP _ S _ _ Ext.refl (.int _) hS h2⟩
      | _ => exact h.elim
    | cons _ _ => cases r <;> exact h.elim
def rAbsD : DRs
  | [.int i], S, P => P (.int (i.natAbs : Nat)) S
  | _, _, _ => False
theorem abs_ok : DCall X (.builtin "abs") rAbsD := fun Z => callI call_abs fun xs H Q ⟨S, P, ds, hS, rx, h, hP⟩ => by
  cases rx with
  | nil => exact h.elim
  | cons r t =>
    cases t with
    | nil =>
      cases r with
      | int i =>
        have h := hP _ S _ _ Ext.refl (.int _) hS h
        refine ⟨i, rfl, ?_⟩
        have e : (if i < 0 then -i else i) = ((i.natAbs : Nat) : Int) := by split <;> omega
        rw [e]
        exact h
      | _ => exact h.elim
    | cons _ _ => cases r <;> exact h.elim
def rInt2 (f : Int → Int → Int) : DRs
  | [.int i, .int j], S, P => P (.int (f i j)) S
  | _, _, _ => False
theorem int2_ok {K : Kz} {f : Int → Int → Int} {xs : List V} {H : Hp} {Q : VK} (h : lRs K (rInt2 f) xs H Q) : ∃ i j, xs = [.int i, .int j] ∧ Q (.int (f i j)) H := by
  obtain ⟨S, P, ds, hS, rx, h, hP⟩ := h
  cases rx with
  | nil => exact h.elim
  | cons r t =>
    cases t with
    | nil => cases r <;> exact h.elim
    | cons r2 t =>
      cases t with
      | nil =>
        cases r with
        | int i =>
          cases r2 with
          | int j => exact ⟨i, j, rfl, hP _ S _ _ Ext.refl (.int _) hS h⟩
          | _ => exact h.elim
        | _ => exact h.elim
      | cons _ _ => cases r <;> first | exact h.elim | (cases r2 <;> exact h.elim)
theorem max_ok (hc : X.calm = true) : DCall X (.builtin "max") (rInt2 fun i j => if j > i then j else i) := fun Z => callI (call_max2 hc) fun xs H Q h => int2_ok h
theorem min_ok (hc : X.calm = true) : DCall X (.builtin "min") (rInt2 fun i j => if j < i then j else i) := fun Z => callI (call_min2 hc) fun xs H Q h => int2_ok h
def rTupleD : DRs
  | [.tup ds], S, P => P (.tup ds) S
  | [x], S, P => wSome (lstOf S x) fun ds => P (.tup ds) S
  | _, _, _ => False
theorem tuple_ok : DCall X (.type "tuple") rTupleD := fun Z => callI call_tuple_of fun xs H Q ⟨S, P, ds, hS, rx, h, hP⟩ => by
  cases rx with
  | nil => exact h.elim
  | @cons d v _ _ r t =>
    cases t with
    | nil =>
      have go : (wSome (lstOf S d) fun ds => P (.tup ds) S) → ∃ p ys, [v] = [V.ref p] ∧ ((SqL X.K H p ys ∧ ∀ l, H l = none → Q (.ref l) (upd H l (.tup ys))) ∨ (SqT X.K H p ys ∧ Q (.ref p) H)) := fun h => by
        obtain ⟨ds, e1, h⟩ := h.get
        obtain ⟨a, vs, rfl, q, r⟩ := lst_rp hS r e1
        exact ⟨a, vs, rfl, .inl ⟨q, fun p hp => hP _ S _ _ (Ext.hid hp) (.tup (SqT.of upd_same) (r.ext (Ext.hid hp))) (hS.hid hp) h⟩⟩
      cases r with
      | tup q r => exact ⟨_, _, rfl, .inr ⟨q, hP _ S _ _ Ext.refl (.tup q r) hS h⟩⟩
      | _ => exact go h
    | cons _ _ => cases r <;> exact h.elim
def rListD : DRs
  | [x], S, P => wSome (seqOf S x) fun ds => P (.scr ds) S
  | _, _, _ => False
theorem list_ok : DCall X (.type "list") rListD := fun Z => callI call_list_of fun xs H Q ⟨S, P, ds, hS, rx, h, hP⟩ => by
  cases rx with
  | nil => exact h.elim
  | cons r t =>
    cases t with
    | nil =>
      obtain ⟨ds, e1, h⟩ := wSome.get h
      obtain ⟨a, vs, rfl, q, r⟩ := seq_rp hS r e1
      exact ⟨a, vs, rfl, q, fun p hp => hP _ S _ _ (Ext.hid hp) (.scr upd_same (hS.free hp) (hS.nz hp) (r.ext (Ext.hid hp))) (hS.hid hp) h⟩
    | cons _ _ => exact h.elim
def blsOf : List D → Option (List Bool)
  | [] => some []
  | .bl b :: r => (blsOf r).map (b :: ·)
  | _ :: _ => none
theorem blsOf_eq : ∀ {ds : List D} {bs : List Bool}, blsOf ds = some bs → ds = bs.map D.bl
  | [], _, h => by simp [blsOf] at h; subst h; rfl
  | .bl b :: r, bs, h => by
    simp only [blsOf, Option.map_eq_some_iff] at h
    obtain ⟨cs, h1, rfl⟩ := h
    rw [blsOf_eq h1]; rfl
  | .non :: _, _, h => by simp [blsOf] at h
  | .int _ :: _, _, h => by simp [blsOf] at h
  | .str _ :: _, _, h => by simp [blsOf] at h
  | .tup _ :: _, _, h => by simp [blsOf] at h
  | .scr _ :: _, _, h => by simp [blsOf] at h
  | .frz _ :: _, _, h => by simp [blsOf] at h
  | .ref _ :: _, _, h => by simp [blsOf] at h
theorem blsOf_map (bs : List Bool) : blsOf (bs.map D.bl) = some bs := by
  induction bs with
  | nil => rfl
  | cons b r ih => simp [blsOf, ih]
def rBools (f : List Bool → Bool) : DRs
  | [x], S, P => wSome (lstOf S x) fun ds => wSome (blsOf ds) fun bs => P (.bl (f bs)) S
  | _, _, _ => False
theorem bools_ok {K : Kz} {f : List Bool → Bool} {xs : List V} {H : Hp} {Q : VK} (h : lRs K (rBools f) xs H Q) : ∃ (a : Addr) (bs : List Bool), xs = [V.ref a] ∧ SqL K.f H a (bs.map V.bl) ∧ Q (.bl (f bs)) H := by
  obtain ⟨S, P, ds, hS, rx, h, hP⟩ := h
  cases rx with
  | nil => exact h.elim
  | cons r t =>
    cases t with
    | nil =>
      obtain ⟨ds, e1, h1⟩ := wSome.get h
      obtain ⟨bs, e2, h2⟩ := h1.get
      obtain ⟨a, vs, rfl, q, r⟩ := lst_rp hS r e1
      have e3 := blsOf_eq e2
      subst e3
      have e4 := Rps.of_bls r
      subst e4
      exact ⟨a, bs, rfl, q, hP _ S _ _ Ext.refl (.bl _) hS h2⟩
    | cons _ _ => exact h.elim
theorem all_ok (hc : X.calm = true) : DCall X (.builtin "all") (rBools fun bs => bs.all id) := fun Z => callI (cr_all hc) fun xs H Q h => bools_ok h
theorem any_ok (hc : X.calm = true) : DCall X (.builtin "any") (rBools fun bs => bs.any id) := fun Z => callI (cr_any hc) fun xs H Q h => bools_ok h

/-! ### isinstance -/
def isTyB (n : String) : D → Bool
  | .non => false
  | .bl _ => n == "bool" || n == "int"
  | .int _ => n == "int"
  | .str _ => n == "str"
  | .tup _ => n == "tuple"
  | .scr _ => n == "list"
  | .frz _ => n == "list"
  | .ref _ => n == "list"
def refOk (S : Store) : D → Prop
  | .ref a => ∃ ds, S a = some (.lst ds)
  | _ => True
def wIsi (n : String) (w : DT) : DT := fun ρ S P => w ρ S fun d S1 => refOk S1 d ∧ P (.bl (isTyB n d)) S1
theorem rp_ty {K : Kz} {S : Store} {H : Hp} {d : D} {v : V} {n : String} (hn : n = "int" ∨ n = "bool" ∨ n = "str" ∨ n = "tuple" ∨ n = "list") (hS : RelS K S H) (r : Rp K S H d v) (ho : refOk S d) :
    ∃ t, TyX K.f H v (.type t) ∧ PySem.W.kitOne K.f (.type t) (.type n) = some (isTyB n d) := by
  have k : ∀ (t : String) (b : Bool), (t = "NoneType" ∨ t = "bool" ∨ t = "int" ∨ t = "str" ∨ t = "tuple" ∨ t = "list") → b = (t == n || (t == "bool" && n == "int")) → PySem.W.kitOne K.f (.type t) (.type n) = some b := by
    intro t b ht hb
    subst hb
    rcases hn with rfl | rfl | rfl | rfl | rfl <;> rcases ht with rfl | rfl | rfl | rfl | rfl | rfl <;> exact kit_ty (by decide +kernel)
  have c : ∀ (t : String) (b : Bool), b = (t == n || (t == "bool" && n == "int")) → b = (t == n || (t == "bool" && n == "int")) := fun _ _ h => h
  cases r with
  | non => exact ⟨"NoneType", .base .non, k _ _ (.inl rfl) (by rcases hn with rfl | rfl | rfl | rfl | rfl <;> decide)⟩
  | bl b => exact ⟨"bool", .base (.bl b), k _ _ (.inr (.inl rfl)) (by rcases hn with rfl | rfl | rfl | rfl | rfl <;> rfl)⟩
  | int b => exact ⟨"int", .base (.int b), k _ _ (.inr (.inr (.inl rfl))) (by rcases hn with rfl | rfl | rfl | rfl | rfl <;> rfl)⟩
  | str b => exact ⟨"str", .base (.str b), k _ _ (.inr (.inr (.inr (.inl rfl)))) (by rcases hn with rfl | rfl | rfl | rfl | rfl <;> rfl)⟩
  | tup q r =>
    refine ⟨"tuple", ?_, k _ _ (.inr (.inr (.inr (.inr (.inl rfl))))) (by rcases hn with rfl | rfl | rfl | rfl | rfl <;> rfl)⟩
    rcases q with (q | ⟨u, q⟩) | ⟨o, its, m, q, c, _⟩
    · exact .base (.tup q)
    · exact .fTuple q
    · exact .kTuple q c
  | scr q m nz r => exact ⟨"list", .base (.lst q), k _ _ (.inr (.inr (.inr (.inr (.inr rfl))))) (by rcases hn with rfl | rfl | rfl | rfl | rfl <;> rfl)⟩
  | frz q r =>
    refine ⟨"list", ?_, k _ _ (.inr (.inr (.inr (.inr (.inr rfl))))) (by rcases hn with rfl | rfl | rfl | rfl | rfl <;> rfl)⟩
    rcases q with ⟨u, q⟩ | ⟨o, its, m, q, c, _⟩
    · exact .base (.frz q)
    · exact .kList q c
  | ref a =>
    obtain ⟨ds, e⟩ := ho
    obtain ⟨vs, q, _⟩ := hS.at_ a _ e
    exact ⟨"list", .base (.lst q), k _ _ (.inr (.inr (.inr (.inr (.inr rfl))))) (by rcases hn with rfl | rfl | rfl | rfl | rfl <;> rfl)⟩
theorem d_isi {y : Str} {n : String} {p p2 : Pos} (hn : n = "int" ∨ n = "bool" ∨ n = "str" ∨ n = "tuple" ∨ n = "list") (hm : X.mg "isinstance" = none) (hy : X.mg y = none) (hv : bootBuiltins y = some (.type n)) (h : DE X e w)
    (hg : Gl X "isinstance" := by rfl) (hg2 : Gl X y := by rfl) (hn2 : y ≠ "__name__" := by decide) (hd2 : (y == ("__debug__" : Str)) = false := by decide)
    (he : starEach [e, .Name y p2] X.env = (false, eval e X.env) :: starEach [.Name y p2] X.env := by rfl) (hs2 : starEach [.Name y p2] X.env = (false, eval (.Name y p2) X.env) :: starEach [] X.env := by rfl) (hpl : (backTo pos (starEach [.Name y p2] X.env)).any (·.1) = false := by rfl) :
    DE X (.Call (.Name "isinstance" p) [e, .Name y p2] [] pos) (wIsi n w) := fun Z => pe_imp (pe_callB call_isi hg hm (by decide +kernel) (pa_cons (h Z) (pa_cons (pe_bltn (v := .ty n) hg2 hy hv rfl hn2 hd2) pa_nil hs2) he) (by decide) (by decide) he hpl) fun _ _ _ ⟨ρ, S, P, hE, hS, hw, hP⟩ =>
    ⟨ρ, S, _, hE, hS, hw, fun _ _ _ _ x1 r1 s1 q1 => by
      obtain ⟨t, h1, h2⟩ := rp_ty hn s1 r1 q1.1
      exact ⟨_, _, _, _, _, rfl, .ty n, h1, h2, hP _ _ _ _ x1 (.bl _) s1 q1.2⟩⟩
end
end DL

/-! DL5: statements, targets, loops, comprehensions. -/
namespace DL
open PySem PySem.Spec L2
section
variable {X : Cx} {e a b c : Expr} {w wa wb : DT} {pos : Pos} {st : Stmt} {rest : List Stmt} {u v : DSt}
/-! ### blocks, small statements -/
def wNext : DSt := fun P ρ S => P.nx ρ S
def wSeq (u v : DSt) : DSt := fun P ρ S => u { P with nx := v P } ρ S
theorem dss_nil : DSs X [] wNext := fun Z => pss_imp pss_nil fun D σ H ⟨ρ, S, P, hE, hS, hw, hP⟩ => hP.nx ρ S σ H Ext.refl hE hS hw
theorem dss_one (h : DS X st u) : DSs X [st] u := fun Z => pss_one (h Z)
theorem dss_cons (h : DS X st u) (h2 : DSs X rest v) : DSs X (st :: rest) (wSeq u v) := fun Z => pss_imp (pss_cons (h Z) (h2 Z)) fun D σ H ⟨ρ, S, P, hE, hS, hw, hP⟩ =>
  ⟨ρ, S, { P with nx := v P }, hE, hS, hw, ⟨fun ρ' S' σ' H' x e s q => ⟨ρ', S', P, e, s, q, hP.ext x⟩, hP.rt, hP.bk, hP.ct⟩⟩
theorem ds_pass : DS X (.Pass pos) wNext := fun Z => ps_imp ps_pass fun D σ H ⟨ρ, S, P, hE, hS, hw, hP⟩ => hP.nx ρ S σ H Ext.refl hE hS hw
def wBreak : DSt := fun P ρ S => P.bk ρ S
def wCont : DSt := fun P ρ S => P.ct ρ S
theorem ds_break : DS X (.Break pos) wBreak := fun Z => ps_imp ps_break fun D σ H ⟨ρ, S, P, hE, hS, hw, hP⟩ => hP.bk ρ S σ H Ext.refl hE hS hw
theorem ds_cont : DS X (.Continue pos) wCont := fun Z => ps_imp ps_continue fun D σ H ⟨ρ, S, P, hE, hS, hw, hP⟩ => hP.ct ρ S σ H Ext.refl hE hS hw
def wDrop (w : DT) : DSt := fun P ρ S => w ρ S fun _ S1 => P.nx ρ S1
theorem ds_expr (h : DE X e w) (hs : swapsWith e none pos.line X.env = pure false := by rfl) : DS X (.Expr e pos) (wDrop w) := fun Z => ps_imp (ps_expr (h Z) hs) fun D σ H ⟨ρ, S, P, hE, hS, hw, hP⟩ =>
  ⟨ρ, S, _, hE, hS, hw, fun _ S1 _ H1 x1 _ s1 q1 => hP.nx ρ S1 σ H1 x1 (hE.ext x1) s1 q1⟩
def wRet (w : DT) : DSt := fun P ρ S => w ρ S P.rt
theorem ds_ret (h : DE X e w) : DS X (.Return (some e) pos) (wRet w) := fun Z => ps_imp (ps_ret (h Z)) fun D σ H ⟨ρ, S, P, hE, hS, hw, hP⟩ => ⟨ρ, S, _, hE, hS, hw, hP.rt⟩
def wRetN : DSt := fun P _ S => P.rt .non S
theorem ds_retN : DS X (.Return none pos) wRetN := fun Z => ps_imp ps_retN fun D σ H ⟨ρ, S, P, hE, hS, hw, hP⟩ => hP.rt _ S _ H Ext.refl .non hS hw
def wIf (t : DB) (u v : DSt) : DSt := fun P ρ S => t ρ S fun b S1 => if b = true then u P ρ S1 else v P ρ S1
theorem ds_if {t : DB} {s1 s2 : List Stmt} (hc : DTest X c t) (ha : DSs X s1 u) (hb : DSs X s2 v) : DS X (.If c s1 s2 pos) (wIf t u v) := fun Z => ps_imp (ps_if (hc Z) (ha Z) (hb Z)) fun D σ H ⟨ρ, S, P, hE, hS, hw, hP⟩ =>
  ⟨ρ, S, _, hE, hS, hw, fun b S1 H1 x1 s1 q1 => by
    cases b with
    | true => exact ⟨ρ, S1, P, hE.ext x1, s1, q1, hP.ext x1⟩
    | false => exact ⟨ρ, S1, P, hE.ext x1, s1, q1, hP.ext x1⟩⟩
/-- never reached -/
def wNever : DSt := fun _ _ _ => False
theorem ds_never : DS X st wNever := fun Z => ps_imp ps_never fun D σ H ⟨ρ, S, P, hE, hS, hw, hP⟩ => hw.elim

/-! ### targets -/
abbrev DGt := D → Env' → Store → (Env' → Store → Prop) → Prop
abbrev DGts := List D → Env' → Store → (Env' → Store → Prop) → Prop
def PoG (K : Kz) (S : Store) (H : Hp) (ts : List Nat) (σ : St) (P : Env' → Store → Prop) (Q : St → Hp → Prop) : Prop :=
  ∀ ρ' S' σ' H', Ext K S S' H H' → RelE K S' H' ρ' σ' → RelS K S' H' → (∀ vs : List Nat, (∀ i ∈ ts, i ∈ vs) → wipe σ' vs = wipe σ vs) → P ρ' S' → Q σ' H'
def lG (K : Kz) (ts : List Nat) (g : DGt) : TG := fun x σ H Q => ∃ ρ S d P, RelE K S H ρ σ ∧ RelS K S H ∧ Rp K S H d x ∧ g d ρ S P ∧ PoG K S H ts σ P Q
def lGs (K : Kz) (ts : List Nat) (g : DGts) : TGs := fun xs σ H Q => ∃ ρ S ds P, RelE K S H ρ σ ∧ RelS K S H ∧ Rps K S H ds xs ∧ g ds ρ S P ∧ PoG K S H ts σ P Q
def DG (X : Cx) (tg : Expr) (ts : List Nat) (g : DGt) : Prop := ∀ Z, PG X tg (lG ⟨X.K, Z⟩ ts g)
def DGs (X : Cx) (tgs : List Expr) (ts : List Nat) (g : DGts) : Prop := ∀ Z, PGs X tgs (lGs ⟨X.K, Z⟩ ts g)
theorem pg_imp {tg : Expr} {t t' : TG} (h : PG X tg t) (i : ∀ x σ H Q, t' x σ H Q → t x σ H Q) : PG X tg t' := ⟨fun pins s σ H v u Q I r q => h.run pins s σ H v u Q I r (i _ _ _ _ q)⟩
theorem pgs_imp {tg : List Expr} {t t' : TGs} (h : PGs X tg t) (i : ∀ x σ H Q, t' x σ H Q → t x σ H Q) : PGs X tg t' := ⟨fun pins s σ H v u Q I r q => h.run pins s σ H v u Q I r (i _ _ _ _ q)⟩
def dgName (i : Nat) : DGt := fun d ρ S P => P (ρ.set i (some d)) S
theorem wipe_set {σ : St} {i : Nat} {o : Option V} : ∀ {vs : List Nat}, i ∈ vs → wipe (σ.set i o) vs = wipe σ vs
  | [], h => by cases h
  | v :: vs, h => by
    by_cases hv : i ∈ vs
    · show (wipe (σ.set i o) vs).set v none = (wipe σ vs).set v none
      rw [wipe_set hv]
    · have e : i = v := by
        rcases List.mem_cons.mp h with z | z
        · exact z
        · exact absurd z hv
      subst e
      show (wipe (σ.set i o) vs).set i none = (wipe σ vs).set i none
      have go : ∀ (ws : List Nat) , (wipe (σ.set i o) ws).set i none = (wipe σ ws).set i none := fun ws => by
        induction ws with
        | nil => show (σ.set i o).set i none = σ.set i none; rw [List.set_set]
        | cons w ws ih =>
          show ((wipe (σ.set i o) ws).set w none).set i none = ((wipe σ ws).set w none).set i none
          by_cases hw : w = i
          · subst hw
            rw [ih]
          · rw [List.set_comm _ _ hw, ih, List.set_comm _ _ (Ne.symm hw)]
      exact go vs
theorem dg_name {i : Nat} {x : Str} (hN : X.N.Nodup) (hi : X.N[i]? = some x := by rfl) (hx : Loc X.env.scope x := by first | exact Or.inl rfl | exact Or.inr rfl) (hf : X.fn x = true ∨ X.env.scope.names.lookup x = some .local := by first | exact .inl rfl | exact .inr rfl) : DG X (.Name x pos) [i] (dgName i) :=
  fun Z => pg_imp (pg_name hN hi hx hf) fun y σ H Q ⟨ρ, S, d, P, hE, hS, r, hw, hP⟩ =>
    hP _ S _ H Ext.refl (hE.set r i) hS (fun vs hv => wipe_set (hv i (by simp))) hw
def dgNil : DGts := fun ds ρ S P => match ds with | [] => P ρ S | _ => False
def dgCons (g : DGt) (gs : DGts) : DGts := fun ds ρ S P => match ds with | d :: r => g d ρ S fun ρ1 S1 => gs r ρ1 S1 P | [] => False
theorem dgs_nil : DGs X [] [] dgNil := fun Z => pgs_imp pgs_nil fun y σ H Q ⟨ρ, S, d, P, hE, hS, r, hw, hP⟩ => by
  cases r with
  | nil => exact ⟨rfl, hP ρ S σ H Ext.refl hE hS (fun _ _ => rfl) hw⟩
  | cons _ _ => exact hw.elim
theorem dgs_cons {es : List Expr} {ts us : List Nat} {g : DGt} {gs : DGts} (h : DG X e ts g) (h2 : DGs X es us gs) (hs : (assignEach (e :: es) X.env).map (·.2) = assign e X.env :: (assignEach es X.env).map (·.2) := by rfl) : DGs X (e :: es) (ts ++ us) (dgCons g gs) :=
  fun Z => pgs_imp (pgs_cons (h Z) (h2 Z) hs) fun y σ H Q ⟨ρ, S, ds, P, hE, hS, r, hw, hP⟩ => by
    cases r with
    | nil => exact hw.elim
    | cons r t =>
      refine ⟨_, _, rfl, ρ, S, _, _, hE, hS, r, hw, fun ρ1 S1 σ1 H1 x1 e1 s1 w1 q1 => ⟨ρ1, S1, _, P, e1, s1, t.ext x1, q1, fun ρ2 S2 σ2 H2 x2 e2 s2 w2 q2 => ?_⟩⟩
      exact hP ρ2 S2 σ2 H2 (x1.trans x2) e2 s2 (fun vs hv => (w2 vs fun i hi => hv i (List.mem_append_right _ hi)).trans (w1 vs fun i hi => hv i (List.mem_append_left _ hi))) q2
def dgTup (n : Nat) (gs : DGts) : DGt := fun d ρ S P => wSome (seqOf S d) fun ds => ds.length = n ∧ gs ds ρ S P
theorem pg_or {tg : Expr} {t t' : TG} (h : PG X tg t) (h' : PG X tg t') : PG X tg (fun v σ H Q => t v σ H Q ∨ t' v σ H Q) := ⟨fun pins s σ H v u Q I r q => by
  rcases q with q | q
  · exact h.run pins s σ H v u Q I r q
  · exact h'.run pins s σ H v u Q I r q⟩
theorem dg_tup {es : List Expr} {k n : Nat} {ts : List Nat} {gs : DGts} (hc : X.calm = true) (h : DGs X es ts gs) (hn : (assignEach es X.env).length = n := by rfl) (hst : (assignEach es X.env).findIdx? (·.1) = none := by rfl) : DG X (.Tuple es k pos) ts (dgTup n gs) :=
  fun Z => pg_imp (pg_or (pg_tup hc (h Z) hn hst) (pg_unl hc (h Z) hn hst)) fun y σ H Q ⟨ρ, S, d, P, hE, hS, r, hw, hP⟩ => by
    obtain ⟨ds, e, hl, hw⟩ := hw.get
    obtain ⟨a, vs, rfl, q, rr⟩ := seq_rp hS r e
    rcases q with q | q
    · exact .inr ⟨a, vs, rfl, q, by rw [← rr.length]; exact hl, ρ, S, ds, P, hE, hS, rr, hw, hP⟩
    · exact .inl ⟨a, vs, rfl, q, by rw [← rr.length]; exact hl, ρ, S, ds, P, hE, hS, rr, hw, hP⟩
/-- o[i] = .., a list -/
def dgSub (wo wi : DT) : DGt := fun d ρ S P => wo ρ S fun x S1 => wi ρ S1 fun y S2 => match x, y with
  | .ref a, .int k => wSome (S2 a) fun o => match o with | .lst ds => wSome (ixN ds.length k) fun j => P ρ (S2.set a (.lst (ds.set j d)))
  | _, _ => False
theorem dg_sub (ho : DE X a wa) (hi : DE X b wb) (ha : ∀ v, assign (.Subscript a b pos) X.env v = (do
      let ov ← holding [v] (eval a X.env)
      let iv ← holding [v, ov] (eval b X.env)
      standAt pos
      holding [v, ov, iv] (setItem ov iv v)
      release [v, ov, iv] []) := by intro _; rfl) : DG X (.Subscript a b pos) [] (dgSub wa wb) :=
  fun Z => pg_imp (pg_sub (ho Z) (hi Z) set_list ha) fun y σ H Q ⟨ρ, S, d, P, hE, hS, r, hw, hP⟩ =>
    ⟨ρ, S, _, hE, hS, hw, fun d1 S1 v1 H1 x1 r1 s1 q1 => ⟨ρ, S1, _, hE.ext x1, s1, q1, fun d2 S2 v2 H2 x2 r2 s2 q2 => by
      cases d1 with
      | ref p =>
        cases d2 with
        | int k =>
          obtain ⟨o, e1, q2⟩ := wSome.get q2
          cases o with
          | lst ds =>
            obtain ⟨j, e2, q2⟩ := wSome.get q2
            obtain ⟨vs, hv, rs⟩ := s2.at_ p _ e1
            cases r1
            cases r2
            have r3 := (r.ext x1).ext x2
            refine ⟨p, vs, k, j, rfl, rfl, hv, by rw [← rs.length]; exact e2, ?_⟩
            have x3 : Ext ⟨X.K, Z⟩ S2 (S2.set p (.lst (ds.set j d))) H2 (upd H2 p (.lst (vs.set j y))) := Ext.wrote e1 hv
            exact hP ρ _ σ _ ((x1.trans x2).trans x3) (((hE.ext x1).ext x2).ext x3) (s2.wrote e1 hv (rs.set r3 j)) (fun _ _ => rfl) q2
        | _ => exact q2.elim
      | _ => cases d2 <;> exact q2.elim⟩⟩
def wAsg (w : DT) (g : DGt) : DSt := fun P ρ S => w ρ S fun d S1 => g d ρ S1 P.nx
theorem ds_asg {tg : Expr} {ts : List Nat} {g : DGt} (he : DE X e w) (hg : DG X tg ts g) (hs : swapsWithSole [tg] e pos.line X.env = pure false := by rfl) (hw : swappedStores [tg] e X.env = pure none := by rfl)
    (h1 : (assignEach [tg] X.env).map (·.2) = [assign tg X.env] := by rfl) : DS X (.Assign [tg] e pos) (wAsg w g) := fun Z => ps_imp (ps_asg (he Z) (hg Z) hs hw h1) fun D σ H ⟨ρ, S, P, hE, hS, hw, hP⟩ =>
  ⟨ρ, S, _, hE, hS, hw, fun d S1 v H1 x1 r1 s1 q1 => ⟨ρ, S1, d, P.nx, hE.ext x1, s1, r1, q1, fun ρ2 S2 σ2 H2 x2 e2 s2 _ q2 => hP.nx ρ2 S2 σ2 H2 (x1.trans x2) e2 s2 q2⟩⟩
theorem ds_set {i : Nat} {x : Str} {pos' : Pos} (hN : X.N.Nodup) (he : DE X e w) (hi : X.N[i]? = some x := by rfl) (hx : Loc X.env.scope x := by first | exact Or.inl rfl | exact Or.inr rfl) (hs : swapsWith e (some (.Name x pos')) pos.line X.env = pure false := by rfl)
    (hf : X.fn x = true ∨ X.env.scope.names.lookup x = some .local := by first | exact .inl rfl | exact .inr rfl) : DS X (.Assign [.Name x pos'] e pos) (wAsg w (dgName i)) := fun Z => ps_imp (L2.ps_set hN hi hx (he Z) hs hf) fun D σ H ⟨ρ, S, P, hE, hS, hw, hP⟩ =>
  ⟨ρ, S, _, hE, hS, hw, fun d S1 v H1 x1 r1 s1 q1 => hP.nx _ S1 _ H1 x1 ((hE.ext x1).set r1 i) s1 q1⟩
def wPar (i j : Nat) (w : DA) : DSt := fun P ρ S => w ρ S fun ds S1 => match ds with | [d, e] => P.nx ((ρ.set i (some d)).set j (some e)) S1 | _ => False
theorem ds_par {i j : Nat} {x y : Str} {wr : DA} {px py pt : Pos} {kt k2 pt2} (hc : X.calm = true) (hN : X.N.Nodup) (ha : DArgs X [a, b] wr) (hi : X.N[i]? = some x := by rfl) (hj : X.N[j]? = some y := by rfl) (hij : i ≠ j := by decide)
    (hx : X.env.scope.names.lookup x = some .local := by rfl) (hy : X.env.scope.names.lookup y = some .local := by rfl)
    (hw : swappedStores [.Tuple [.Name x px, .Name y py] kt pt] (.Tuple [a, b] k2 pt2) X.env = pure (some [x, y]) := by rfl)
    (hs : swapsWithSole [.Tuple [.Name x px, .Name y py] kt pt] (.Tuple [a, b] k2 pt2) pos.line X.env = pure false := by rfl) :
    DS X (.Assign [.Tuple [.Name x px, .Name y py] kt pt] (.Tuple [a, b] k2 pt2) pos) (wPar i j wr) := fun Z => ps_imp (ps_par hc hN hi hj hij hx hy (ha Z) hw hs) fun D σ H ⟨ρ, S, P, hE, hS, hw, hP⟩ =>
  ⟨ρ, S, _, hE, hS, hw, fun ds S1 vs H1 x1 r1 s1 q1 => by
    cases r1 with
    | nil => exact q1.elim
    | cons r t =>
      cases t with
      | nil => exact q1.elim
      | cons r2 t =>
        cases t with
        | nil => exact ⟨_, _, rfl, hP.nx _ S1 _ H1 x1 (((hE.ext x1).set r i).set r2 j) s1 q1⟩
        | cons _ _ => exact q1.elim⟩
def wPar3 (i j l : Nat) (w : DA) : DSt := fun P ρ S => w ρ S fun ds S1 => match ds with | [d, e, f] => P.nx (((ρ.set i (some d)).set j (some e)).set l (some f)) S1 | _ => False
theorem ds_par3 {i j l : Nat} {x y z : Str} {wr : DA} {px py pz pt : Pos} {kt k2 pt2} (hc : X.calm = true) (hN : X.N.Nodup) (ha : DArgs X [a, b, c] wr) (hi : X.N[i]? = some x := by rfl) (hj : X.N[j]? = some y := by rfl) (hl : X.N[l]? = some z := by rfl) (hij : i ≠ j := by decide) (hil : i ≠ l := by decide) (hjl : j ≠ l := by decide)
    (hx : X.env.scope.names.lookup x = some .local := by rfl) (hy : X.env.scope.names.lookup y = some .local := by rfl) (hz : X.env.scope.names.lookup z = some .local := by rfl)
    (hw : swappedStores [.Tuple [.Name x px, .Name y py, .Name z pz] kt pt] (.Tuple [a, b, c] k2 pt2) X.env = pure (some [x, y, z]) := by rfl)
    (hs : swapsWithSole [.Tuple [.Name x px, .Name y py, .Name z pz] kt pt] (.Tuple [a, b, c] k2 pt2) pos.line X.env = pure false := by rfl) :
    DS X (.Assign [.Tuple [.Name x px, .Name y py, .Name z pz] kt pt] (.Tuple [a, b, c] k2 pt2) pos) (wPar3 i j l wr) := fun Z => ps_imp (ps_par3 hc hN hi hj hl hij hil hjl hx hy hz (ha Z) hw hs) fun D σ H ⟨ρ, S, P, hE, hS, hw, hP⟩ =>
  ⟨ρ, S, _, hE, hS, hw, fun ds S1 vs H1 x1 r1 s1 q1 => by
    cases r1 with
    | nil => exact q1.elim
    | cons r t =>
      cases t with
      | nil => exact q1.elim
      | cons r2 t =>
        cases t with
        | nil => exact q1.elim
        | cons r3 t =>
          cases t with
          | nil => exact ⟨_, _, _, rfl, hP.nx _ S1 _ H1 x1 ((((hE.ext x1).set r i).set r2 j).set r3 l) s1 q1⟩
          | cons _ _ => exact q1.elim⟩
end

/-! ### while -/
section
variable {X : Cx} {c : Expr} {body : List Stmt} {pos : Pos}
def wWhile (t : DB) (u : DSt) : DSt := fun P ρ S => ∃ W : Nat → Env' → Store → Prop, (∃ m, W m ρ S) ∧ ∀ m ρ S, W m ρ S →
  t ρ S fun b S1 => if b = true then u { P with nx := fun ρ' S' => ∃ m', m' < m ∧ W m' ρ' S', ct := fun ρ' S' => ∃ m', m' < m ∧ W m' ρ' S', bk := P.nx } ρ S1 else P.nx ρ S1
theorem ds_while {t : DB} {u : DSt} (hp : PassesOwn (model X.prog X.w) X.A X.env X.xe) (hc : DTest X c t) (hb : DSs X body u) : DS X (.While c body [] pos) (wWhile t u) := fun Z => ps_imp (ps_while hp (hc Z) (hb Z)) fun D σ H ⟨ρ, S, P, hE, hS, ⟨W, ⟨m0, w0⟩, turn⟩, hP⟩ =>
  ⟨fun m σ' H' => ∃ ρ' S', Ext ⟨X.K, Z⟩ S S' H H' ∧ RelE ⟨X.K, Z⟩ S' H' ρ' σ' ∧ RelS ⟨X.K, Z⟩ S' H' ∧ W m ρ' S', ⟨m0, ρ, S, Ext.refl, hE, hS, w0⟩, fun m σ1 H1 ⟨ρ1, S1, x1, e1, s1, w1⟩ =>
    ⟨ρ1, S1, _, e1, s1, turn m ρ1 S1 w1, fun b S2 H2 x2 s2 q2 => by
      cases b with
      | false => exact hP.nx ρ1 S2 σ1 H2 (x1.trans x2) (e1.ext x2) s2 q2
      | true =>
        refine ⟨fun σ' H' => ∃ m', m' < m ∧ ∃ ρ' S', Ext ⟨X.K, Z⟩ S S' H H' ∧ RelE ⟨X.K, Z⟩ S' H' ρ' σ' ∧ RelS ⟨X.K, Z⟩ S' H' ∧ W m' ρ' S', fun σ' H' ⟨m', l, r⟩ => ⟨m', l, r⟩, ?_⟩
        have go : PoS ⟨X.K, Z⟩ S2 H2 (fun ρ' S' => ∃ m', m' < m ∧ W m' ρ' S') (fun σ' H' => ∃ m', m' < m ∧ ∃ ρ' S', Ext ⟨X.K, Z⟩ S S' H H' ∧ RelE ⟨X.K, Z⟩ S' H' ρ' σ' ∧ RelS ⟨X.K, Z⟩ S' H' ∧ W m' ρ' S') :=
          fun ρ3 S3 σ3 H3 x3 e3 s3 ⟨m', l, w3⟩ => ⟨m', l, ρ3, S3, (x1.trans x2).trans x3, e3, s3, w3⟩
        exact ⟨ρ1, S2, _, e1.ext x2, s2, q2, ⟨go, (hP.ext (x1.trans x2)).rt, (hP.ext (x1.trans x2)).nx, go⟩⟩⟩⟩
/-- a while by a word and a measure of the state -/
theorem while_d {t : DB} {u : DSt} {P : DEnds} {ρ : Env'} {S : Store} (W : Env' → Store → Prop) (μ : Env' → Store → Nat) (h0 : W ρ S)
    (hs : ∀ ρ S, W ρ S → t ρ S fun b S1 => if b = true then u { P with nx := fun ρ' S' => ∃ m', m' < μ ρ S ∧ m' = μ ρ' S' ∧ W ρ' S', ct := fun ρ' S' => ∃ m', m' < μ ρ S ∧ m' = μ ρ' S' ∧ W ρ' S', bk := P.nx } ρ S1 else P.nx ρ S1) : wWhile t u P ρ S :=
  ⟨fun m ρ S => m = μ ρ S ∧ W ρ S, ⟨_, rfl, h0⟩, fun m ρ S ⟨e, w⟩ => by subst e; exact hs ρ S w⟩
end

/-! ### what is walked -/
abbrev DIt := Env' → Store → (List D → (Store → Prop) → Store → Prop) → Prop
/-- K with other addresses set aside; none of them stood in H -/
def Kz.wz (K : Kz) (z : Addr → Prop) : Kz := ⟨K.f, z⟩
def Fine (K : Kz) (H : Hp) (z : Addr → Prop) : Prop := ∀ a o, H a = some o → z a → K.z a
mutual
theorem Rp.fine {K : Kz} {S : Store} {H : Hp} {z : Addr → Prop} (h : Fine K H z) : ∀ {d : D} {v : V}, Rp K S H d v → Rp (K.wz z) S H d v
  | _, _, .non => .non
  | _, _, .bl b => .bl b
  | _, _, .int i => .int i
  | _, _, .str x => .str x
  | _, _, .ref a => .ref a
  | _, _, .tup q r => .tup q (Rps.fine h r)
  | _, _, .scr q n nz r => .scr q n (fun x => nz (h _ _ q x)) (Rps.fine h r)
  | _, _, .frz q r => .frz q (Rps.fine h r)
theorem Rps.fine {K : Kz} {S : Store} {H : Hp} {z : Addr → Prop} (h : Fine K H z) : ∀ {ds : List D} {vs : List V}, Rps K S H ds vs → Rps (K.wz z) S H ds vs
  | _, _, .nil => .nil
  | _, _, .cons r t => .cons (Rp.fine h r) (Rps.fine h t)
end
theorem Ext.wz {K : Kz} {S S1 : Store} {H H1 : Hp} {z : Addr → Prop} (x : Ext K S S1 H H1) : Ext (K.wz z) S S1 H H1 := ⟨x.tup, x.frz, x.keep, x.new⟩
theorem Ext.unwz {K : Kz} {S S1 : Store} {H H1 : Hp} {z : Addr → Prop} (x : Ext (K.wz z) S S1 H H1) : Ext K S S1 H H1 := ⟨x.tup, x.frz, x.keep, x.new⟩
/-- as Ext, but lists set aside may have changed -/
structure ExtZ (K : Kz) (S S' : Store) (H H' : Hp) : Prop where
  tup : ∀ b xs, SqT K.f H b xs → SqT K.f H' b xs
  frz : ∀ b o u, H b = some (.frz o u) → H' b = some (.frz o u)
  keep : ∀ b o, H b = some o → S b = none → ¬ K.z b → H' b = some o
  new : ∀ b o, H b = some o → S b = none → S' b = none
theorem Ext.toZ {K : Kz} {S S1 : Store} {H H1 : Hp} (x : Ext K S S1 H H1) : ExtZ K S S1 H H1 := ⟨x.tup, x.frz, fun b o q n _ => x.keep b o q n, x.new⟩
theorem SqF.extZ {K : Kz} {S S1 : Store} {H H' : Hp} {a : Addr} {xs : List V} (h : SqF K H a xs) (x : ExtZ K S S1 H H') : SqF K H' a xs := by
  rcases h with ⟨o, h⟩ | h
  · exact .inl ⟨o, x.frz _ _ _ h⟩
  · exact .inr h
mutual
theorem Rp.move {K : Kz} {S S1 : Store} {H H1 : Hp} {z : Addr → Prop} (x : ExtZ K S S1 H H1) (h : Fine K H z) : ∀ {d : D} {v : V}, Rp K S H d v → Rp (K.wz z) S1 H1 d v
  | _, _, .non => .non
  | _, _, .bl b => .bl b
  | _, _, .int i => .int i
  | _, _, .str x => .str x
  | _, _, .ref a => .ref a
  | _, _, .tup q r => .tup (x.tup _ _ q) (Rps.move x h r)
  | _, _, .scr q n nz r => .scr (x.keep _ _ q n nz) (x.new _ _ q n) (fun y => nz (h _ _ q y)) (Rps.move x h r)
  | _, _, .frz q r => .frz (SqF.extZ (K := K) q x) (Rps.move x h r)
theorem Rps.move {K : Kz} {S S1 : Store} {H H1 : Hp} {z : Addr → Prop} (x : ExtZ K S S1 H H1) (h : Fine K H z) : ∀ {ds : List D} {vs : List V}, Rps K S H ds vs → Rps (K.wz z) S1 H1 ds vs
  | _, _, .nil => .nil
  | _, _, .cons r t => .cons (Rp.move x h r) (Rps.move x h t)
end
theorem RelE.move {K : Kz} {S S1 : Store} {H H1 : Hp} {ρ : Env'} {σ : St} (x : ExtZ K S S1 H H1) (r : RelE K S H ρ σ) : RelE K S1 H1 ρ σ := ⟨r.len, fun i d e => let ⟨v, h1, h2⟩ := r.at_ i d e; ⟨v, h1, h2.move x fun _ _ _ h => h⟩⟩
structure DWk (K : Kz) (S0 : Store) (H0 : Hp) (J : It) (ds : List D) (G : Store → Prop) : Prop where
  goes : ∀ z, Fine K H0 z → ∀ i S H, ExtZ K S0 S H0 H → RelS (K.wz z) S H → G S → i < ds.length → J.go i H
  stops : ∀ z, Fine K H0 z → ∀ S H, ExtZ K S0 S H0 H → RelS (K.wz z) S H → G S → J.stop ds.length H
  yields : ∀ z, Fine K H0 z → ∀ i S H x H', ExtZ K S0 S H0 H → RelS (K.wz z) S H → G S → i < ds.length → J.yld i H x H' → ∃ d, ds[i]? = some d ∧ Ext K S S H H' ∧ RelS (K.wz z) S H' ∧ Rp (K.wz z) S H' d x
def lI (K : Kz) (wi : DIt) : TI := fun σ H R => ∃ ρ S P, RelE K S H ρ σ ∧ RelS K S H ∧ wi ρ S P ∧ ∀ ds G S' H' J, Ext K S S' H H' → RelS K S' H' → P ds G S' → DWk K S' H' J ds G → R J H'
def DIter (X : Cx) (tg iter : Expr) (wi : DIt) : Prop := ∀ Z, PI X tg iter (lI ⟨X.K, Z⟩ wi)
theorem pi_imp {X : Cx} {tg iter : Expr} {t t' : TI} (h : PI X tg iter t) (i : ∀ σ H R, t' σ H R → t σ H R) : PI X tg iter t' := ⟨fun pins s σ H R I q => h.run pins s σ H R I (i _ _ _ q)⟩
theorem pi_or {X : Cx} {tg iter : Expr} {t u : TI} (h : PI X tg iter t) (h2 : PI X tg iter u) : PI X tg iter (fun σ H R => t σ H R ∨ u σ H R) := ⟨fun pins s σ H R I q => by
  rcases q with q | q
  · exact h.run pins s σ H R I q
  · exact h2.run pins s σ H R I q⟩
/-- a tuple or a list that stands still -/
def wIt (w : DT) : DIt := fun ρ S P => w ρ S fun d S1 => match d with
  | .tup ds => P ds (fun _ => True) S1
  | .scr ds => P ds (fun _ => True) S1
  | .frz ds => P ds (fun _ => True) S1
  | .ref a => wSome (S1 a) fun o => match o with | .lst ds => P ds (fun S => S a = some (.lst ds)) S1
  | _ => False
theorem dwk_list {K : Kz} {S0 : Store} {H0 : Hp} {a : Addr} {ds : List D} {G : Store → Prop} (h : ∀ z, Fine K H0 z → ∀ S H, ExtZ K S0 S H0 H → RelS (K.wz z) S H → G S → ∃ vs, SqL K.f H a vs ∧ Rps (K.wz z) S H ds vs) : DWk K S0 H0 (Itl K.f a) ds G where
  goes := fun z f i S H x s g hi => by
    obtain ⟨vs, q, r⟩ := h z f S H x s g
    obtain ⟨v, h1, _⟩ := r.get (i := i) (d := ds[i]) (by simp [hi])
    exact ⟨vs, v, q, h1⟩
  stops := fun z f S H x s g => by
    obtain ⟨vs, q, r⟩ := h z f S H x s g
    exact ⟨vs, q, by rw [r.length]; exact Nat.le_refl _⟩
  yields := fun z f i S H v H' x s g hi y => by
    obtain ⟨vs, q, r⟩ := h z f S H x s g
    obtain ⟨u, h1, h2⟩ := r.get (i := i) (d := ds[i]) (by simp [hi])
    have e := y.2 vs q
    rw [h1] at e
    cases e
    rw [y.1]
    exact ⟨_, by simp [hi], Ext.refl, s, h2⟩
theorem dwk_tup {K : Kz} {S0 : Store} {H0 : Hp} {a : Addr} {ds : List D} {G : Store → Prop} (h : ∀ z, Fine K H0 z → ∀ S H, ExtZ K S0 S H0 H → RelS (K.wz z) S H → G S → ∃ vs, SqT K.f H a vs ∧ Rps (K.wz z) S H ds vs) : DWk K S0 H0 (Itt K.f a) ds G where
  goes := fun z f i S H x s g hi => by
    obtain ⟨vs, q, r⟩ := h z f S H x s g
    obtain ⟨v, h1, _⟩ := r.get (i := i) (d := ds[i]) (by simp [hi])
    exact ⟨vs, v, q, h1⟩
  stops := fun z f S H x s g => by
    obtain ⟨vs, q, r⟩ := h z f S H x s g
    exact ⟨vs, q, by rw [r.length]; exact Nat.le_refl _⟩
  yields := fun z f i S H v H' x s g hi y => by
    obtain ⟨vs, q, r⟩ := h z f S H x s g
    obtain ⟨u, h1, h2⟩ := r.get (i := i) (d := ds[i]) (by simp [hi])
    have e := y.2 vs q
    rw [h1] at e
    cases e
    rw [y.1]
    exact ⟨_, by simp [hi], Ext.refl, s, h2⟩
end DL

/-! DL6: what is walked: lists, tuples, texts, ranges, enumerate; for, comprehensions. -/
namespace DT
open PySem PySem.Spec PyProof.Rows L2
/-! ### enumerate over a tuple -/
/-- the heap behind enumerate(t): two new objects, the tuple's iterator and the enumerate -/
def enumHp (h : Heap) (a : Addr) : Heap := (h.push { cls := .type "tuple_iterator", data := .fields #[.ref a, .int 0 0] }).push { cls := .type "enumerate", data := .fields #[.none, .bool false, .ref h.objs.size, rawInt 0, .none, .none] }
theorem enumHp_size (h : Heap) (a : Addr) : (enumHp h a).objs.size = h.objs.size + 2 := by unfold enumHp; rw [Heap.size_push, Heap.size_push]
theorem enumHp_old {h : Heap} {a b : Addr} {o : Obj} (e : h.get? b = some o) : (enumHp h a).get? b = some o := Heap.get?_push_of_some _ (Heap.get?_push_of_some _ e)
theorem enumHp_it (h : Heap) (a : Addr) : (enumHp h a).IsTupleIter h.objs.size a 0 := ⟨_, Heap.get?_push_of_some _ (Heap.get?_push_size _ rfl), rfl, rfl⟩
theorem enumHp_en (h : Heap) (a : Addr) : IsEnum (enumHp h a) (h.objs.size + 1) h.objs.size ((0 : Nat) : Int) .none := by
  have e := Heap.get?_push_size (h.push { cls := .type "tuple_iterator", data := .fields #[.ref a, .int 0 0] }) (o := { cls := .type "enumerate", data := .fields #[.none, .bool false, .ref h.objs.size, rawInt 0, .none, .none] }) rfl
  rwa [Heap.size_push] at e
theorem enum_made (a : Addr) (its : Array Value) : Meets (Builtin.«enumerate.__new__» ⟨[.type "enumerate", .ref a], []⟩) (fun _ R s => s.heap.IsTuple a its ∧ R (.ok (.ret (.ref (s.heap.push { cls := .type "tuple_iterator", data := .fields #[.ref a, .int 0 0] }).objs.size))) { s with heap := enumHp s.heap a }) :=
  .of_wp fun prog w A R ⟨hp, g, d, tk, os⟩ ⟨ht, hr⟩ => by
    have known := sub_enumerate
    have iter : ∀ {B : Around} {E : Value → Shared → Prop} {Q : Value → Shared → Prop}, Q (.ref hp.objs.size) ⟨hp.push { cls := .type "tuple_iterator", data := .fields #[.ref a, .int 0 0] }, g, d, tk, os⟩ → wpAny (model prog w) B (pyIter (.ref a)) Q E ⟨hp, g, d, tk, os⟩ := fun q => wpAny_pyIter_tuple ht q
    wp_walk using iter
    refine wpAny_stack_any fun st => wpAny_pure ?_
    split
    · rename_i c _ _ _ _ _
      rcases Bool.eq_false_or_eq_true (c == Value.type "enumerate") with e | e <;> rw [e] <;> wp_walk using iter <;> exact ⟨_, rfl, hr⟩
    · wp_walk using iter
      exact ⟨_, rfl, hr⟩
theorem call_enum {prog : Program} {w : World} {A : Around} {E : Value → Shared → Prop} {s : Shared} {a : Addr} {its : Array Value} {Q : Value → Shared → Prop} (ht : s.heap.IsTuple a its) (h : Q (.ref (s.heap.objs.size + 1)) { s with heap := enumHp s.heap a }) :
    wpAny (model prog w) A (call (.type "enumerate") [.ref a]) Q E s :=
  callType_new PySem.F.called_enumerate (by decide) (PySem.F.typeCall_enumerate_1 _) (PySem.F.newCall_enumerate_1 _) (fun obj => PySem.F.args_object_init_2 obj _) PySem.F.entry_enumerate_new (enum_made a its)
    ⟨ht, by rw [Heap.size_push]; exact ⟨⟨_, enumHp_en s.heap a, rfl⟩, h⟩⟩
end DT

namespace L2
open PySem PySem.Spec PyProof.Rows
/-- what a walk over enumerate(tuple) gives: each item in a pair of its own -/
def IteT (K : PySem.W.Frag) (a : Addr) : It where
  go i H := ∃ (xs : List V) (x : V), SqT K H a xs ∧ xs[i]? = some x
  yld i H v H' := ∃ T x, v = .ref T ∧ H T = none ∧ H' = upd H T (.tup [.int (i : Nat), x]) ∧ ∀ xs, SqT K H a xs → xs[i]? = some x
  stop i H := ∃ xs : List V, SqT K H a xs ∧ xs.length = i
/-- the two objects of such a walk, i items taken -/
structure EnT (e it a : Addr) (i : Nat) (h : Heap) : Prop where
  en : ∃ old, IsEnum h e it ((i : Nat) : Int) old
  ti : h.IsTupleIter it a i
  ne : e ≠ it
section
variable {e it a : Addr} {i : Nat} {h h' : Heap}
theorem two_cases {b : Addr} (hb : b ∈ [e, it]) : b = e ∨ b = it := by 
  rcases List.mem_cons.mp hb with z | z
  · exact .inl z
  · exact .inr (List.mem_singleton.mp z)
theorem EnT.ob (x : EnT e it a i h) {b : Addr} (hb : b ∈ [e, it]) : ∃ o, h.get? b = some o ∧ ∀ v, o.data ≠ .cell v := by
  obtain ⟨⟨old, en⟩, ⟨o, ho, _, hd⟩, _⟩ := x
  rcases two_cases hb with rfl | rfl
  · exact ⟨_, en, fun v q => by cases q⟩
  · exact ⟨o, ho, fun v q => by rw [q] at hd; cases hd⟩
theorem EnT.stay (x : EnT e it a i h) (k : ∀ b ∈ [e, it], ∀ o, h.get? b = some o → h'.get? b = some o) : EnT e it a i h' := by
  obtain ⟨⟨old, en⟩, ti, ne⟩ := x
  exact ⟨⟨old, k e List.mem_cons_self _ en⟩, ti.at fun o q => k it (List.mem_cons_of_mem _ List.mem_cons_self) o q, ne⟩
theorem EnT.size (x : EnT e it a i h) {b : Addr} (hb : b ∈ [e, it]) : b < h.objs.size := let ⟨_, q, _⟩ := x.ob hb; Heap.lt_size q
end
theorem enT_turn {P : Program} {w : World} {K : PySem.W.Frag} {elts : List Expr} {kk : Nat} {tpos : Pos} {a e it : Addr} (ai : a ≠ it) (ae : a ≠ e) : Turn P w K (.Tuple elts kk tpos) (IteT K a) [e, it] e (EnT e it a) where
  mem := List.mem_cons_self
  obj := fun _ _ st _ hb => st.ob hb
  keep := fun _ _ _ st k => st.stay k
  self := fun _ _ _ _ _ st q => let ⟨_, en⟩ := st.en; wpAny_pyIter_enum en q
  done := fun X hP hw hK hc i pins s σ H E I hf st ⟨xs, hq, hx⟩ => by
    cases hP; cases hw; cases hK
    obtain ⟨its, rv, tp, _⟩ := I.tuple hq
    obtain ⟨old, en⟩ := st.en
    have len : its.toArray.size = i := by rw [List.size_toArray, ← rv.length]; exact hx
    obtain ⟨g0, g1, _, g3, g4, g5⟩ := hf it (List.mem_cons_of_mem _ List.mem_cons_self)
    cases len
    exact wpAny_pyNext_enum_endD (D := Draws.tuple (A := X.A.in1) (I.ok.hd hc) it a ai its.toArray) en ⟨st.ti, tp⟩ fun h' k => ⟨rfl, I.turned (t' := s.toks) (fun b o hb q => k b o hb q) g0 g1 g3 g4 g5⟩
  item := fun X hP hw hK hc i pins s σ H E I hf st ⟨xs, x, hq, hx⟩ => by
    cases hP; cases hw; cases hK
    obtain ⟨its, rv, tp, _⟩ := I.tuple hq
    obtain ⟨old, en⟩ := st.en
    obtain ⟨u, iu, ru⟩ := rv.get hx
    have le := st.size (b := e) List.mem_cons_self
    have li := st.size (b := it) (List.mem_cons_of_mem _ List.mem_cons_self)
    have iu' : its.toArray[i]? = some u := by rw [← iu]; simp
    refine wpAny_pyNext_enum_itemD (D := Draws.tuple (A := X.A.in1) (I.ok.hd hc) it a ai its.toArray) en ⟨st.ti, tp⟩ (Array.getElem?_eq_some_iff.mp iu').1 st.ne (by
      intro z
      rcases List.mem_cons.mp z with z | z
      · exact st.ne z
      · exact ae (List.mem_singleton.mp z).symm) fun y h1 tk hy oy sty ty _ k1 => ?_
    cases iu'.symm.trans (show its.toArray[i]? = some y from hy)
    refine ⟨_, rfl, wpAny_letOwnedTupleGo_enum (s := { s with heap := h1, toks := tk + 1 }) oy fun h2 en2 sb => ?_⟩
    have pair := (sb.2 _ (Nat.ne_of_gt le)).trans ty
    have fresh := I.hok.fresh (Nat.le_refl s.heap.objs.size)
    have J := I.turnedNew (ch := [e, it]) (h' := h2) (t' := tk + 1) (fun b ob hb q => (sb.2 b fun z => hb (by simp [z])).trans (k1 b ob (fun z => hb (by simp [z])) (fun z => hb (by simp [z])) q)) hf (Nat.le_refl _)
      (show ObjOk X.prog X.w (upd H s.heap.objs.size (.tup [.int (i : Nat), x])) h2 s.heap.objs.size (.tup [.int (i : Nat), x]) from ⟨by show 2 ≤ sizeLine; decide, [.int i tk, u], .cons ⟨_, rfl⟩ (.cons ru .nil), ⟨_, pair, rfl, _, rfl⟩⟩)
    refine ⟨.ref s.heap.objs.size, _, J, rfl, ⟨_, x, rfl, fresh, rfl, fun ys hy => I.tuple_inj hq hy ▸ hx⟩, ⟨⟨u, Int.natCast_succ i ▸ en2⟩, sty.1.at fun o q => (sb.2 it (Ne.symm st.ne)).trans q, st.ne⟩, fun b hb => ?_⟩
    have lb := st.size hb
    exact (upd_ne (Nat.ne_of_lt lb)).trans (hf b hb).1
/-- enumerate(e): a list or a tuple -/
def iEnumA (K : PySem.W.Frag) (ta : TA) : TI := fun σ H R => ta σ H fun vs H1 => ∃ a xs, vs = [.ref a] ∧ ((SqL K H1 a xs ∧ R (Ite K a) H1) ∨ (SqT K H1 a xs ∧ R (IteT K a) H1))
theorem pi_enumA {X : Cx} {e : Expr} {ta : TA} {p pos tpos : Pos} {elts : List Expr} {kk : Nat} (hg : Gl X "enumerate") (hm : X.mg "enumerate" = none) (ha : PA X [e] ta) (hs : starEach [e] X.env = [(false, eval e X.env)] := by rfl) :
    PI X (.Tuple elts kk tpos) (.Call (.Name "enumerate" p) [e] [] pos) (iEnumA X.K ta) where
  run pins s σ H R I h := by
    refine Call_ (ld_blt I hg hm boot_enumerate (PyProof.Rows.callWith_type1 (thn (ha.run pos pins s σ H _ I h) fun us s1 ⟨vs, H1, I1, r1, a, xs, ev, q⟩ => ?_) hs rfl))
    cases ev
    obtain ⟨u, rfl, ru⟩ := vals1 r1
    cases ru
    have own : ∀ b ∈ [s1.heap.objs.size + 1, s1.heap.objs.size], FpOk X pins H1 b := fun b hb => by
      have le : s1.heap.objs.size ≤ b := by rcases two_cases hb with rfl | rfl <;> omega
      exact I1.fpOk le (I1.hok.fresh le)
    rcases q with ⟨hq, q⟩ | ⟨hq, q⟩
    · obtain ⟨its, _, pl, _⟩ := I1.list hq
      exact call_enumerate_list pl.isList fun h' en ti _ old => wpAny_pyIter_enum en ⟨_, _, _, _, H1, rfl, I1.kept (t' := s1.toks) old, turn_enum a _ _, ⟨⟨.none, en⟩, ti, Nat.succ_ne_self _⟩, own, q⟩
    · obtain ⟨its, _, tp, _⟩ := I1.tuple hq
      have la : a < s1.heap.objs.size := tp.lt
      exact DT.call_enum tp (wpAny_pyIter_enum (DT.enumHp_en s1.heap a) ⟨_, _, EnT (s1.heap.objs.size + 1) s1.heap.objs.size a, _, H1, rfl, I1.kept (t' := s1.toks) fun b o q => DT.enumHp_old q,
        enT_turn (Nat.ne_of_lt la) (Nat.ne_of_lt (Nat.lt_succ_of_lt la)), ⟨⟨.none, DT.enumHp_en s1.heap a⟩, DT.enumHp_it s1.heap a, Nat.succ_ne_self _⟩, own, q⟩)
/-- a list, a tuple, a text, as its value tells -/
def iAny (K : PySem.W.Frag) (te : TE) : TI := fun σ H R => te σ H fun x H1 => (∃ a, x = .ref a ∧ (∃ xs, SqL K H1 a xs) ∧ R (Itl K a) H1) ∨ (∃ a, x = .ref a ∧ (∃ xs, SqT K H1 a xs) ∧ R (Itt K a) H1) ∨ ∃ z, x = .str z ∧ R (Its z) H1
theorem pi_any {X : Cx} {tg l : Expr} {tl : TE} (hl : PE X l tl) : PI X tg l (iAny X.K tl) where
  run pins s σ H R I h := thn (hl.run pins s σ H _ I h) fun v s1 ⟨x, H1, I1, r1, q1⟩ => by
    rcases q1 with ⟨a, rfl, ⟨xs, hq⟩, q⟩ | ⟨a, rfl, ⟨xs, hq⟩, q⟩ | ⟨z, rfl, q⟩
    · obtain ⟨_, _, pl, _⟩ := I1.list hq
      cases r1
      exact wpAny_pyIter_list pl.isList (pi_one (tk := s1.toks) I1 _ (turn_list a _) ⟨_, Heap.get?_push_size _ rfl, rfl, rfl⟩ q)
    · obtain ⟨its, _, tp, _⟩ := I1.tuple hq
      cases r1
      exact wpAny_pyIter_tuple (show s1.heap.IsTuple a its.toArray from tp) (pi_one (tk := s1.toks) I1 _ (turn_tuple a _) ⟨_, Heap.get?_push_size _ rfl, rfl, rfl⟩ q)
    · obtain ⟨t, rfl⟩ := r1
      rcases Bool.eq_false_or_eq_true (z.cps.all (· < 128)) with b | b
      · exact wpAny_pyIter_ascii b (pi_one (tk := s1.toks) I1 _ (turn_str _ z t "str_ascii_iterator" (.inl rfl)) ⟨_, Heap.get?_push_size _ rfl, rfl, rfl⟩ q)
      · exact wpAny_pyIter_wide b (pi_one (tk := s1.toks) I1 _ (turn_str _ z t "str_iterator" (.inr rfl)) ⟨_, Heap.get?_push_size _ rfl, rfl, rfl⟩ q)
end L2

namespace DL
open PySem PySem.Spec L2
/-- what a walk gives is at hand -/
theorem dwk_fun {K : Kz} {S0 : Store} {H0 : Hp} {J : It} {n : Nat} {f : Nat → V} {ds : List D} (w : Walk J n (fun _ => True) (YFn f)) (hl : ds.length = n) (hr : ∀ K i S H, i < n → ∃ d, ds[i]? = some d ∧ Rp K S H d (f i)) : DWk K S0 H0 J ds (fun _ => True) where
  goes := fun _ _ i S H _ _ _ hi => w.goes i H (by omega) trivial
  stops := fun _ _ S H _ _ _ => by rw [hl]; exact w.stops H trivial
  yields := fun z _ i S H x H' _ s _ hi y => by
    obtain ⟨e1, e2⟩ := w.yields i H x H' (by omega) trivial y
    subst e1 e2
    obtain ⟨d, h1, h2⟩ := hr (K.wz z) i S H' (by omega)
    exact ⟨d, h1, Ext.refl, s, h2⟩
def strD (z : Str) : List D := z.cps.toList.map fun c => .str ⟨#[c]⟩
def rngD (lo : Int) (n : Nat) : List D := (List.range n).map fun (i : Nat) => .int (lo + (i : Int))
def enumD (ds : List D) : List D := ds.zipIdx.map fun p => .tup [.int (p.2 : Nat), p.1]
def wItS (w : DT) : DIt := fun ρ S P => w ρ S fun d S1 => match d with
  | .tup ds => P ds (fun _ => True) S1
  | .scr ds => P ds (fun _ => True) S1
  | .frz ds => P ds (fun _ => True) S1
  | .ref a => wSome (S1 a) fun o => match o with | .lst ds => P ds (fun S => S a = some (.lst ds)) S1
  | .str z => P (strD z) (fun _ => True) S1
  | _ => False
section
variable {X : Cx} {tg e a b : Expr} {w : DT} {wr : DA} {pos p tpos : Pos}
theorem di_seq (h : DE X e w) : DIter X tg e (wItS w) := fun Z => pi_imp (pi_any (h Z)) fun σ H R ⟨ρ, S, P, hE, hS, hw, hP⟩ =>
  ⟨ρ, S, _, hE, hS, hw, fun d S1 v H1 x1 r1 s1 q1 => by
    cases r1 with
    | tup q r => exact .inr (.inl ⟨_, rfl, ⟨_, q⟩, hP _ _ _ _ _ x1 s1 q1 (dwk_tup fun z f S2 H2 x2 s2 _ => ⟨_, x2.tup _ _ q, r.move x2 f⟩)⟩)
    | scr q n z r => exact .inl ⟨_, rfl, ⟨_, SqL.of q⟩, hP _ _ _ _ _ x1 s1 q1 (dwk_list fun z' f S2 H2 x2 s2 _ => ⟨_, SqL.of (x2.keep _ _ q n z), r.move x2 f⟩)⟩
    | frz q r => exact .inl ⟨_, rfl, ⟨_, q.list⟩, hP _ _ _ _ _ x1 s1 q1 (dwk_list fun z f S2 H2 x2 s2 _ => ⟨_, (q.extZ x2).list, r.move x2 f⟩)⟩
    | ref a =>
      obtain ⟨o, e1, q1⟩ := wSome.get q1
      cases o with
      | lst ds =>
        obtain ⟨vs, q, r⟩ := s1.at_ a _ e1
        exact .inl ⟨_, rfl, ⟨_, SqL.of q⟩, hP _ _ _ _ _ x1 s1 q1 (dwk_list fun z f S2 H2 x2 s2 g => by
          obtain ⟨us, q2, r2⟩ := s2.at_ a _ g
          exact ⟨us, SqL.of q2, r2⟩)⟩
    | str z =>
      refine .inr (.inr ⟨z, rfl, hP _ _ _ _ _ x1 s1 q1 ⟨fun _ _ i S2 H2 _ _ _ hi => ?_, fun _ _ S2 H2 _ _ _ => ?_, fun _ _ i S2 H2 v2 H3 _ s2 _ hi y => ?_⟩⟩)
      · have : i < z.cps.size := by simpa [strD] using hi
        exact this
      · show z.cps.size ≤ (strD z).length
        simp [strD]
      · obtain ⟨e1, c, hc, e2⟩ := y
        subst e1 e2
        refine ⟨.str ⟨#[c]⟩, ?_, Ext.refl, s2, .str _⟩
        have hc' : z.cps.toList[i]? = some c := by simpa using hc
        simp [strD, hc']
    | _ => exact q1.elim⟩
/-- range(n), range(a, b) -/
def wRng1 (w : DT) : DIt := fun ρ S P => w ρ S fun d S1 => match d with
  | .int j => (-(2 ^ 62) ≤ j ∧ j < 2 ^ 62) ∧ P (rngD 0 j.toNat) (fun _ => True) S1
  | _ => False
def wRng2 (w u : DT) : DIt := fun ρ S P => w ρ S fun d S1 => u ρ S1 fun e S2 => match d, e with
  | .int i, .int j => (-(2 ^ 62) ≤ i ∧ i < 2 ^ 62 ∧ -(2 ^ 62) ≤ j ∧ j < 2 ^ 62) ∧ P (rngD i (j - i).toNat) (fun _ => True) S2
  | _, _ => False
theorem dwk_rng {K : Kz} {S0 : Store} {H0 : Hp} {lo : Int} {n : Nat} : DWk K S0 H0 (Itr lo n) (rngD lo n) (fun _ => True) :=
  dwk_fun walk_range (by simp [rngD]) fun K i S H hi => ⟨.int (lo + i), by simp [rngD, hi], .int _⟩
theorem di_range1 (hm : X.mg "range" = none) (ha : DE X a w) (hg : Gl X "range" := by rfl) (hs : starEach [a] X.env = [(false, eval a X.env)] := by rfl) : DIter X tg (.Call (.Name "range" p) [a] [] pos) (wRng1 w) := fun Z => pi_imp (pi_range1 hg hm (pa_cons (ha Z) pa_nil (by rw [hs]; rfl)) hs) fun σ H R ⟨ρ, S, P, hE, hS, hw, hP⟩ =>
  ⟨ρ, S, _, hE, hS, hw, fun d S1 v H1 x1 r1 s1 q1 => by
    cases r1 with
    | int j => exact ⟨j, rfl, q1.1.1, q1.1.2, hP _ _ _ _ _ x1 s1 q1.2 dwk_rng⟩
    | _ => exact q1.elim⟩
theorem di_range2 {u : DT} (hm : X.mg "range" = none) (ha : DE X a w) (hb : DE X b u) (hg : Gl X "range" := by rfl) (hs : starEach [a, b] X.env = [(false, eval a X.env), (false, eval b X.env)] := by rfl) (hs2 : starEach [b] X.env = [(false, eval b X.env)] := by rfl) :
    DIter X tg (.Call (.Name "range" p) [a, b] [] pos) (wRng2 w u) := fun Z => pi_imp (pi_range2 hg hm (pa_cons (ha Z) (pa_cons (hb Z) pa_nil (by rw [hs2]; rfl)) (by rw [hs, hs2])) hs hs2) fun σ H R ⟨ρ, S, P, hE, hS, hw, hP⟩ =>
  ⟨ρ, S, _, hE, hS, hw, fun d S1 v H1 x1 r1 s1 q1 => ⟨ρ, S1, _, hE.ext x1, s1, q1, fun e S2 v2 H2 x2 r2 s2 q2 => by
    cases r1 with
    | int i =>
      cases r2 with
      | int j => exact ⟨i, j, rfl, q2.1, hP _ _ _ _ _ (x1.trans x2) s2 q2.2 dwk_rng⟩
      | _ => exact q2.elim
    | _ => cases r2 <;> exact q2.elim⟩⟩
/-- enumerate(xs) -/
def wEnum (w : DT) : DIt := fun ρ S P => w ρ S fun d S1 => match d with
  | .tup ds => P (enumD ds) (fun _ => True) S1
  | .scr ds => P (enumD ds) (fun _ => True) S1
  | .frz ds => P (enumD ds) (fun _ => True) S1
  | .ref a => wSome (S1 a) fun o => match o with | .lst ds => P (enumD ds) (fun S => S a = some (.lst ds)) S1
  | _ => False
theorem enumD_get {ds : List D} {i : Nat} {d : D} (h : ds[i]? = some d) : (enumD ds)[i]? = some (.tup [.int (i : Nat), d]) := by
  simp [enumD, h]
theorem enumD_length {ds : List D} : (enumD ds).length = ds.length := by simp [enumD]
theorem dwk_enumL {K : Kz} {S0 : Store} {H0 : Hp} {a : Addr} {ds : List D} {G : Store → Prop} (h : ∀ z, Fine K H0 z → ∀ S H, ExtZ K S0 S H0 H → RelS (K.wz z) S H → G S → ∃ vs, SqL K.f H a vs ∧ Rps (K.wz z) S H ds vs) : DWk K S0 H0 (Ite K.f a) (enumD ds) G where
  goes := fun z f i S H x s g hi => by
    obtain ⟨vs, q, r⟩ := h z f S H x s g
    have hi : i < ds.length := by rw [enumD_length] at hi; exact hi
    obtain ⟨v, h1, _⟩ := r.get (i := i) (d := ds[i]) (by simp [hi])
    exact ⟨vs, v, q, h1⟩
  stops := fun z f S H x s g => by
    obtain ⟨vs, q, r⟩ := h z f S H x s g
    exact ⟨vs, q, by rw [enumD_length, r.length]; exact Nat.le_refl _⟩
  yields := fun z f i S H v H' x s g hi y => by
    obtain ⟨vs, q, r⟩ := h z f S H x s g
    have hi : i < ds.length := by rw [enumD_length] at hi; exact hi
    obtain ⟨u, h1, h2⟩ := r.get (i := i) (d := ds[i]) (by simp [hi])
    obtain ⟨T, x', ev, hT, eH, hx⟩ := y
    have e := hx vs q
    rw [h1] at e
    cases e
    subst ev eH
    exact ⟨_, enumD_get (by simp [hi]), Ext.hid hT, s.hid hT, .tup (SqT.of upd_same) (.cons (.int _) (.cons (h2.ext (Ext.hid hT)) .nil))⟩
theorem dwk_enumT {K : Kz} {S0 : Store} {H0 : Hp} {a : Addr} {ds : List D} {G : Store → Prop} (h : ∀ z, Fine K H0 z → ∀ S H, ExtZ K S0 S H0 H → RelS (K.wz z) S H → G S → ∃ vs, SqT K.f H a vs ∧ Rps (K.wz z) S H ds vs) : DWk K S0 H0 (IteT K.f a) (enumD ds) G where
  goes := fun z f i S H x s g hi => by
    obtain ⟨vs, q, r⟩ := h z f S H x s g
    have hi : i < ds.length := by rw [enumD_length] at hi; exact hi
    obtain ⟨v, h1, _⟩ := r.get (i := i) (d := ds[i]) (by simp [hi])
    exact ⟨vs, v, q, h1⟩
  stops := fun z f S H x s g => by
    obtain ⟨vs, q, r⟩ := h z f S H x s g
    exact ⟨vs, q, by rw [enumD_length, r.length]⟩
  yields := fun z f i S H v H' x s g hi y => by
    obtain ⟨vs, q, r⟩ := h z f S H x s g
    have hi : i < ds.length := by rw [enumD_length] at hi; exact hi
    obtain ⟨u, h1, h2⟩ := r.get (i := i) (d := ds[i]) (by simp [hi])
    obtain ⟨T, x', ev, hT, eH, hx⟩ := y
    have e := hx vs q
    rw [h1] at e
    cases e
    subst ev eH
    exact ⟨_, enumD_get (by simp [hi]), Ext.hid hT, s.hid hT, .tup (SqT.of upd_same) (.cons (.int _) (.cons (h2.ext (Ext.hid hT)) .nil))⟩
theorem di_enum {elts : List Expr} {kk : Nat} (hm : X.mg "enumerate" = none) (ha : DE X e w) (hg : Gl X "enumerate" := by rfl) (hs : starEach [e] X.env = [(false, eval e X.env)] := by rfl) : DIter X (.Tuple elts kk tpos) (.Call (.Name "enumerate" p) [e] [] pos) (wEnum w) :=
  fun Z => pi_imp (pi_enumA hg hm (pa_cons (ha Z) pa_nil (by rw [hs]; rfl)) hs) fun σ H R ⟨ρ, S, P, hE, hS, hw, hP⟩ =>
  ⟨ρ, S, _, hE, hS, hw, fun d S1 v H1 x1 r1 s1 q1 => by
    cases r1 with
    | tup q r => exact ⟨_, _, rfl, .inr ⟨q, hP _ _ _ _ _ x1 s1 q1 (dwk_enumT fun z f S2 H2 x2 s2 _ => ⟨_, x2.tup _ _ q, r.move x2 f⟩)⟩⟩
    | scr q n z r => exact ⟨_, _, rfl, .inl ⟨SqL.of q, hP _ _ _ _ _ x1 s1 q1 (dwk_enumL fun z' f S2 H2 x2 s2 _ => ⟨_, SqL.of (x2.keep _ _ q n z), r.move x2 f⟩)⟩⟩
    | frz q r => exact ⟨_, _, rfl, .inl ⟨q.list, hP _ _ _ _ _ x1 s1 q1 (dwk_enumL fun z f S2 H2 x2 s2 _ => ⟨_, (q.extZ x2).list, r.move x2 f⟩)⟩⟩
    | ref a =>
      obtain ⟨o, e1, q1⟩ := wSome.get q1
      cases o with
      | lst ds =>
        obtain ⟨vs, q, r⟩ := s1.at_ a _ e1
        exact ⟨_, _, rfl, .inl ⟨SqL.of q, hP _ _ _ _ _ x1 s1 q1 (dwk_enumL fun z f S2 H2 x2 s2 g => by
          obtain ⟨us, q2, r2⟩ := s2.at_ a _ g
          exact ⟨us, SqL.of q2, r2⟩)⟩⟩
    | _ => exact q1.elim⟩

/-! ### for -/
def loopW (g : DGt) (tb : DSt) (G : Store → Prop) (P : DEnds) : List D → Env' → Store → Prop
  | [], ρ, S => G S ∧ P.nx ρ S
  | d :: ds, ρ, S => G S ∧ g d ρ S fun ρ2 S2 => tb { P with nx := loopW g tb G P ds, ct := loopW g tb G P ds, bk := P.nx } ρ2 S2
def wFor (wi : DIt) (g : DGt) (tb : DSt) : DSt := fun P ρ S => wi ρ S fun ds G S1 => loopW g tb G P ds ρ S1
theorem loopW_G {g : DGt} {tb : DSt} {G : Store → Prop} {P : DEnds} {ds : List D} {ρ : Env'} {S : Store} (h : loopW g tb G P ds ρ S) : G S := by
  cases ds with
  | nil => exact h.1
  | cons _ _ => exact h.1
theorem ds_for {iter : Expr} {body : List Stmt} {wi : DIt} {g : DGt} {ts : List Nat} {tb : DSt} (hp : PassesOwn (model X.prog X.w) X.A X.env X.xe) (hc : X.calm = true) (hi : DIter X tg iter wi) (hg : DG X tg ts g) (hb : DSs X body tb)
    (hs : ∀ x, foldedSetIterable iter X.env x = pure x := by intro _; rfl) : DS X (.For tg iter body [] pos) (wFor wi g tb) := fun Z => ps_imp (ps_for hp hc (hi Z) (hg Z) (hb Z) hs) fun D σ H ⟨ρ, S, P, hE, hS, hw, hP⟩ =>
  ⟨ρ, S, _, hE, hS, hw, fun ds G S1 H1 J x1 s1 q1 W => by
    refine ⟨fun i m σ' H' => m = ds.length - i ∧ i ≤ ds.length ∧ ∃ ρ' S', Ext ⟨X.K, Z⟩ S1 S' H1 H' ∧ RelE ⟨X.K, Z⟩ S' H' ρ' σ' ∧ RelS ⟨X.K, Z⟩ S' H' ∧ loopW g tb G P (ds.drop i) ρ' S',
      ⟨ds.length, by simp, Nat.zero_le _, ρ, S1, Ext.refl, hE.ext x1, s1, by simpa using q1⟩, ?_⟩
    rintro i m σ2 H2 ⟨rfl, hi, ρ2, S2, x2, e2, s2, l2⟩
    have gg := loopW_G l2
    by_cases hlt : i < ds.length
    · have hd : ds.drop i = ds[i] :: ds.drop (i + 1) := List.drop_eq_getElem_cons hlt
      rw [hd] at l2
      obtain ⟨_, l2⟩ := l2
      refine .inr ⟨W.goes Z (fun _ _ _ h => h) i S2 H2 x2.toZ s2 gg hlt, _, fun σ' H' p' => ⟨ds.length - (i + 1), by omega, rfl, hlt, p'⟩, fun x H3 y => ?_⟩
      obtain ⟨d, h1, x3, s3, r3⟩ := W.yields Z (fun _ _ _ h => h) i S2 H2 x H3 x2.toZ s2 gg hlt y
      have ed : ds[i] = d := by
        rw [List.getElem?_eq_getElem hlt] at h1
        exact Option.some.inj h1
      subst ed
      refine ⟨ρ2, S2, _, _, e2.ext x3, s3, r3, l2, fun ρ4 S4 σ4 H4 x4 e4 s4 _ q4 => ⟨ρ4, S4, _, e4, s4, q4, ?_⟩⟩
      have x14 := (x2.trans x3).trans x4
      have go : PoS ⟨X.K, Z⟩ S4 H4 (loopW g tb G P (ds.drop (i + 1))) (fun σ' H' => ∃ ρ' S', Ext ⟨X.K, Z⟩ S1 S' H1 H' ∧ RelE ⟨X.K, Z⟩ S' H' ρ' σ' ∧ RelS ⟨X.K, Z⟩ S' H' ∧ loopW g tb G P (ds.drop (i + 1)) ρ' S') :=
        fun ρ5 S5 σ5 H5 x5 e5 s5 q5 => ⟨ρ5, S5, x14.trans x5, e5, s5, q5⟩
      have hP2 := hP.ext (x1.trans x14)
      exact ⟨go, hP2.rt, hP2.nx, go⟩
    · have e : i = ds.length := by omega
      subst e
      rw [List.drop_length] at l2
      exact .inl ⟨W.stops Z (fun _ _ _ h => h) S2 H2 x2.toZ s2 gg, hP.nx ρ2 S2 σ2 H2 (x1.trans x2) e2 s2 l2.2⟩⟩

/-! ### comprehensions -/
def wipeD (ρ : Env') : List Nat → Env'
  | [] => ρ
  | v :: vs => (wipeD ρ vs).set v none
theorem RelE.wipe {K : Kz} {S : Store} {H : Hp} {ρ : Env'} {σ : St} (r : RelE K S H ρ σ) : ∀ vs : List Nat, RelE K S H (wipeD ρ vs) (L2.wipe σ vs)
  | [] => r
  | v :: vs => (RelE.wipe r vs).drop v
def lcW (g : DGt) (tt : DB) (te : DT) (G : Store → Prop) (ρ : Env') (P : DK) : List D → List D → Store → Prop
  | [], acc, S => G S ∧ P (.scr acc) S
  | d :: ds, acc, S => G S ∧ g d ρ S fun ρ2 S2 => tt ρ2 S2 fun b S3 => if b = true then te ρ2 S3 fun y S4 => lcW g tt te G ρ P ds (acc ++ [y]) S4 else lcW g tt te G ρ P ds acc S3
def wLc (wi : DIt) (g : DGt) (tt : DB) (te : DT) (vs : List Nat) : DT := fun ρ S P => wi ρ S fun ds G S1 => ds.length ≤ 1000000 ∧ lcW g tt te G (wipeD ρ vs) P ds [] S1
theorem lcW_G {g : DGt} {tt : DB} {te : DT} {G : Store → Prop} {ρ : Env'} {P : DK} {ds acc : List D} {S : Store} (h : lcW g tt te G ρ P ds acc S) : G S := by
  cases ds with
  | nil => exact h.1
  | cons _ _ => exact h.1
/-- one more address set aside -/
def plusZ (z : Addr → Prop) (D : Addr) : Addr → Prop := fun a => z a ∨ a = D
theorem fine_plus {K : Kz} {H : Hp} {A : Addr} (h : H A = none) : Fine K H (plusZ K.z A) := fun a o e q => q.elim (fun z => z) fun z => by subst z; rw [h] at e; cases e
mutual
theorem Rp.back {K : Kz} {S : Store} {H : Hp} {A : Addr} : ∀ {d : D} {v : V}, Rp (K.wz (plusZ K.z A)) S H d v → Rp K S H d v
  | _, _, .non => .non
  | _, _, .bl b => .bl b
  | _, _, .int i => .int i
  | _, _, .str x => .str x
  | _, _, .ref a => .ref a
  | _, _, .tup q r => .tup q (Rps.back r)
  | _, _, .scr q n nz r => .scr q n (fun x => nz (.inl x)) (Rps.back r)
  | _, _, .frz q r => .frz q (Rps.back r)
theorem Rps.back {K : Kz} {S : Store} {H : Hp} {A : Addr} : ∀ {ds : List D} {vs : List V}, Rps (K.wz (plusZ K.z A)) S H ds vs → Rps K S H ds vs
  | _, _, .nil => .nil
  | _, _, .cons r t => .cons (Rp.back r) (Rps.back t)
end
theorem SqF.updA {K : Kz} {H : Hp} {A a : Addr} {vs xs : List V} {o : HO} (hA : H A = some (.lst vs)) (q : SqF K H a xs) : SqF K (upd H A o) a xs := by
  rcases q with ⟨u, q⟩ | q
  · exact .inl ⟨u, by rw [upd_ne (ne_of q hA (fun z => nomatch z))]; exact q⟩
  · exact .inr q
mutual
theorem Rp.updA {K : Kz} {S : Store} {H : Hp} {A : Addr} {vs0 : List V} {o : HO} (hA : H A = some (.lst vs0)) : ∀ {d : D} {v : V}, Rp (K.wz (plusZ K.z A)) S H d v → Rp (K.wz (plusZ K.z A)) S (upd H A o) d v
  | _, _, .non => .non
  | _, _, .bl b => .bl b
  | _, _, .int i => .int i
  | _, _, .str x => .str x
  | _, _, .ref a => .ref a
  | _, _, .tup q r => .tup (sqt_upd (K := K) hA _ _ q) (Rps.updA hA r)
  | _, _, .scr q n nz r => .scr (by rw [upd_ne (fun z => nz (.inr z))]; exact q) n nz (Rps.updA hA r)
  | _, _, .frz q r => .frz (SqF.updA hA q) (Rps.updA hA r)
theorem Rps.updA {K : Kz} {S : Store} {H : Hp} {A : Addr} {vs0 : List V} {o : HO} (hA : H A = some (.lst vs0)) : ∀ {ds : List D} {vs : List V}, Rps (K.wz (plusZ K.z A)) S H ds vs → Rps (K.wz (plusZ K.z A)) S (upd H A o) ds vs
  | _, _, .nil => .nil
  | _, _, .cons r t => .cons (Rp.updA hA r) (Rps.updA hA t)
end
theorem RelS.startA {K : Kz} {S : Store} {H : Hp} {A : Addr} (r : RelS K S H) (h : H A = none) : RelS (K.wz (plusZ K.z A)) S (upd H A (.lst [])) := ⟨fun a o e => by
  cases o with
  | lst ds =>
    obtain ⟨vs, q, rr⟩ := r.at_ a _ e
    exact ⟨vs, by rw [upd_ne (ne_of_none q h)]; exact q, (rr.fine (fine_plus h)).ext (Ext.hid h)⟩, fun a q => by
  rcases q with q | q
  · obtain ⟨n, o, e⟩ := r.aside a q
    exact ⟨n, o, by rw [upd_ne (ne_of_none e h)]; exact e⟩
  · subst q
    exact ⟨r.free h, _, upd_same⟩⟩
theorem RelS.back {K : Kz} {S : Store} {H : Hp} {A : Addr} (r : RelS (K.wz (plusZ K.z A)) S H) : RelS K S H := ⟨fun a o e => by
  cases o with
  | lst ds =>
    obtain ⟨vs, q, rr⟩ := r.at_ a _ e
    exact ⟨vs, q, rr.back⟩, fun a q => r.aside a (.inl q)⟩
theorem RelS.updA {K : Kz} {S : Store} {H : Hp} {A : Addr} {vs ws : List V} (r : RelS (K.wz (plusZ K.z A)) S H) (h : H A = some (.lst vs)) : RelS (K.wz (plusZ K.z A)) S (upd H A (.lst ws)) := ⟨fun a o e => by
  have nA := (r.aside A (.inr rfl)).1
  have hne : a ≠ A := fun z => by subst z; rw [nA] at e; cases e
  cases o with
  | lst ds =>
    obtain ⟨us, q, rr⟩ := r.at_ a _ e
    exact ⟨us, by rw [upd_ne hne]; exact q, rr.updA h⟩, fun a q => by
  by_cases e : a = A
  · subst e; exact ⟨(r.aside a q).1, _, upd_same⟩
  · rw [upd_ne e]; exact r.aside a q⟩
theorem Ext.updA {K : Kz} {S S1 : Store} {H H1 : Hp} {A : Addr} {o : HO} {vs : List V} (x : Ext K S S1 H H1) (h : H A = none) (h1 : H1 A = some (.lst vs)) : Ext K S S1 H (upd H1 A o) :=
  ⟨fun b xs q => sqt_upd h1 b xs (x.tup b xs q), fun b o u q => by rw [upd_ne (ne_of (x.frz b o u q) h1 (fun z => nomatch z))]; exact x.frz b o u q,
   fun b o q n => by rw [upd_ne (ne_of_none q h)]; exact x.keep b o q n, x.new⟩
theorem RelE.fine {K : Kz} {S : Store} {H : Hp} {z : Addr → Prop} {ρ : Env'} {σ : St} (h : Fine K H z) (r : RelE K S H ρ σ) : RelE (K.wz z) S H ρ σ := ⟨r.len, fun i d e => let ⟨v, h1, h2⟩ := r.at_ i d e; ⟨v, h1, h2.fine h⟩⟩
theorem pe_ex {w : DT} (h : DE X e w) : PE X e (fun σ H Q => ∃ Z, lE ⟨X.K, Z⟩ w σ H Q) := ⟨fun pins s σ H Q I ⟨Z, q⟩ => (h Z).run pins s σ H Q I q⟩
theorem pg_ex {ts : List Nat} {g : DGt} (h : DG X e ts g) : PG X e (fun x σ H Q => ∃ Z, lG ⟨X.K, Z⟩ ts g x σ H Q) := ⟨fun pins s σ H v u Q I r ⟨Z, q⟩ => (h Z).run pins s σ H v u Q I r q⟩
def DTs (X : Cx) (ifs : List Expr) (w : DB) : Prop := ∀ Z, PTs X ifs (lB ⟨X.K, Z⟩ w)
def wYes : DB := fun _ S P => P true S
theorem dts_nil : DTs X [] wYes := fun Z => ⟨fun pins s σ H Q I ⟨ρ, S, P, hE, hS, hw, hP⟩ => pts_nil.run pins s σ H Q I (hP true S H Ext.refl hS hw)⟩
theorem dts_one {w : DB} (h : DTest X e w) : DTs X [e] w := fun Z => pts_one (h Z)
theorem pts_ex {ifs : List Expr} {w : DB} (h : DTs X ifs w) : PTs X ifs (fun σ H Q => ∃ Z, lB ⟨X.K, Z⟩ w σ H Q) := ⟨fun pins s σ H Q I ⟨Z, q⟩ => (h Z).run pins s σ H Q I q⟩
theorem lc_imp {K : PySem.W.Frag} {Z : Addr → Prop} {wi : DIt} {g : DGt} {ts : List Nat} {tt : DB} {te : DT} {vs : List Nat} (hts : ∀ i ∈ ts, i ∈ vs) {σ : St} {H : Hp} {Q : VK} (h : lE ⟨K, Z⟩ (wLc wi g tt te vs) σ H Q) :
    tLc (lI ⟨K, Z⟩ wi) (fun x σ H Q => ∃ Z, lG ⟨K, Z⟩ ts g x σ H Q) (fun σ H Q => ∃ Z, lB ⟨K, Z⟩ tt σ H Q) (fun σ H Q => ∃ Z, lE ⟨K, Z⟩ te σ H Q) vs σ H Q := by
  obtain ⟨ρ, S, P, hE, hS, hw, hP⟩ := h
  refine ⟨ρ, S, _, hE, hS, hw, fun ds G S1 H1 J x1 s1 ⟨hlen, q1⟩ W => ?_⟩
  intro A hA
  have ff : Fine ⟨K, Z⟩ H1 (plusZ Z A) := fine_plus (K := ⟨K, Z⟩) hA
  have hE1 : RelE ⟨K, plusZ Z A⟩ S1 H1 (wipeD ρ vs) (L2.wipe σ vs) := ((hE.ext x1).wipe vs).fine ff
  refine ⟨fun i m H' => m = ds.length - i ∧ i ≤ ds.length ∧ ∃ S' acc vacc, Ext ⟨K, Z⟩ S1 S' H1 H' ∧ RelS ⟨K, plusZ Z A⟩ S' H' ∧ H' A = some (.lst vacc) ∧ Rps ⟨K, plusZ Z A⟩ S' H' acc vacc ∧ acc.length ≤ i ∧ lcW g tt te G (wipeD ρ vs) P (ds.drop i) acc S',
    ⟨ds.length, by simp, Nat.zero_le _, S1, [], [], Ext.hid hA, s1.startA hA, upd_same, .nil, Nat.zero_le _, by simpa using q1⟩, ?_⟩
  rintro i m H2 ⟨rfl, hi, S2, acc, vacc, x2, s2, hA2, ra, hal, l2⟩
  have gg := lcW_G l2
  by_cases hlt : i < ds.length
  · have hd : ds.drop i = ds[i] :: ds.drop (i + 1) := List.drop_eq_getElem_cons hlt
    rw [hd] at l2
    obtain ⟨_, l2⟩ := l2
    refine .inr ⟨W.goes _ ff i S2 H2 x2.toZ s2 gg hlt, _, fun H' p' => ⟨ds.length - (i + 1), by omega, rfl, hlt, p'⟩, fun x H3 y => ?_⟩
    obtain ⟨d, h1, x3, s3, r3⟩ := W.yields _ ff i S2 H2 x H3 x2.toZ s2 gg hlt y
    have ed : ds[i] = d := by
      rw [List.getElem?_eq_getElem hlt] at h1
      exact Option.some.inj h1
    subst ed
    have nA : S2 A = none := (s2.aside A (.inr rfl)).1
    have x23 : Ext ⟨K, Z⟩ S1 S2 H1 H3 := x2.trans x3
    refine ⟨plusZ Z A, wipeD ρ vs, S2, _, _, hE1.ext (Ext.wz (K := ⟨K, Z⟩) x23), s3, r3, l2, fun ρ4 S4 σ4 H4 x4 e4 s4 w4 q4 => ⟨w4 vs hts |>.trans ?_, plusZ Z A, ρ4, S4, _, e4, s4, q4, fun b S5 H5 x5 s5 q5 => ?_⟩⟩
    · have go : ∀ vs : List Nat, L2.wipe (L2.wipe σ vs) vs = L2.wipe σ vs := fun vs => by
        have key : ∀ (us ws : List Nat), (∀ i ∈ us, i ∈ ws) → L2.wipe (L2.wipe σ us) ws = L2.wipe σ ws := fun us => by
          induction us with
          | nil => intro ws _; rfl
          | cons u us ih =>
            intro ws hs
            show L2.wipe ((L2.wipe σ us).set u none) ws = _
            rw [wipe_set (hs u (by simp))]
            exact ih ws fun i hi => hs i (by simp [hi])
        exact key vs vs fun _ h => h
      exact go vs
    · have x45 := x4.trans x5
      have x35 : Ext ⟨K, Z⟩ S2 S5 H3 H5 := Ext.unwz (K := ⟨K, Z⟩) x45
      have x25 : Ext ⟨K, Z⟩ S2 S5 H2 H5 := x3.trans x35
      have hA5 : H5 A = some (.lst vacc) := x25.keep _ _ hA2 nA
      have ra5 : Rps ⟨K, plusZ Z A⟩ S5 H5 acc vacc := ra.ext (Ext.wz (K := ⟨K, Z⟩) x25)
      cases b with
      | false =>
        exact ⟨S5, acc, vacc, x2.trans x25, s5, hA5, ra5, by omega, q5⟩
      | true =>
        refine ⟨plusZ Z A, ρ4, S5, _, e4.ext x5, s5, q5, fun y S6 v H6 x6 r6 s6 q6 => ?_⟩
        have x56 : Ext ⟨K, Z⟩ S5 S6 H5 H6 := Ext.unwz (K := ⟨K, Z⟩) x6
        have nA5 : S5 A = none := (s5.aside A (.inr rfl)).1
        have hA6 : H6 A = some (.lst vacc) := x56.keep _ _ hA5 nA5
        have ra6 : Rps ⟨K, plusZ Z A⟩ S6 H6 acc vacc := ra5.ext x6
        refine ⟨vacc, hA6, ?_, S6, acc ++ [y], vacc ++ [v], Ext.updA ((x2.trans x25).trans x56) hA hA6, RelS.updA (K := ⟨K, Z⟩) s6 hA6, upd_same, ?_, ?_, q6⟩
        · rw [← ra6.length]
          have h6 : 1000000 < sizeLine := by decide
          omega
        · exact Rps.updA (K := ⟨K, Z⟩) hA6 (ra6.append (.cons r6 .nil))
        · rw [List.length_append, List.length_singleton]; omega
  · have e : i = ds.length := by omega
    subst e
    rw [List.drop_length] at l2
    refine .inl ⟨W.stops _ ff S2 H2 x2.toZ s2 gg, ?_⟩
    have nA : S2 A = none := (s2.aside A (.inr rfl)).1
    exact hP _ S2 _ H2 (x1.trans x2) (.scr hA2 nA (s1.nz hA) (Rps.back (K := ⟨K, Z⟩) ra)) (RelS.back (K := ⟨K, Z⟩) s2) l2.2
theorem d_lc {elt iter : Expr} {ifs : List Expr} {scope : Scope} {own : List (Str × Nat)} {vs : List Nat} {wi : DIt} {g : DGt} {ts : List Nat} {tt : DB} {te : DT} (hc : X.calm = true) (hN : X.N.Nodup) (ok : BlkOk X.N X.env.scope scope own) (hi : DIter X tg iter wi)
    (hg : ∀ (s : Shared) (H : Hp) (C : Addr) (cl : List (Str × Addr)) (fp : List Addr), DG (X.blk s H scope (compEnvC scope cl C X.env) fp) tg ts g) (ht : ∀ (s : Shared) (H : Hp) (C : Addr) (cl : List (Str × Addr)) (fp : List Addr), DTs (X.blk s H scope (compEnvC scope cl C X.env) fp) ifs tt)
    (he : ∀ (s : Shared) (H : Hp) (C : Addr) (cl : List (Str × Addr)) (fp : List Addr), DE (X.blk s H scope (compEnvC scope cl C X.env) fp) elt te) (hvs : own.map (·.2) = vs := by rfl) (hts : ∀ i ∈ ts, i ∈ vs := by decide) (hs : ∀ x, foldedSetIterable iter X.env x = pure x := by intro _; rfl) :
    DE X (.ListComp elt [⟨tg, iter, ifs, 0⟩] scope pos) (wLc wi g tt te vs) := fun Z => by
  subst hvs
  exact pe_imp (pe_lc hc hN (hi Z) ok (fun s H C cl fp => pg_ex (hg s H C cl fp)) (fun s H C cl fp => pts_ex (ht s H C cl fp)) (fun s H C cl fp => pe_ex (he s H C cl fp)) hs) fun σ H Q h => lc_imp hts h
theorem ds_setLc {i : Nat} {y : Str} {py spos : Pos} {elt iter : Expr} {ifs : List Expr} {scope : Scope} {own : List (Str × Nat)} {vs : List Nat} {wi : DIt} {g : DGt} {ts : List Nat} {tt : DB} {te : DT} (hc : X.calm = true) (hN : X.N.Nodup) (ok : BlkOk X.N X.env.scope scope own)
    (hsw : swapsWith (.ListComp elt [⟨tg, iter, ifs, 0⟩] scope pos) (some (.Name y py)) spos.line X.env = pure true) (hi : DIter X tg iter wi)
    (hg : ∀ (s : Shared) (H : Hp) (C : Addr) (cl : List (Str × Addr)) (fp : List Addr), DG (X.blk s H scope (compEnvC scope cl C X.env) fp) tg ts g) (ht : ∀ (s : Shared) (H : Hp) (C : Addr) (cl : List (Str × Addr)) (fp : List Addr), DTs (X.blk s H scope (compEnvC scope cl C X.env) fp) ifs tt)
    (he : ∀ (s : Shared) (H : Hp) (C : Addr) (cl : List (Str × Addr)) (fp : List Addr), DE (X.blk s H scope (compEnvC scope cl C X.env) fp) elt te) (hy : X.N[i]? = some y := by rfl) (hyl : X.env.scope.names.lookup y = some .local := by rfl) (hvs : own.map (·.2) = vs := by rfl) (hts : ∀ i ∈ ts, i ∈ vs := by decide) (hs : ∀ x, foldedSetIterable iter X.env x = pure x := by intro _; rfl) :
    DS X (.Assign [.Name y py] (.ListComp elt [⟨tg, iter, ifs, 0⟩] scope pos) spos) (wAsg (wLc wi g tt te vs) (dgName i)) := fun Z => by
  subst hvs
  exact ps_imp (L2.ps_setLc hc hN hy hyl hsw (hi Z) ok (fun s H C cl fp => pg_ex (hg s H C cl fp)) (fun s H C cl fp => pts_ex (ht s H C cl fp)) (fun s H C cl fp => pe_ex (he s H C cl fp)) hs) fun D σ H ⟨ρ, S, P, hE, hS, hw, hP⟩ =>
  lc_imp hts ⟨ρ, S, _, hE, hS, hw, fun d S1 v H1 x1 r1 s1 q1 => hP.nx _ S1 _ H1 x1 ((hE.ext x1).set r1 i) s1 q1⟩
end
end DL

/-! DL7: methods, calls of defs, the rule for a def. -/
namespace DL
open PySem PySem.Spec L2 PyProof.Rows
section
variable {X : Cx} {e a b c o : Expr} {es : List Expr} {w wo we : DT} {wr : DA} {pos apos : Pos}
/-! ### methods of texts -/
def wM1 (r : Str → D → Store → DK → Prop) (wo we : DT) : DT := fun ρ S P => wo ρ S fun x S1 => match x with
  | .str a => we ρ S1 fun y S2 => r a y S2 P
  | _ => False
def lMt (K : Kz) (r : Str → D → Store → DK → Prop) : V → List V → Hp → VK → Prop := fun x xs H Q => ∃ a v S P d, x = .str a ∧ xs = [v] ∧ RelS K S H ∧ Rp K S H d v ∧ r a d S P ∧ Po K S H P Q
theorem d_m1 {id : String} {name : Str} {r : Str → D → Store → DK → Prop} (slot : Slot "str" name id) (ty : typeOf (.builtin id) = pure (.type "method_descriptor")) (rule : ∀ Z, MtR X id (lMt ⟨X.K, Z⟩ r)) (ho : DE X o wo) (he : DE X e we)
    (hs : starEach [e] X.env = [(false, eval e X.env)] := by rfl) (hbase : attributeBase o name X.env (eval o X.env) = eval o X.env := by rfl) (hline : (apos.endLine == pos.line) = true := by rfl) :
    DE X (.Call (.Attribute o name apos) [e] [] pos) (wM1 r wo we) := fun Z => pe_imp (pe_m1 slot ty (rule Z) (ho Z) (he Z) hs hbase hline) fun σ H Q ⟨ρ, S, P, hE, hS, hw, hP⟩ =>
  ⟨ρ, S, _, hE, hS, hw, fun d S1 v H1 x1 r1 s1 q1 => by
    cases r1 with
    | str a => exact ⟨⟨a, rfl⟩, ρ, S1, _, hE.ext x1, s1, q1, fun d2 S2 v2 H2 x2 r2 s2 q2 => ⟨a, v2, S2, P, d2, rfl, rfl, s2, r2, q2, (hP.ext x1).ext x2⟩⟩
    | _ => exact q1.elim⟩
def strsOf : List D → Option (List Str)
  | [] => some []
  | .str b :: r => (strsOf r).map (b :: ·)
  | _ :: _ => none
theorem strsOf_eq : ∀ {ds : List D} {bs : List Str}, strsOf ds = some bs → ds = bs.map D.str
  | [], _, h => by simp [strsOf] at h; subst h; rfl
  | .str b :: r, bs, h => by
    simp only [strsOf, Option.map_eq_some_iff] at h
    obtain ⟨cs, h1, rfl⟩ := h
    rw [strsOf_eq h1]; rfl
  | .non :: _, _, h => by simp [strsOf] at h
  | .int _ :: _, _, h => by simp [strsOf] at h
  | .bl _ :: _, _, h => by simp [strsOf] at h
  | .tup _ :: _, _, h => by simp [strsOf] at h
  | .scr _ :: _, _, h => by simp [strsOf] at h
  | .frz _ :: _, _, h => by simp [strsOf] at h
  | .ref _ :: _, _, h => by simp [strsOf] at h
theorem strsOf_map (bs : List Str) : strsOf (bs.map D.str) = some bs := by
  induction bs with
  | nil => rfl
  | cons b r ih => simp [strsOf, ih]
def rJoinD (a : Str) (y : D) (S : Store) (P : DK) : Prop := wSome (seqOf S y) fun ds => wSome (strsOf ds) fun ys => (ys.map (·.length)).sum + ys.length * a.length ≤ 16777216 ∧ P (.str (Txt.join a ys)) S
theorem join_ok : ∀ Z, MtR X "str.join" (lMt ⟨X.K, Z⟩ rJoinD) := fun Z => mtI mt_join fun x xs H Q ⟨a, v, S, P, d, e1, e2, hS, r, h, hP⟩ => by
  subst e1 e2
  obtain ⟨ds, e1, h1⟩ := wSome.get h
  obtain ⟨ys, e2, h2⟩ := h1.get
  obtain ⟨p, vs, rfl, q, r⟩ := seq_rp hS r e1
  have e3 := strsOf_eq e2
  subst e3
  have e4 := Rps.of_strs r
  subst e4
  exact ⟨a, p, ys, rfl, rfl, q, h2.1, hP _ S _ H Ext.refl (.str _) hS h2.2⟩
theorem d_join (ho : DE X o wo) (he : DE X e we) (hs : starEach [e] X.env = [(false, eval e X.env)] := by rfl) (hbase : attributeBase o "join" X.env (eval o X.env) = eval o X.env := by rfl) (hline : (apos.endLine == pos.line) = true := by rfl) :
    DE X (.Call (.Attribute o "join" apos) [e] [] pos) (wM1 rJoinD wo we) := d_m1 F.slot_str_join F.type_str_join join_ok ho he hs hbase hline
def rSplitD (a : Str) (y : D) (S : Store) (P : DK) : Prop := match y with
  | .str b => ((b.length == 0) = false ∧ a.length + 2 ≤ sizeLine) ∧ P (.scr ((Txt.split a b).map D.str)) S
  | _ => False
theorem split_ok : ∀ Z, MtR X "str.split" (lMt ⟨X.K, Z⟩ rSplitD) := fun Z => mtI mt_split fun x xs H Q ⟨a, v, S, P, d, e1, e2, hS, r, h, hP⟩ => by
  subst e1 e2
  cases r with
  | str b => exact ⟨a, b, rfl, rfl, h.1.1, h.1.2, fun p hp => hP _ S _ _ (Ext.hid hp) (.scr upd_same (hS.free hp) (hS.nz hp) Rps.strs) (hS.hid hp) h.2⟩
  | _ => exact h.elim
theorem d_split (ho : DE X o wo) (he : DE X e we) (hs : starEach [e] X.env = [(false, eval e X.env)] := by rfl) (hbase : attributeBase o "split" X.env (eval o X.env) = eval o X.env := by rfl) (hline : (apos.endLine == pos.line) = true := by rfl) :
    DE X (.Call (.Attribute o "split" apos) [e] [] pos) (wM1 rSplitD wo we) := d_m1 F.slot_str_split F.type_str_split split_ok ho he hs hbase hline
def rPartD (a : Str) (y : D) (S : Store) (P : DK) : Prop := match y with
  | .str b => ((b.length == 0) = false ∧ a.length ≤ sizeLine) ∧ P (.tup [.str (Txt.partition a b).1, .str (Txt.partition a b).2.1, .str (Txt.partition a b).2.2]) S
  | _ => False
theorem part_ok : ∀ Z, MtR X "str.partition" (lMt ⟨X.K, Z⟩ rPartD) := fun Z => mtI mt_partition fun x xs H Q ⟨a, v, S, P, d, e1, e2, hS, r, h, hP⟩ => by
  subst e1 e2
  cases r with
  | str b => exact ⟨a, b, rfl, rfl, h.1.1, h.1.2, fun p hp => hP _ S _ _ (Ext.hid hp) (.tup (SqT.of upd_same) (.cons (.str _) (.cons (.str _) (.cons (.str _) .nil)))) (hS.hid hp) h.2⟩
  | _ => exact h.elim
theorem d_part (ho : DE X o wo) (he : DE X e we) (hs : starEach [e] X.env = [(false, eval e X.env)] := by rfl) (hbase : attributeBase o "partition" X.env (eval o X.env) = eval o X.env := by rfl) (hline : (apos.endLine == pos.line) = true := by rfl) :
    DE X (.Call (.Attribute o "partition" apos) [e] [] pos) (wM1 rPartD wo we) := d_m1 F.slot_str_partition F.type_str_partition part_ok ho he hs hbase hline
def rStr2 (f : Str → Str → D) (a : Str) (y : D) (S : Store) (P : DK) : Prop := match y with
  | .str b => P (f a b) S
  | _ => False
theorem starts_ok : ∀ Z, MtR X "str.startswith" (lMt ⟨X.K, Z⟩ (rStr2 fun a b => .bl (Txt.startswith a b))) := fun Z => mtI mt_startswith fun x xs H Q ⟨a, v, S, P, d, e1, e2, hS, r, h, hP⟩ => by
  subst e1 e2
  cases r with
  | str b => exact ⟨a, b, rfl, rfl, hP _ S _ _ Ext.refl (.bl _) hS h⟩
  | _ => exact h.elim
theorem d_starts (ho : DE X o wo) (he : DE X e we) (hs : starEach [e] X.env = [(false, eval e X.env)] := by rfl) (hbase : attributeBase o "startswith" X.env (eval o X.env) = eval o X.env := by rfl) (hline : (apos.endLine == pos.line) = true := by rfl) :
    DE X (.Call (.Attribute o "startswith" apos) [e] [] pos) (wM1 (rStr2 fun a b => .bl (Txt.startswith a b)) wo we) := d_m1 F.slot_str_startswith F.type_str_startswith starts_ok ho he hs hbase hline
theorem ends_ok : ∀ Z, MtR X "str.endswith" (lMt ⟨X.K, Z⟩ (rStr2 fun a b => .bl (Txt.endswith a b))) := fun Z => mtI mt_endswith fun x xs H Q ⟨a, v, S, P, d, e1, e2, hS, r, h, hP⟩ => by
  subst e1 e2
  cases r with
  | str b => exact ⟨a, b, rfl, rfl, hP _ S _ _ Ext.refl (.bl _) hS h⟩
  | _ => exact h.elim
theorem d_ends (ho : DE X o wo) (he : DE X e we) (hs : starEach [e] X.env = [(false, eval e X.env)] := by rfl) (hbase : attributeBase o "endswith" X.env (eval o X.env) = eval o X.env := by rfl) (hline : (apos.endLine == pos.line) = true := by rfl) :
    DE X (.Call (.Attribute o "endswith" apos) [e] [] pos) (wM1 (rStr2 fun a b => .bl (Txt.endswith a b)) wo we) := d_m1 F.slot_str_endswith F.type_str_endswith ends_ok ho he hs hbase hline

/-! ### methods of lists -/
/-- xs.append(e), xs in the store -/
def wAppend (wo we : DT) : DT := fun ρ S P => wo ρ S fun x S1 => match x with
  | .ref p => (∃ ds, S1 p = some (.lst ds)) ∧ we ρ S1 fun y S2 => wSome (S2 p) fun o => match o with | .lst ds => ds.length < 16000000 ∧ P .non (S2.set p (.lst (ds ++ [y])))
  | _ => False
theorem d_append (ho : DE X o wo) (he : DE X e we) (hbase : attributeBase o "append" X.env (eval o X.env) = eval o X.env := by rfl)
    (hfew : ((backTo pos (starEach [e] X.env)).all (fun x => !x.1) && (backToKw pos (keywordEach [] X.env)).all (fun x => x.1.isSome)
      && decide ([e].length + ([] : List Keyword).length + (if ([] : List Keyword).isEmpty then 0 else 1) < 30)) = true := by rfl)
    (hline : (apos.endLine == pos.line) = true := by rfl) (hs : starEach [e] X.env = (false, eval e X.env) :: starEach [] X.env := by rfl) (hplain : (backTo pos (starEach [] X.env)).any (·.1) = false := by rfl) :
    DE X (.Call (.Attribute o "append" apos) [e] [] pos) (wAppend wo we) := fun Z => pe_imp (pe_bm PySem.F.plainAttrs_list PySem.F.slot_list_append PySem.F.type_list_append mt_append (ho Z) (pa_cons (he Z) pa_nil hs) hbase hfew hline hs hplain) fun σ H Q ⟨ρ, S, P, hE, hS, hw, hP⟩ =>
  ⟨ρ, S, _, hE, hS, hw, fun d S1 v H1 x1 r1 s1 q1 => by
    cases r1 with
    | ref p =>
      obtain ⟨⟨ds0, e0⟩, q1⟩ := q1
      obtain ⟨vs0, h0, _⟩ := s1.at_ p _ e0
      refine ⟨.inl ⟨rfl, _, SqL.of h0⟩, ρ, S1, _, hE.ext x1, s1, q1, fun d2 S2 v2 H2 x2 r2 s2 q2 => ?_⟩
      obtain ⟨o, e1, q2⟩ := wSome.get q2
      cases o with
      | lst ds =>
        obtain ⟨vs, hv, rs⟩ := s2.at_ p _ e1
        have h6 : 16000000 ≤ sizeLine := by decide
        refine ⟨p, vs, v2, rfl, rfl, hv, by rw [← rs.length]; omega, ?_⟩
        exact hP _ _ _ _ ((x1.trans x2).trans (Ext.wrote e1 hv)) .non (s2.wrote e1 hv (rs.append (.cons r2 .nil))) q2.2
    | _ => exact q1.elim⟩
end

/-! ### defs -/
/-- a def's promise over data -/
abbrev DSp := List D → Store → DK → Prop
def spD (K : PySem.W.Frag) (sp : DSp) : Sp := fun vs H Q _ => ∃ Z ds S P, RelS ⟨K, Z⟩ S H ∧ Rps ⟨K, Z⟩ S H ds vs ∧ sp ds S P ∧ Po ⟨K, Z⟩ S H P Q
/-- a def of the module that lets no exception out -/
structure DF (P : Program) (w : World) (K : PySem.W.Frag) (mg : Str → Option Value) (base : Heap) (k : Nat) (x : Str) (ps : List Str) (sp : DSp) : Prop where
  ex : ∃ f fd, FnOk P w K mg base CX0 k f fd ps (spD K sp) ∧ mg x = some (.ref f) ∧ PySem.W.keepIn K (.ref f) = true ∧ Binds K fd ps [] ∧ ∀ us : List Value, us.length = ps.length → bindArgs fd ⟨[], ps.zip us⟩ = pure (ps.zip us)
theorem DF.imp {P : Program} {w : World} {K : PySem.W.Frag} {mg : Str → Option Value} {base : Heap} {k : Nat} {x : Str} {ps : List Str} {sp sp' : DSp} (h : DF P w K mg base k x ps sp) (i : ∀ ds S Q, sp' ds S Q → sp ds S Q) : DF P w K mg base k x ps sp' := by
  obtain ⟨f, fd, F, r⟩ := h.ex
  exact ⟨f, fd, F.imp fun vs H Q E ⟨Z, ds, S, P, h1, h2, h3, h4⟩ => ⟨Z, ds, S, P, h1, h2, i _ _ _ h3, h4⟩, r⟩
theorem DF.mono {P : Program} {w : World} {K : PySem.W.Frag} {mg : Str → Option Value} {base : Heap} {k j : Nat} {x : Str} {ps : List Str} {sp : DSp} (h : DF P w K mg base k x ps sp) (i : k ≤ j) : DF P w K mg base j x ps sp := by
  obtain ⟨f, fd, F, r⟩ := h.ex
  exact ⟨f, fd, F.mono i, r⟩
section
variable {X : Cx} {k : Nat} {x : Str} {ps : List Str} {sp : DSp} {e : Expr} {es : List Expr} {wr : DA} {pos p : Pos}
def wCall (sp : DSp) (w : DA) : DT := fun ρ S P => w ρ S fun ds S1 => sp ds S1 P
theorem d_call (G : DF X.prog X.w X.K X.mg X.base k x ps sp) (hr : Room k X.A) (ha : DArgs X (e :: es) wr) (hg : Gl X x := by rfl) (hdb : (x == ("__debug__" : Str)) = false := by decide) (he : starEach (e :: es) X.env = (false, eval e X.env) :: starEach es X.env := by rfl) (hpl : (backTo pos (starEach es X.env)).any (·.1) = false := by rfl) :
    DE X (.Call (.Name x p) (e :: es) [] pos) (wCall sp wr) := fun Z => by
  obtain ⟨f, fd, F, hm, hk, hb, _⟩ := G.ex
  refine pe_imp (pe_call F hr hg hm hk hb .nil pass0 (ha Z) hdb he hpl) fun σ H Q ⟨ρ, S, P, hE, hS, hw, hP⟩ => ?_
  refine ⟨ρ, S, _, hE, hS, hw, fun ds S1 vs H1 x1 r1 s1 q1 => ?_⟩
  show spD X.K sp (vs ++ []) H1 Q E0
  rw [List.append_nil]
  exact ⟨Z, ds, S1, P, s1, r1, q1, hP.ext x1⟩
/-- the values of keywords -/
def DKw (X : Cx) (kws : List Keyword) (w : DA) : Prop := ∀ Z, PK X kws (lA ⟨X.K, Z⟩ w)
theorem pk_imp {kws : List Keyword} {t t' : TA} (h : PK X kws t) (i : ∀ σ H Q, t' σ H Q → t σ H Q) : PK X kws t' := ⟨fun pos pins s σ H Q I q => h.run pos pins s σ H Q I (i σ H Q q)⟩
theorem dk_nil : DKw X [] wNil := fun Z => pk_imp pk_nil fun _ _ _ ⟨_, S, P, _, hS, hw, hP⟩ => hP _ S _ _ Ext.refl .nil hS hw
theorem dk_cons {w : DT} {kws : List Keyword} {nm : Option Str} {kpos : Pos} (ha : DE X e w) (hr : DKw X kws wr) : DKw X (⟨nm, e, kpos⟩ :: kws) (wCons w wr) := fun Z => pk_imp (pk_cons (ha Z) (hr Z)) fun _ _ _ ⟨ρ, S, P, hE, hS, hw, hP⟩ =>
  ⟨ρ, S, _, hE, hS, hw, fun _ _ _ _ x1 r1 s1 q1 => ⟨ρ, _, _, hE.ext x1, s1, q1, fun _ _ _ _ x2 r2 s2 q2 => hP _ _ _ _ (x1.trans x2) (.cons (r1.ext x2) r2) s2 q2⟩⟩
/-- f(a = e, ..): all parameters by name, in their order -/
theorem d_callK {kws : List Keyword} (G : DF X.prog X.w X.K X.mg X.base k x ps sp) (hr : Room k X.A) (hkw : DKw X kws wr) (hg : Gl X x := by rfl)
    (hall : (backToKw pos (keywordEach kws X.env)).all (·.1.isSome) = true := by rfl) (hks : (backToKw pos (keywordEach kws X.env)).filterMap (·.1) = ps := by rfl) (hdb : (x == ("__debug__" : Str)) = false := by decide)
    (hpl : ((backTo pos (starEach [] X.env)).any (·.1) || (backToKw pos (keywordEach kws X.env)).any (·.1.isNone)) = false := by rfl) :
    DE X (.Call (.Name x p) [] kws pos) (wCall sp wr) := fun Z => by
  obtain ⟨f, fd, F, hm, hk, hb, hbk⟩ := G.ex
  refine ⟨fun pins s σ H Q I ⟨ρ, S, P, hE, hS, hw, hP⟩ => ?_⟩
  refine wpAny_Call_Name_kw (ld_glob I hg hm ?_ hdb)
  refine PySem.W.callWith_KW0 (h₀ := X.base) I.ok.mod.kin hk hall ?_ hpl
  refine thn ((hkw Z).run pos pins s σ H (fun vs H1 => spD X.K sp vs H1 Q E0) I ⟨ρ, S, _, hE, hS, hw, fun ds S1 vs H1 x1 r1 s1 q1 => ⟨Z, ds, S1, P, s1, r1, q1, hP.ext x1⟩⟩) fun ws s2 ⟨zs, H2, I2, rz, q2⟩ => ⟨I2.kIn, ?_⟩
  rw [hks]
  have hl : ws.length = ps.length := by rw [← rz.length]; exact F.len _ _ _ _ q2
  refine wpAny_call (codeAny_mono (F.run X.A X.stack s2 H2 ⟨[], ps.zip ws⟩ ws zs Q E0 hr I2.env0 (.of_eq (hbk ws hl)) rz q2) fun r s' hq => ?_)
  cases r with
  | error e => exact hq.elim
  | ok fl =>
    cases fl with
    | ret u => exact I2.after hq
    | next => exact False.elim hq
    | brk => exact False.elim hq
    | cont => exact False.elim hq
end
/-- what a def hands back: less may be known of the store, a list may be told by value -/
def Fin (P : DK) (d : D) (S : Store) : Prop := (∃ S1, Sub S1 S ∧ P d S1) ∨ ∃ p ds S1, d = .ref p ∧ S p = some (.lst ds) ∧ Sub S1 S ∧ S1 p = none ∧ P (.scr ds) S1
theorem Fin.of {P : DK} {d : D} {S : Store} (h : P d S) : Fin P d S := .inl ⟨S, Sub.refl S, h⟩
theorem Fin.sub {P : DK} {d : D} {S S1 : Store} (h : Sub S1 S) (q : P d S1) : Fin P d S := .inl ⟨S1, h, q⟩
theorem fin_ok {K : Kz} {S S' : Store} {H H' : Hp} {P : DK} {Q : VK} (hP : Po K S H P Q) (hz : ∀ a, K.z a → ∃ o, H a = some o) (hS : RelS K S H) : ∀ d v, Ext K S S' H H' → Rp K S' H' d v → RelS K S' H' → Fin P d S' → Q v H' := fun d v x r s q => by
  rcases q with ⟨S1, hs, q⟩ | ⟨p, ds, S1, rfl, e, hs, n, q⟩
  · exact hP d S1 v H' (x.trans (Ext.sub hs)) (r.ext (Ext.sub hs)) (s.sub hs) q
  · cases r
    obtain ⟨vs, hv, rs⟩ := s.at_ p _ e
    refine hP _ S1 _ H' (x.trans (Ext.sub hs)) (.scr hv n (fun z => ?_) (rs.ext (Ext.sub hs))) (s.sub hs) q
    have := (s.aside p z).1
    rw [e] at this
    cases this
def startD (N : List Str) (ds : List D) : Env' := ds.map some ++ List.replicate (N.length - ds.length) none
theorem rel_start {K : Kz} {S : Store} {H : Hp} {N : List Str} {ds : List D} {vs : List V} (r : Rps K S H ds vs) : RelE K S H (startD N ds) (L2.start N vs) := by
  refine ⟨by simp [startD, L2.start, r.length], fun i d e => ?_⟩
  have hi : i < ds.length := by
    by_cases hi : i < ds.length
    · exact hi
    · unfold startD at e
      rw [List.getElem?_append_right (by simpa using hi), List.getElem?_replicate] at e
      split at e <;> cases e
  have hd : ds[i]? = some d := by
    unfold startD at e
    rw [List.getElem?_append_left (by simpa using hi), List.getElem?_map] at e
    cases q : ds[i]? with
    | none => rw [q] at e; cases e
    | some y => rw [q] at e; cases e; rfl
  obtain ⟨v, h1, h2⟩ := r.get hd
  refine ⟨v, ?_, h2⟩
  unfold L2.start
  have hv : i < vs.length := by rw [← r.length]; exact hi
  rw [List.getElem?_append_left (by simpa using hv), List.getElem?_map, h1]
  rfl
section
variable {P : Program} {w : World} {K : PySem.W.Frag} {mg : Str → Option Value} {base : Heap}
/-- the facts of a def of the text, by name -/
structure FnD (K : PySem.W.Frag) (mg : Str → Option Value) (x : Str) (st : Stmt) (f : Addr) (fd : FuncData) : Prop where
  fn : Fun K x x st f fd
  gl : mg x = some (.ref f)
/-- THE RULE -/
theorem fn_d {x : Str} {st : Stmt} {f : Addr} {fd : FuncData} {N ps : List Str} {k : Nat} {sp : DSp} (F : FnD K mg x st f fd) (sc : FnScope N ps (defScope st))
    (bp : ∀ (kV doc pm : Value) (an : Option Addr) (cdv ct : Value) (us : List Value), us.length = ps.length → bindArgs (PySem.W.fnOf x x (defArgs st) (defBody st) (defScope st) .none kV doc pm an cdv ct) ⟨us, []⟩ = pure (ps.zip us))
    (bk : ∀ (kV doc pm : Value) (an : Option Addr) (cdv ct : Value) (us : List Value), us.length = ps.length → bindArgs (PySem.W.fnOf x x (defArgs st) (defBody st) (defScope st) .none kV doc pm an cdv ct) ⟨[], ps.zip us⟩ = pure (ps.zip us))
    (len : ∀ ds S Q, sp ds S Q → ds.length = ps.length)
    (body : ∀ (cdv : Value) (A : Around) (outer : List Env) (s : Shared) (H : Hp) (E : XK), Room k (A.deeper (envOfC x (defScope st) s.heap.objs.size f cdv)) →
      ∃ u, DSs (cxOf CX0 P w K mg base N x (defScope st) f cdv A outer s H E).nox (defBody st) u ∧ ∀ ds S Q, sp ds S Q → u { nx := fun _ S' => Fin Q .non S', rt := Fin Q } (startD N ds) S) :
    DF P w K mg base (k + 1) x ps sp := by
  refine ⟨f, fd, ?_, F.gl, F.fn.kp, F.fn.binds bp, ?_⟩
  · refine F.fn.ok sc (fun vs H Q E ⟨Z, ds, S, P, h1, h2, h3, h4⟩ => by rw [← h2.length]; exact len _ _ _ h3) fun cdv A outer s H vs Q E hr ⟨Z, ds, S, P, h1, h2, h3, h4⟩ => ?_
    obtain ⟨u, hu, q⟩ := body cdv A outer s H E hr
    refine ⟨_, hu Z, startD N ds, S, { nx := fun _ S' => Fin P .non S', rt := Fin P }, rel_start h2, h1, q ds S P h3, ⟨?_, ?_, ?_, ?_⟩⟩
    · exact fun ρ' S' σ' H' x e s q => fin_ok h4 (fun a z => (h1.aside a z).2) h1 .non .non x .non s q
    · exact fun d S' v H' x r s q => fin_ok h4 (fun a z => (h1.aside a z).2) h1 d v x r s q
    · exact fun ρ' S' σ' H' x e s q => q.elim
    · exact fun ρ' S' σ' H' x e s q => q.elim
  · obtain ⟨oc, od, kV, doc, pm, an, cdv, ct, osl, e, _⟩ := F.fn.ex
    rw [e]
    exact bk kV doc pm an cdv ct
end
end DL

/-! DL8: comprehensions of two clauses. -/
namespace DL
open PySem PySem.Spec L2 PyProof.Rows
def lcI (g : DGt) (tt : DB) (te : DT) (G : Store → Prop) (ρ : Env') (R : List D → Store → Prop) : List D → List D → Store → Prop
  | [], acc, S => G S ∧ R acc S
  | d :: ds, acc, S => G S ∧ g d ρ S fun ρ2 S2 => tt ρ2 S2 fun b S3 => if b = true then te ρ2 S3 fun y S4 => lcI g tt te G ρ R ds (acc ++ [y]) S4 else lcI g tt te G ρ R ds acc S3
def lcW2 (g : DGt) (tt : DB) (wi1 : DIt) (g1 : DGt) (tt1 : DB) (te : DT) (vs1 : List Nat) (G : Store → Prop) (ρ : Env') (P : DK) : List D → List D → Store → Prop
  | [], acc, S => G S ∧ P (.scr acc) S
  | d :: ds, acc, S => G S ∧ g d ρ S fun ρ2 S2 => tt ρ2 S2 fun b S3 => if b = true then wi1 ρ2 S3 fun ds1 G1 S4 => acc.length + ds1.length ≤ 1000000 ∧ lcI g1 tt1 te G1 (wipeD ρ2 vs1) (lcW2 g tt wi1 g1 tt1 te vs1 G ρ P ds) ds1 acc S4 else lcW2 g tt wi1 g1 tt1 te vs1 G ρ P ds acc S3
def wLc2 (wi : DIt) (g : DGt) (tt : DB) (wi1 : DIt) (g1 : DGt) (tt1 : DB) (te : DT) (vs vs1 : List Nat) : DT := fun ρ S P => wi ρ S fun ds G S1 => lcW2 g tt wi1 g1 tt1 te vs1 G (wipeD ρ vs) P ds [] S1
theorem lcI_G {g : DGt} {tt : DB} {te : DT} {G : Store → Prop} {ρ : Env'} {R : List D → Store → Prop} {ds acc : List D} {S : Store} (h : lcI g tt te G ρ R ds acc S) : G S := by
  cases ds with
  | nil => exact h.1
  | cons _ _ => exact h.1
theorem lcW2_G {g : DGt} {tt : DB} {wi1 : DIt} {g1 : DGt} {tt1 : DB} {te : DT} {vs1 : List Nat} {G : Store → Prop} {ρ : Env'} {P : DK} {ds acc : List D} {S : Store} (h : lcW2 g tt wi1 g1 tt1 te vs1 G ρ P ds acc S) : G S := by
  cases ds with
  | nil => exact h.1
  | cons _ _ => exact h.1
theorem wipe_wipe {σ : L2.St} (vs : List Nat) : L2.wipe (L2.wipe σ vs) vs = L2.wipe σ vs := by
  have key : ∀ (us ws : List Nat), (∀ i ∈ us, i ∈ ws) → L2.wipe (L2.wipe σ us) ws = L2.wipe σ ws := fun us => by
    induction us with
    | nil => intro ws _; rfl
    | cons u us ih =>
      intro ws hs
      show L2.wipe ((L2.wipe σ us).set u none) ws = _
      rw [wipe_set (hs u (by simp))]
      exact ih ws fun i hi => hs i (by simp [hi])
  exact key vs vs fun _ h => h
theorem ExtZ.step {K : Kz} {S S1 S2 : Store} {H H1 H2 : Hp} (a : ExtZ K S S1 H H1) (b : Ext K S1 S2 H1 H2) (hs : ∀ c, K.z c → S1 c = none ∧ ∃ o, H1 c = some o) : ExtZ K S S2 H H2 :=
  ⟨fun c xs h => b.tup c xs (a.tup c xs h), fun c o u h => b.frz c o u (a.frz c o u h), fun c o h n z => b.keep c o (a.keep c o h n z) (a.new c o h n), fun c o h n => by
    by_cases z : K.z c
    · obtain ⟨n1, o1, h1⟩ := hs c z
      exact b.new c o1 h1 n1
    · exact b.new c o (a.keep c o h n z) (a.new c o h n)⟩
theorem ExtZ.updA {K : Kz} {S S1 : Store} {H H1 : Hp} {A : Addr} {vs : List V} {o : HO} (x : ExtZ K S S1 H H1) (h : H1 A = some (.lst vs)) (z : K.z A) : ExtZ K S S1 H (upd H1 A o) :=
  ⟨fun b xs q => sqt_upd h b xs (x.tup b xs q), fun b o u q => by rw [upd_ne (ne_of (x.frz b o u q) h (fun z => nomatch z))]; exact x.frz b o u q,
   fun b o q n nz => by rw [upd_ne (fun e => nz (by rw [e]; exact z))]; exact x.keep b o q n nz, x.new⟩
section
variable {X : Cx} {tg e : Expr} {pos : Pos}
theorem pi_ex {iter : Expr} {wi : DIt} (h : DIter X tg iter wi) : PI X tg iter (fun σ H R => ∃ Z, lI ⟨X.K, Z⟩ wi σ H R) := ⟨fun pins s σ H R I ⟨Z, q⟩ => (h Z).run pins s σ H R I q⟩
theorem lc2_imp {K : PySem.W.Frag} {Z : Addr → Prop} {wi wi1 : DIt} {g g1 : DGt} {ts ts1 : List Nat} {tt tt1 : DB} {te : DT} {vs vs1 : List Nat} (hts : ∀ i ∈ ts, i ∈ vs) (hts1 : ∀ i ∈ ts1, i ∈ vs1) {σ : L2.St} {H : Hp} {Q : VK} (h : lE ⟨K, Z⟩ (wLc2 wi g tt wi1 g1 tt1 te vs vs1) σ H Q) :
    tLc2 (lI ⟨K, Z⟩ wi) (fun x σ H Q => ∃ Z, lG ⟨K, Z⟩ ts g x σ H Q) (fun σ H Q => ∃ Z, lB ⟨K, Z⟩ tt σ H Q) (fun σ H R => ∃ Z, lI ⟨K, Z⟩ wi1 σ H R) (fun x σ H Q => ∃ Z, lG ⟨K, Z⟩ ts1 g1 x σ H Q) (fun σ H Q => ∃ Z, lB ⟨K, Z⟩ tt1 σ H Q) (fun σ H Q => ∃ Z, lE ⟨K, Z⟩ te σ H Q) vs vs1 σ H Q := by
  obtain ⟨ρ, S, P, hE, hS, hw, hP⟩ := h
  refine ⟨ρ, S, _, hE, hS, hw, fun ds G S1 H1 J x1 s1 q1 W => ?_⟩
  intro A hA
  have ff : Fine ⟨K, Z⟩ H1 (plusZ Z A) := fine_plus (K := ⟨K, Z⟩) hA
  have hE1 : RelE ⟨K, plusZ Z A⟩ S1 H1 (wipeD ρ vs) (L2.wipe σ vs) := ((hE.ext x1).wipe vs).fine ff
  refine ⟨fun i m H' => m = ds.length - i ∧ i ≤ ds.length ∧ ∃ S' acc vacc, Ext ⟨K, Z⟩ S1 S' H1 H' ∧ RelS ⟨K, plusZ Z A⟩ S' H' ∧ H' A = some (.lst vacc) ∧ Rps ⟨K, plusZ Z A⟩ S' H' acc vacc ∧ lcW2 g tt wi1 g1 tt1 te vs1 G (wipeD ρ vs) P (ds.drop i) acc S',
    ⟨ds.length, by simp, Nat.zero_le _, S1, [], [], Ext.hid hA, s1.startA hA, upd_same, .nil, by simpa using q1⟩, ?_⟩
  rintro i m H2 ⟨rfl, hi, S2, acc, vacc, x2, s2, hA2, ra, l2⟩
  have gg := lcW2_G l2
  by_cases hlt : i < ds.length
  · have hd : ds.drop i = ds[i] :: ds.drop (i + 1) := List.drop_eq_getElem_cons hlt
    rw [hd] at l2
    obtain ⟨_, l2⟩ := l2
    refine .inr ⟨W.goes _ ff i S2 H2 x2.toZ s2 gg hlt, (fun H' => ∃ S' acc vacc, Ext ⟨K, Z⟩ S1 S' H1 H' ∧ RelS ⟨K, plusZ Z A⟩ S' H' ∧ H' A = some (.lst vacc) ∧ Rps ⟨K, plusZ Z A⟩ S' H' acc vacc ∧ lcW2 g tt wi1 g1 tt1 te vs1 G (wipeD ρ vs) P (ds.drop (i + 1)) acc S'), fun H' p' => ⟨ds.length - (i + 1), by omega, rfl, hlt, p'⟩, fun x H3 y => ?_⟩
    obtain ⟨d, h1, x3, s3, r3⟩ := W.yields _ ff i S2 H2 x H3 x2.toZ s2 gg hlt y
    have ed : ds[i] = d := by
      rw [List.getElem?_eq_getElem hlt] at h1
      exact Option.some.inj h1
    subst ed
    have nA : S2 A = none := (s2.aside A (.inr rfl)).1
    have x23 : Ext ⟨K, Z⟩ S1 S2 H1 H3 := x2.trans x3
    refine ⟨plusZ Z A, wipeD ρ vs, S2, _, _, hE1.ext (Ext.wz (K := ⟨K, Z⟩) x23), s3, r3, l2, fun ρ4 S4 σ4 H4 x4 e4 s4 w4 q4 => ⟨(w4 vs hts).trans (wipe_wipe vs), plusZ Z A, ρ4, S4, _, e4, s4, q4, fun b S5 H5 x5 s5 q5 => ?_⟩⟩
    have x45 := x4.trans x5
    have x35 : Ext ⟨K, Z⟩ S2 S5 H3 H5 := Ext.unwz (K := ⟨K, Z⟩) x45
    have x25 : Ext ⟨K, Z⟩ S2 S5 H2 H5 := x3.trans x35
    have hA5 : H5 A = some (.lst vacc) := x25.keep _ _ hA2 nA
    have ra5 : Rps ⟨K, plusZ Z A⟩ S5 H5 acc vacc := ra.ext (Ext.wz (K := ⟨K, Z⟩) x25)
    have x15 : Ext ⟨K, Z⟩ S1 S5 H1 H5 := x2.trans x25
    cases b with
    | false => exact ⟨S5, acc, vacc, x15, s5, hA5, ra5, q5⟩
    | true =>
      -- the inner walk
      refine ⟨plusZ Z A, ρ4, S5, _, e4.ext x5, s5, q5, fun ds1 G1 S6 H6 J1 x6 s6 ⟨hlen, q6⟩ W1 => ?_⟩
      have x56 : Ext ⟨K, Z⟩ S5 S6 H5 H6 := Ext.unwz (K := ⟨K, Z⟩) x6
      have nA5 : S5 A = none := (s5.aside A (.inr rfl)).1
      have hA6 : H6 A = some (.lst vacc) := x56.keep _ _ hA5 nA5
      have e6 : RelE ⟨K, plusZ Z A⟩ S6 H6 (wipeD ρ4 vs1) (L2.wipe σ4 vs1) := ((e4.ext x5).ext x6).wipe vs1
      have nA6 : S6 A = none := (s6.aside A (.inr rfl)).1
      refine ⟨fun j k H' => k = ds1.length - j ∧ j ≤ ds1.length ∧ ∃ S' acc vacc, Ext ⟨K, Z⟩ S1 S' H1 H' ∧ ExtZ ⟨K, plusZ Z A⟩ S6 S' H6 H' ∧ RelS ⟨K, plusZ Z A⟩ S' H' ∧ H' A = some (.lst vacc) ∧ Rps ⟨K, plusZ Z A⟩ S' H' acc vacc ∧ acc.length + (ds1.length - j) ≤ 1000000 ∧ lcI g1 tt1 te G1 (wipeD ρ4 vs1) (lcW2 g tt wi1 g1 tt1 te vs1 G (wipeD ρ vs) P (ds.drop (i + 1))) (ds1.drop j) acc S',
        ⟨ds1.length, by simp, Nat.zero_le _, S6, acc, vacc, x15.trans x56, Ext.toZ Ext.refl, s6, hA6, ra5.ext x6, by simpa using hlen, by simpa using q6⟩, ?_⟩
      rintro j k H7 ⟨rfl, hj, S7, acc7, vacc7, x17, x67, s7, hA7, ra7, hl7, l7⟩
      have gg7 := lcI_G l7
      by_cases hlt1 : j < ds1.length
      · have hd1 : ds1.drop j = ds1[j] :: ds1.drop (j + 1) := List.drop_eq_getElem_cons hlt1
        rw [hd1] at l7
        obtain ⟨_, l7⟩ := l7
        refine .inr ⟨W1.goes _ (fun _ _ _ h => h) j S7 H7 x67 s7 gg7 hlt1, _, fun H' p' => ⟨ds1.length - (j + 1), by omega, rfl, hlt1, p'⟩, fun x' H8 y' => ?_⟩
        obtain ⟨d', h1', x78, s8, r8⟩ := W1.yields _ (fun _ _ _ h => h) j S7 H7 x' H8 x67 s7 gg7 hlt1 y'
        have ed' : ds1[j] = d' := by
          rw [List.getElem?_eq_getElem hlt1] at h1'
          exact Option.some.inj h1'
        subst ed'
        have nA7 : S7 A = none := (s7.aside A (.inr rfl)).1
        have x78' : Ext ⟨K, Z⟩ S7 S7 H7 H8 := Ext.unwz (K := ⟨K, Z⟩) x78
        refine ⟨plusZ Z A, wipeD ρ4 vs1, S7, _, _, (e6.move x67).ext x78, s8, r8, l7, fun ρ9 S9 σ9 H9 x9 e9 s9 w9 q9 => ⟨(w9 vs1 hts1).trans (wipe_wipe vs1), plusZ Z A, ρ9, S9, _, e9, s9, q9, fun b S10 H10 x10 s10 q10 => ?_⟩⟩
        have x8_10 : Ext ⟨K, plusZ Z A⟩ S7 S10 H7 H10 := (x78.trans x9).trans x10
        have x8_10' : Ext ⟨K, Z⟩ S7 S10 H7 H10 := Ext.unwz (K := ⟨K, Z⟩) x8_10
        have hA10 : H10 A = some (.lst vacc7) := x8_10.keep _ _ hA7 nA7
        have ra10 : Rps ⟨K, plusZ Z A⟩ S10 H10 acc7 vacc7 := ra7.ext x8_10
        have xz : ExtZ ⟨K, plusZ Z A⟩ S6 S10 H6 H10 := ExtZ.step x67 x8_10 fun a z => by
          rcases z with z | z
          · exact s7.aside a (.inl z)
          · exact s7.aside a (.inr z)
        cases b with
        | false => exact ⟨S10, acc7, vacc7, x17.trans x8_10', xz, s10, hA10, ra10, by omega, q10⟩
        | true =>
          refine ⟨plusZ Z A, ρ9, S10, _, e9.ext x10, s10, q10, fun y S11 v H11 x11 r11 s11 q11 => ?_⟩
          have x11' : Ext ⟨K, Z⟩ S10 S11 H10 H11 := Ext.unwz (K := ⟨K, Z⟩) x11
          have nA10 : S10 A = none := (s10.aside A (.inr rfl)).1
          have hA11 : H11 A = some (.lst vacc7) := x11.keep _ _ hA10 nA10
          have ra11 : Rps ⟨K, plusZ Z A⟩ S11 H11 acc7 vacc7 := ra10.ext x11
          have xz11 : ExtZ ⟨K, plusZ Z A⟩ S6 S11 H6 H11 := ExtZ.step xz x11 fun a z => s10.aside a z
          refine ⟨vacc7, hA11, ?_, S11, acc7 ++ [y], vacc7 ++ [v], Ext.updA ((x17.trans x8_10').trans x11') hA hA11, xz11.updA hA11 (.inr rfl), RelS.updA (K := ⟨K, Z⟩) s11 hA11, upd_same, ?_, ?_, q11⟩
          · rw [← ra11.length]
            have h6 : 1000000 < sizeLine := by decide
            omega
          · exact Rps.updA (K := ⟨K, Z⟩) hA11 (ra11.append (.cons r11 .nil))
          · rw [List.length_append, List.length_singleton]; omega
      · have e : j = ds1.length := by omega
        subst e
        rw [List.drop_length] at l7
        exact .inl ⟨W1.stops _ (fun _ _ _ h => h) S7 H7 x67 s7 gg7, S7, acc7, vacc7, x17, s7, hA7, ra7, l7.2⟩
  · have e : i = ds.length := by omega
    subst e
    rw [List.drop_length] at l2
    refine .inl ⟨W.stops _ ff S2 H2 x2.toZ s2 gg, ?_⟩
    have nA : S2 A = none := (s2.aside A (.inr rfl)).1
    exact hP _ S2 _ H2 (x1.trans x2) (.scr hA2 nA (s1.nz hA) (Rps.back (K := ⟨K, Z⟩) ra)) (RelS.back (K := ⟨K, Z⟩) s2) l2.2
theorem d_lc2 {elt iter tg1 iter1 : Expr} {ifs ifs1 : List Expr} {scope : Scope} {own : List (Str × Nat)} {vs : List Nat} {wi wi1 : DIt} {g g1 : DGt} {ts ts1 : List Nat} {tt tt1 : DB} {te : DT} (hc : X.calm = true) (hN : X.N.Nodup) (ok : BlkOk X.N X.env.scope scope own) (hi : DIter X tg iter wi)
    (hg : ∀ (s : Shared) (H : Hp) (C : Addr) (cl : List (Str × Addr)) (fp : List Addr), DG (X.blk s H scope (compEnvC scope cl C X.env) fp) tg ts g) (ht : ∀ (s : Shared) (H : Hp) (C : Addr) (cl : List (Str × Addr)) (fp : List Addr), DTs (X.blk s H scope (compEnvC scope cl C X.env) fp) ifs tt)
    (hi1 : ∀ (s : Shared) (H : Hp) (C : Addr) (cl : List (Str × Addr)) (fp : List Addr), DIter (X.blk s H scope (compEnvC scope cl C X.env) fp) tg1 iter1 wi1)
    (hg1 : ∀ (s : Shared) (H : Hp) (C : Addr) (cl : List (Str × Addr)) (fp : List Addr), DG (X.blk s H scope (compEnvC scope cl C X.env) fp) tg1 ts1 g1) (ht1 : ∀ (s : Shared) (H : Hp) (C : Addr) (cl : List (Str × Addr)) (fp : List Addr), DTs (X.blk s H scope (compEnvC scope cl C X.env) fp) ifs1 tt1)
    (he : ∀ (s : Shared) (H : Hp) (C : Addr) (cl : List (Str × Addr)) (fp : List Addr), DE (X.blk s H scope (compEnvC scope cl C X.env) fp) elt te) (hvs : own.map (·.2) = vs := by rfl) (hts : ∀ i ∈ ts, i ∈ vs := by decide) (hts1 : ∀ i ∈ ts1, i ∈ vs := by decide)
    (hs : ∀ x, foldedSetIterable iter X.env x = pure x := by intro _; rfl) (hs1 : ∀ env x, foldedSetIterable iter1 env x = pure x := by intro _ _; rfl) :
    DE X (.ListComp elt [⟨tg, iter, ifs, 0⟩, ⟨tg1, iter1, ifs1, 0⟩] scope pos) (wLc2 wi g tt wi1 g1 tt1 te vs ts1) := fun Z => by
  subst hvs
  exact pe_imp (pe_lc2 hc hN (hi Z) ok hts1 (fun s H C cl fp => pg_ex (hg s H C cl fp)) (fun s H C cl fp => pts_ex (ht s H C cl fp)) (fun s H C cl fp => pi_ex (hi1 s H C cl fp))
      (fun s H C cl fp => pg_ex (hg1 s H C cl fp)) (fun s H C cl fp => pts_ex (ht1 s H C cl fp)) (fun s H C cl fp => pe_ex (he s H C cl fp)) hs hs1) fun σ H Q h => lc2_imp hts (fun _ h => h) h
theorem ds_setLc2 {i : Nat} {y : Str} {py spos : Pos} {elt iter tg1 iter1 : Expr} {ifs ifs1 : List Expr} {scope : Scope} {own : List (Str × Nat)} {vs : List Nat} {wi wi1 : DIt} {g g1 : DGt} {ts ts1 : List Nat} {tt tt1 : DB} {te : DT} (hc : X.calm = true) (hN : X.N.Nodup) (ok : BlkOk X.N X.env.scope scope own)
    (hsw : swapsWith (.ListComp elt [⟨tg, iter, ifs, 0⟩, ⟨tg1, iter1, ifs1, 0⟩] scope pos) (some (.Name y py)) spos.line X.env = pure true) (hi : DIter X tg iter wi)
    (hg : ∀ (s : Shared) (H : Hp) (C : Addr) (cl : List (Str × Addr)) (fp : List Addr), DG (X.blk s H scope (compEnvC scope cl C X.env) fp) tg ts g) (ht : ∀ (s : Shared) (H : Hp) (C : Addr) (cl : List (Str × Addr)) (fp : List Addr), DTs (X.blk s H scope (compEnvC scope cl C X.env) fp) ifs tt)
    (hi1 : ∀ (s : Shared) (H : Hp) (C : Addr) (cl : List (Str × Addr)) (fp : List Addr), DIter (X.blk s H scope (compEnvC scope cl C X.env) fp) tg1 iter1 wi1)
    (hg1 : ∀ (s : Shared) (H : Hp) (C : Addr) (cl : List (Str × Addr)) (fp : List Addr), DG (X.blk s H scope (compEnvC scope cl C X.env) fp) tg1 ts1 g1) (ht1 : ∀ (s : Shared) (H : Hp) (C : Addr) (cl : List (Str × Addr)) (fp : List Addr), DTs (X.blk s H scope (compEnvC scope cl C X.env) fp) ifs1 tt1)
    (he : ∀ (s : Shared) (H : Hp) (C : Addr) (cl : List (Str × Addr)) (fp : List Addr), DE (X.blk s H scope (compEnvC scope cl C X.env) fp) elt te) (hy : X.N[i]? = some y := by rfl) (hyl : X.env.scope.names.lookup y = some .local := by rfl) (hvs : own.map (·.2) = vs := by rfl) (hts : ∀ i ∈ ts, i ∈ vs := by decide) (hts1 : ∀ i ∈ ts1, i ∈ vs := by decide)
    (hs : ∀ x, foldedSetIterable iter X.env x = pure x := by intro _; rfl) (hs1 : ∀ env x, foldedSetIterable iter1 env x = pure x := by intro _ _; rfl) :
    DS X (.Assign [.Name y py] (.ListComp elt [⟨tg, iter, ifs, 0⟩, ⟨tg1, iter1, ifs1, 0⟩] scope pos) spos) (wAsg (wLc2 wi g tt wi1 g1 tt1 te vs ts1) (dgName i)) := fun Z => by
  subst hvs
  exact ps_imp (L2.ps_setLc2 hc hN hy hyl hsw (hi Z) ok hts1 (fun s H C cl fp => pg_ex (hg s H C cl fp)) (fun s H C cl fp => pts_ex (ht s H C cl fp)) (fun s H C cl fp => pi_ex (hi1 s H C cl fp))
      (fun s H C cl fp => pg_ex (hg1 s H C cl fp)) (fun s H C cl fp => pts_ex (ht1 s H C cl fp)) (fun s H C cl fp => pe_ex (he s H C cl fp)) hs hs1) fun D σ H ⟨ρ, S, P, hE, hS, hw, hP⟩ =>
  lc2_imp hts (fun _ h => h) ⟨ρ, S, _, hE, hS, hw, fun d S1 v H1 x1 r1 s1 q1 => hP.nx _ S1 _ H1 x1 ((hE.ext x1).set r1 i) s1 q1⟩
end
end DL

/-! DL9: built-in names, short words. -/
namespace DL
open PySem PySem.Spec L2 PyProof.Rows
/-- built-in names that the text leaves as they are -/
structure Bl (mg : Str → Option Value) : Prop where
  len : mg "len" = none
  isinstance : mg "isinstance" = none
  str : mg "str" = none
  int : mg "int" = none
  bool : mg "bool" = none
  tuple : mg "tuple" = none
  list : mg "list" = none
  range : mg "range" = none
  enumerate : mg "enumerate" = none
  abs : mg "abs" = none
  max : mg "max" = none
  min : mg "min" = none
  all : mg "all" = none
  any : mg "any" = none
  sorted : mg "sorted" = none
  set : mg "set" = none
theorem bt_len : bootBuiltins "len" = some (.builtin "len") := by decide +kernel
theorem bt_abs : bootBuiltins "abs" = some (.builtin "abs") := by decide +kernel
theorem bt_max : bootBuiltins "max" = some (.builtin "max") := by decide +kernel
theorem bt_min : bootBuiltins "min" = some (.builtin "min") := by decide +kernel
theorem bt_all : bootBuiltins "all" = some (.builtin "all") := by decide +kernel
theorem bt_any : bootBuiltins "any" = some (.builtin "any") := by decide +kernel
theorem bt_sorted : bootBuiltins "sorted" = some (.builtin "sorted") := by decide +kernel
theorem bt_str : bootBuiltins "str" = some (.type "str") := by decide +kernel
theorem bt_int : bootBuiltins "int" = some (.type "int") := by decide +kernel
theorem bt_bool : bootBuiltins "bool" = some (.type "bool") := by decide +kernel
theorem bt_tuple : bootBuiltins "tuple" = some (.type "tuple") := by decide +kernel
theorem bt_list : bootBuiltins "list" = some (.type "list") := by decide +kernel
theorem bt_set : bootBuiltins "set" = some (.type "set") := by decide +kernel
abbrev rMaxD : DRs := rInt2 fun i j => if j > i then j else i
abbrev rMinD : DRs := rInt2 fun i j => if j < i then j else i
abbrev rAllD : DRs := rBools fun bs => bs.all id
abbrev rAnyD : DRs := rBools fun bs => bs.any id
abbrev rStartsD : Str → D → Store → DK → Prop := rStr2 fun a b => .bl (Txt.startswith a b)
abbrev rEndsD : Str → D → Store → DK → Prop := rStr2 fun a b => .bl (Txt.endswith a b)
end DL

/-! ST1: set tables of any size (masks 2^k - 1): what a search meets, what a put and a laying anew leave. -/
namespace DT
open PySem PySem.Spec PyProof.Rows

/-! ### the sums 1 + 5 + 25 + .. run through all rests of 2^k -/
def gs : Nat → Nat
  | 0 => 0
  | b + 1 => 5 * gs b + 1
theorem gs_four : ∀ b, 5 ^ b = 4 * gs b + 1
  | 0 => rfl
  | b + 1 => by
    show 5 ^ b * 5 = 4 * (5 * gs b + 1) + 1
    rw [gs_four b]; omega
theorem gs_add (b : Nat) : ∀ a, gs (a + b) = gs a + 5 ^ a * gs b
  | 0 => by rw [Nat.zero_add, Nat.pow_zero, Nat.one_mul]; show gs b = 0 + gs b; rw [Nat.zero_add]
  | a + 1 => by
    rw [Nat.add_right_comm]
    show 5 * gs (a + b) + 1 = (5 * gs a + 1) + 5 ^ a * 5 * gs b
    rw [gs_add b a, Nat.mul_add, Nat.mul_comm (5 ^ a) 5, Nat.mul_assoc]; omega
theorem gs_two : ∀ k, ∃ c, gs (2 ^ k) = 2 ^ k * (2 * c + 1)
  | 0 => ⟨0, rfl⟩
  | k + 1 => by
    obtain ⟨c, e⟩ := gs_two k
    refine ⟨2 * gs (2 ^ k) * c + c + gs (2 ^ k), ?_⟩
    have h : 2 ^ (k + 1) = 2 ^ k + 2 ^ k := by rw [Nat.pow_succ]; omega
    rw [h, gs_add, gs_four]
    generalize gs (2 ^ k) = g at e ⊢
    generalize 2 ^ k = p at e ⊢
    have x : (p + p) * (2 * (2 * g * c + c + g) + 1) = 2 * (p * (2 * c + 1)) * (2 * g + 1) := by grind
    rw [x, ← e]
    grind
theorem rest_two {p q s : Nat} (hs : s < p) : (p * q + s) % (2 * p) = p * (q % 2) + s := by
  have e : p * q + s = 2 * p * (q / 2) + (p * (q % 2) + s) := by
    have h : q = 2 * (q / 2) + q % 2 := (Nat.div_add_mod q 2).symm
    conv => lhs; rw [h, Nat.mul_add]
    have h2 : p * (2 * (q / 2)) = 2 * p * (q / 2) := by rw [← Nat.mul_assoc, Nat.mul_comm p 2]
    omega
  have h3 : q % 2 = 0 ∨ q % 2 = 1 := by omega
  rw [e, Nat.mul_add_mod]
  refine Nat.mod_eq_of_lt ?_
  rcases h3 with h | h <;> rw [h] <;> omega
theorem gs_onto (j : Nat) : ∀ k, ∃ b, b < 2 ^ k ∧ gs b % 2 ^ k = j % 2 ^ k
  | 0 => ⟨0, by decide, by rw [Nat.pow_zero, Nat.mod_one, Nat.mod_one]⟩
  | k + 1 => by
    obtain ⟨b, hb, e⟩ := gs_onto j k
    obtain ⟨c, ec⟩ := gs_two k
    have hp : 0 < 2 ^ k := Nat.pow_pos (by decide)
    have h2 : 2 ^ (k + 1) = 2 * 2 ^ k := by rw [Nat.pow_succ, Nat.mul_comm]
    rw [h2]
    have d1 := Nat.div_add_mod (gs b) (2 ^ k)
    have d2 := Nat.div_add_mod j (2 ^ k)
    have hs : gs b % 2 ^ k < 2 ^ k := Nat.mod_lt _ hp
    have r1 : gs b % (2 * 2 ^ k) = 2 ^ k * ((gs b / 2 ^ k) % 2) + gs b % 2 ^ k := by
      rw [← rest_two hs, d1]
    have r2 : j % (2 * 2 ^ k) = 2 ^ k * ((j / 2 ^ k) % 2) + gs b % 2 ^ k := by
      rw [← rest_two hs, e, d2]
    by_cases hq : (gs b / 2 ^ k) % 2 = (j / 2 ^ k) % 2
    · exact ⟨b, by omega, by rw [r1, r2, hq]⟩
    · refine ⟨b + 2 ^ k, by omega, ?_⟩
      have e3 : gs (b + 2 ^ k) = 2 ^ k * (gs b / 2 ^ k + (2 * (4 * gs b * c + 2 * gs b + c) + 1)) + gs b % 2 ^ k := by
        rw [gs_add, ec, gs_four]
        have x : (4 * gs b + 1) * (2 ^ k * (2 * c + 1)) = 2 ^ k * (2 * (4 * gs b * c + 2 * gs b + c) + 1) := by
          rw [Nat.mul_left_comm]
          congr 1
          generalize gs b = g
          grind
        rw [x]
        generalize 2 * (4 * gs b * c + 2 * gs b + c) + 1 = y
        rw [Nat.mul_add]
        omega
      rw [e3, rest_two hs, r2]
      congr 2
      omega

/-! ### masks -/
/-- one less than a power of two, an odd number -/
def Pw (m : Nat) : Prop := ∃ k, m + 1 = 2 ^ (k + 1)
theorem Pw.odd {m : Nat} (h : Pw m) : m % 2 = 1 := by
  obtain ⟨k, e⟩ := h
  rw [Nat.pow_succ] at e
  omega
theorem pw7 : Pw 7 := ⟨2, rfl⟩
theorem pw31 : Pw 31 := ⟨4, rfl⟩
theorem pw127 : Pw 127 := ⟨6, rfl⟩
theorem pw511 : Pw 511 := ⟨8, rfl⟩
theorem pw2047 : Pw 2047 := ⟨10, rfl⟩
theorem lcgN_gs (m : Nat) : ∀ b, L2.lcgN m b = gs b % (m + 1)
  | 0 => (Nat.zero_mod _).symm
  | b + 1 => by
    show (L2.lcgN m b * 5 + 1) % (m + 1) = (5 * gs b + 1) % (m + 1)
    rw [lcgN_gs m b, Nat.mul_comm 5, Nat.add_mod, Nat.mul_mod, Nat.mod_mod, ← Nat.mul_mod, ← Nat.add_mod]
theorem from_any {m i j : Nat} (hm : Pw m) (hi : i ≤ m) (hj : j ≤ m) : ∃ k, k ≤ m ∧ L2.lcgI m i k = j := by
  obtain ⟨n, e⟩ := hm
  obtain ⟨a, ha, ea⟩ := gs_onto i (n + 1)
  obtain ⟨b, hb, eb⟩ := gs_onto j (n + 1)
  obtain ⟨c, ec⟩ := gs_two (n + 1)
  rw [← e] at ha ea hb eb ec
  rw [Nat.mod_eq_of_lt (Nat.lt_succ_of_le hi)] at ea
  rw [Nat.mod_eq_of_lt (Nat.lt_succ_of_le hj)] at eb
  have ei : L2.lcgN m a = i := by rw [lcgN_gs, ea]
  rw [← ei]
  by_cases h : a ≤ b
  · refine ⟨b - a, by omega, ?_⟩
    rw [L2.lcgN_add, lcgN_gs, show a + (b - a) = b by omega, eb]
  · refine ⟨b + (m + 1) - a, by omega, ?_⟩
    rw [L2.lcgN_add, lcgN_gs, show a + (b + (m + 1) - a) = (m + 1) + b by omega, gs_add, gs_four, ec]
    have x : (m + 1) * (2 * c + 1) + (4 * ((m + 1) * (2 * c + 1)) + 1) * gs b = (m + 1) * ((2 * c + 1) + 4 * (2 * c + 1) * gs b) + gs b := by
      generalize m + 1 = p
      generalize gs b = g
      grind
    rw [x, Nat.mul_add_mod, eb]

/-! ### the way of a hash -/
theorem run_at {m j : Nat} (hm : Pw m) (h : Int) (hj : j ≤ m) : ∃ n, n ≤ m + 12 ∧ L2.runI m (SetTable.bits h) n = j := by
  obtain ⟨k, h1, h2⟩ := from_any hm (L2.runI_le m (SetTable.bits h) 12) hj
  exact ⟨12 + k, by omega, (L2.runI_tail (L2.bits_lt h) k).trans h2⟩
/-- j is met on the way of h, at slots of O until then -/
def Rch (m : Nat) (O : Nat → Prop) (h : Int) (j : Nat) : Prop := ∃ k, L2.way m h k = j ∧ ∀ i, i < k → O (L2.way m h i)
theorem Rch.mono {m : Nat} {O O' : Nat → Prop} {h : Int} {j : Nat} (r : Rch m O h j) (w : ∀ i, O i → O' i) : Rch m O' h j := by
  obtain ⟨k, e, a⟩ := r
  exact ⟨k, e, fun i hi => w _ (a i hi)⟩
theorem way_in {m : Nat} (h : Int) (k : Nat) : L2.way m h k ≤ m := by
  have hb : SetTable.bits h % (m + 1) ≤ m := Nat.le_of_lt_succ (Nat.mod_lt _ (Nat.succ_pos m))
  have r := L2.runEnd_bd hb
  have z := L2.nth_in (m := m) k (L2.runAt m (SetTable.bits h % (m + 1)) (SetTable.bits h)) (by
    show SetTable.bits h % (m + 1) + (SetTable.runEnd m (SetTable.bits h % (m + 1)) - SetTable.bits h % (m + 1)) ≤ m
    omega)
  exact Nat.le_trans (Nat.le_add_right _ _) z
/-- where the n-th run begins -/
theorem way_off (m : Nat) (h : Int) (n : Nat) : L2.way m h (L2.off m (SetTable.bits h % (m + 1)) (SetTable.bits h) n) = L2.runI m (SetTable.bits h) n := by
  show (L2.nth m _ _).j = _
  rw [L2.nth_off, L2.itL_run]
  rfl
theorem off_le (m : Nat) : ∀ n i b, i ≤ m → L2.off m i b n ≤ 10 * n
  | 0, _, _, _ => Nat.le_refl _
  | n + 1, i, b, hi => by
    have r := L2.runEnd_bd hi
    have z := off_le m n (SetTable.leap m i b).1 (SetTable.leap m i b).2 (L2.leap_le m i b)
    show SetTable.runEnd m i - i + 1 + L2.off m _ _ n ≤ 10 * (n + 1)
    omega
/-- with fewer taken slots than there are, a free one is met: within the n-th run, n small -/
theorem first_free {m : Nat} (hm : Pw m) (sl : List Nat) (hl : sl.length ≤ m) (h : Int) :
    ∃ n K, n ≤ m + 12 ∧ K ≤ L2.off m (SetTable.bits h % (m + 1)) (SetTable.bits h) n ∧ L2.way m h K ∉ sl ∧ ∀ i, i < K → L2.way m h i ∈ sl := by
  obtain ⟨j, h1, h2⟩ := L2.st_missing sl (m + 1) (Nat.lt_succ_of_le hl)
  obtain ⟨n, h3, h4⟩ := run_at hm h (Nat.le_of_lt_succ h1)
  obtain ⟨K, k1, k2, k3⟩ := L2.st_least (p := fun k => L2.way m h k ∉ sl) (L2.off m (SetTable.bits h % (m + 1)) (SetTable.bits h) n) (by
    show L2.way m h _ ∉ sl
    rw [way_off, h4]; exact h2)
  exact ⟨n, K, h3, k1, k2, fun i hi => Classical.byContradiction (k3 i hi)⟩

/-! ### a table in order -/
structure Tab (t : SetTable) (hs : List Int) : Prop where
  ris : L2.Ris t.place.toList
  dm : t.dummies = #[]
  sz : t.place.toList.length = hs.length
  pw : Pw t.mask
  le : ∀ x ∈ t.place.toList, x ≤ t.mask
  rch : ∀ (i : Nat) (h : Int) (j : Nat), hs[i]? = some h → t.place.toList[i]? = some j → Rch t.mask (· ∈ t.place.toList) h j
theorem Tab.first {t : SetTable} {hs : List Int} (T : Tab t hs) (hl : hs.length ≤ t.mask) (h : Int) :
    ∃ K, K < 10 * SetTable.turns t.mask ∧ L2.way t.mask h K ∉ t.place.toList ∧ ∀ i, i < K → L2.way t.mask h i ∈ t.place.toList := by
  obtain ⟨n, K, h1, h2, h3, h4⟩ := first_free T.pw t.place.toList (by rw [T.sz]; exact hl) h
  have z := off_le t.mask n (SetTable.bits h % (t.mask + 1)) (SetTable.bits h) (Nat.le_of_lt_succ (Nat.mod_lt _ (Nat.succ_pos _)))
  exact ⟨K, by unfold SetTable.turns; omega, h3, h4⟩
/-- what has the hash stands ahead of the first free slot -/
theorem Tab.ahead {t : SetTable} {hs : List Int} (T : Tab t hs) {h : Int} {K i j : Nat} (hK : L2.way t.mask h K ∉ t.place.toList) (hi : hs[i]? = some h) (hj : t.place.toList[i]? = some j) : ∃ k, k < K ∧ L2.way t.mask h k = j := by
  obtain ⟨k, e, a⟩ := T.rch i h j hi hj
  rcases Nat.lt_trichotomy k K with c | c | c
  · exact ⟨k, c, e⟩
  · exact absurd (by rw [← c, e]; exact List.mem_of_getElem? hj) hK
  · exact absurd (a K c) hK
/-- one put at its first free slot -/
theorem Tab.put {t : SetTable} {hs : List Int} (T : Tab t hs) {h : Int} {K : Nat} (hK : L2.way t.mask h K ∉ t.place.toList) (hb : ∀ i, i < K → L2.way t.mask h i ∈ t.place.toList) {p : Nat} (hp : SetTable.below t.place (L2.way t.mask h K) = p) :
    p ≤ hs.length ∧ Tab (t.put (L2.way t.mask h K)).1 (hs.take p ++ h :: hs.drop p) ∧ (t.put (L2.way t.mask h K)).1.fill = hs.length + 1 := by
  have hw := way_in (m := t.mask) h K
  have hKr : Rch t.mask (· ∈ t.place.toList) h (L2.way t.mask h K) := ⟨K, rfl, hb⟩
  generalize L2.way t.mask h K = j at hK hw hKr hp ⊢
  obtain ⟨c1, _, _⟩ := L2.below_cut T.ris j
  rw [hp] at c1
  have hp1 : p ≤ t.place.toList.length := by rw [Array.length_toList]; exact c1
  have hp2 : p ≤ hs.length := by rw [← T.sz]; exact hp1
  have pl : (t.put j).1.place.toList = t.place.toList.take p ++ j :: t.place.toList.drop p := by rw [L2.put_place, hp]
  have up : ∀ x, x ∈ t.place.toList → x ∈ (t.put j).1.place.toList := fun x hx => by rw [pl]; exact L2.mem_ins.2 (.inr hx)
  have hz : (t.put j).1.place.toList.length = hs.length + 1 := by rw [pl, L2.len_ins _ hp1, T.sz]
  refine ⟨hp2, ⟨L2.ris_insert T.ris fun e => hK (List.mem_of_getElem? (by rw [Array.getElem?_toList]; exact e)), L2.put_dm T.dm j, by rw [L2.len_ins _ hp2]; exact hz, T.pw, fun x hx => ?_, fun i h' j' h1 h2 => ?_⟩, ?_⟩
  · rw [pl] at hx
    rcases L2.mem_ins.1 hx with e | e
    · rw [e]; exact hw
    · exact T.le x e
  · show Rch t.mask (· ∈ (t.put j).1.place.toList) h' j'
    refine Rch.mono (O := (· ∈ t.place.toList)) ?_ up
    rw [L2.tins_get hs hp2] at h1
    rw [pl, L2.tins_get _ hp1] at h2
    rcases Nat.lt_trichotomy i p with c | c | c
    · rw [if_pos c] at h1 h2
      exact T.rch i h' j' h1 h2
    · rw [if_neg (by omega), if_pos c] at h1 h2
      cases h1; cases h2
      exact hKr
    · rw [if_neg (by omega), if_neg (by omega)] at h1 h2
      exact T.rch (i - 1) h' j' h1 h2
  · show (t.put j).1.place.size + (t.put j).1.dummies.size = hs.length + 1
    rw [L2.put_dm T.dm j, ← Array.length_toList, hz]
    rfl

/-! ### laid anew -/
structure Laid (m : Nat) (done : List Int) (sl : List Nat) (ow : Array (Option Nat)) : Prop where
  sz : ow.size = m + 1
  len : sl.length = done.length
  own : ∀ j k, j ≤ m → (L2.oAt ow j = some k ↔ sl[k]? = some j)
  le : ∀ j ∈ sl, j ≤ m
  rch : ∀ (k : Nat) (h : Int) (j : Nat), done[k]? = some h → sl[k]? = some j → Rch m (· ∈ sl) h j
theorem Laid.init (m : Nat) : Laid m [] [] (Array.replicate (m + 1) none) where
  sz := Array.size_replicate
  len := rfl
  own := fun j k hj => by rw [L2.oAt_init hj]; simp
  le := fun j hj => nomatch hj
  rch := fun k h j e => by simp at e
theorem Laid.isSome {m : Nat} {done : List Int} {sl : List Nat} {ow : Array (Option Nat)} (W : Laid m done sl ow) {j : Nat} (hj : j ≤ m) : (L2.oAt ow j).isNone = false ↔ j ∈ sl := by
  constructor
  · intro h
    cases e : L2.oAt ow j with
    | none => rw [e] at h; cases h
    | some k => exact List.mem_of_getElem? ((W.own j k hj).1 e)
  · intro h
    obtain ⟨k, hk⟩ := List.mem_iff_getElem?.mp h
    rw [(W.own j k hj).2 hk]
    rfl
theorem Laid.step {m : Nat} (hm : Pw m) {done : List Int} {sl : List Nat} {ow : Array (Option Nat)} (W : Laid m done sl ow) (hl : done.length ≤ m) (h : Int) :
    ∃ j, SetTable.layClean.free m ow (SetTable.turns m) (SetTable.bits h % (m + 1)) (SetTable.bits h) = some j ∧ Laid m (done ++ [h]) (sl ++ [j]) (ow.setIfInBounds j (some done.length)) := by
  obtain ⟨n, K, n1, n2, n3, n4⟩ := first_free hm sl (by rw [W.len]; exact hl) h
  have hw : ∀ i, L2.way m h i ≤ m := fun i => way_in h i
  refine ⟨L2.way m h K, L2.free_spec m ow _ n _ _ K (by unfold SetTable.turns; omega) n2 (fun i hi => (W.isSome (hw i)).2 (n4 i hi)) ?_, ?_⟩
  · show (L2.oAt ow (L2.way m h K)).isNone = true
    cases e : (L2.oAt ow (L2.way m h K)).isNone with
    | true => rfl
    | false => exact absurd ((W.isSome (hw K)).1 e) n3
  · have hKm := hw K
    have r0 : Rch m (· ∈ sl) h (L2.way m h K) := ⟨K, rfl, n4⟩
    generalize L2.way m h K = j0 at n3 hKm r0 ⊢
    have app : ∀ (k j : Nat), (sl ++ [j0])[k]? = some j ↔ sl[k]? = some j ∨ (k = done.length ∧ j = j0) := fun k j => by
      rw [← W.len]
      rcases Nat.lt_trichotomy k sl.length with c | c | c
      · rw [List.getElem?_append_left c]
        exact ⟨.inl, fun h => h.elim id fun z => absurd z.1 (Nat.ne_of_lt c)⟩
      · rw [List.getElem?_append_right (Nat.le_of_eq c.symm), c, Nat.sub_self, List.getElem?_eq_none (Nat.le_refl _)]
        simp [eq_comm]
      · rw [List.getElem?_eq_none (by simp; omega), List.getElem?_eq_none (Nat.le_of_lt c)]
        simp; omega
    refine ⟨by rw [Array.size_setIfInBounds]; exact W.sz, by rw [List.length_append, List.length_append, W.len]; rfl, fun j k hj => ?_, fun j hj => ?_, fun k h' j e1 e2 => ?_⟩
    · rw [app]
      by_cases c : j = j0
      · subst c
        rw [L2.oAt_set_self _ (by rw [W.sz]; exact Nat.lt_succ_of_le hj)]
        constructor
        · intro e; cases e; exact .inr ⟨rfl, rfl⟩
        · intro e
          rcases e with e | e
          · exact absurd (List.mem_of_getElem? e) n3
          · rw [e.1]
      · rw [L2.oAt_set_ne _ c, W.own j k hj]
        exact ⟨.inl, fun e => e.elim id fun z => absurd z.2 c⟩
    · rcases List.mem_append.mp hj with e | e
      · exact W.le j e
      · rw [List.mem_singleton.mp e]; exact hKm
    · have up : ∀ i, i ∈ sl → i ∈ sl ++ [j0] := fun i hi => List.mem_append_left _ hi
      have hks : k < done.length + 1 := by
        have := (List.getElem?_eq_some_iff.mp e1).1
        rwa [List.length_append] at this
      rcases (app k j).1 e2 with e | ⟨e, e'⟩
      · have hk : k < done.length := by rw [← W.len]; exact (List.getElem?_eq_some_iff.mp e).1
        rw [List.getElem?_append_left hk] at e1
        exact (W.rch k h' j e1 e).mono up
      · subst e e'
        rw [List.getElem?_append_right (Nat.le_refl _), Nat.sub_self] at e1
        cases e1
        exact r0.mono up
theorem Laid.fold {m : Nat} (hm : Pw m) : ∀ (rest done : List Int) (sl : List Nat) (ow : Array (Option Nat)), Laid m done sl ow → done.length + rest.length ≤ m →
    ∃ sl' ow', (rest.foldl (L2.stepF m) (some (ow, done.length))).map (·.1) = some ow' ∧ Laid m (done ++ rest) sl' ow'
  | [], done, sl, ow, W, _ => ⟨sl, ow, rfl, by rw [List.append_nil]; exact W⟩
  | h :: rest, done, sl, ow, W, hl => by
    rw [List.length_cons] at hl
    obtain ⟨j, e, W1⟩ := W.step hm (by omega) h
    obtain ⟨sl', ow', e2, W2⟩ := Laid.fold hm rest (done ++ [h]) _ _ W1 (by rw [List.length_append]; show done.length + 1 + rest.length ≤ m; omega)
    refine ⟨sl', ow', ?_, by rw [List.append_assoc] at W2; exact W2⟩
    rw [List.foldl_cons, L2.stepF_some e]
    rw [List.length_append] at e2
    exact e2
/-- the new table, and the order in which the old entries stand in it -/
theorem relaid {t : SetTable} {hs : Array Int} {wanted M : Nat} (hw : SetTable.sizeAbove wanted - 1 = M) (hM : Pw M) (hn : hs.size ≤ M) :
    ∃ t' order, t.relaid hs wanted = some (t', order) ∧ order.toList.Perm (List.range hs.size) ∧ Tab t' (order.toList.map fun i => hs.getD i 0) ∧ t'.mask = M ∧ t'.led = t.led ∧ t'.plain = t.plain := by
  obtain ⟨sl, ow, e, W⟩ := Laid.fold hM hs.toList [] [] _ (Laid.init M) (by rw [List.length_nil, Nat.zero_add, Array.length_toList]; exact hn)
  rw [List.nil_append] at W
  have el : SetTable.layClean M hs = some ow := (L2.layClean_eq M hs).trans e
  have hlive : ∀ {j k : Nat}, (j, k) ∈ L2.liveOf M ow ↔ sl[k]? = some j := fun {j k} => by
    rw [L2.mem_live W.sz]
    exact ⟨fun h => (W.own j k h.1).1 h.2, fun h => ⟨W.le j (List.mem_of_getElem? h), (W.own j k (W.le j (List.mem_of_getElem? h))).2 h⟩⟩
  have rl := L2.ris_live (fun j => ow.getD j none) (List.range (M + 1)) (by unfold L2.Ris; exact List.pairwise_lt_range)
  have r1 : L2.Ris ((L2.liveOf M ow).map (·.1)) := rl.1
  have r2 : ∀ x ∈ (L2.liveOf M ow).map (·.1), x ∈ List.range (M + 1) := rl.2
  have rs : (L2.liveOf M ow).Pairwise fun p q => p.1 < q.1 := List.pairwise_map.mp r1
  have nd : ((L2.liveOf M ow).map (·.2)).Nodup := by
    refine List.pairwise_map.mpr (rs.imp_of_mem fun {p q} hp hq lt e => ?_)
    obtain ⟨j, k⟩ := p
    obtain ⟨j', k'⟩ := q
    have e' : k = k' := e
    subst e'
    have a := hlive.1 hp
    rw [hlive.1 hq] at a
    cases a
    exact absurd lt (Nat.lt_irrefl _)
  have hmem : ∀ k, k ∈ (L2.liveOf M ow).map (·.2) ↔ k ∈ List.range hs.size := fun k => by
    rw [List.mem_map, List.mem_range]
    have hl : sl.length = hs.size := W.len.trans Array.length_toList
    constructor
    · rintro ⟨⟨j, k'⟩, hp, e⟩
      have e' : k' = k := e
      subst e'
      rw [← hl]
      exact (List.getElem?_eq_some_iff.mp (hlive.1 hp)).1
    · intro hk
      rw [← hl] at hk
      exact ⟨(sl[k], k), hlive.2 (List.getElem?_eq_getElem hk), rfl⟩
  refine ⟨L2.tabOf t M ow, ((L2.liveOf M ow).map (·.2)).toArray, by rw [L2.relaid_eq, hw, el]; rfl, (List.perm_ext_iff_of_nodup nd List.nodup_range).2 hmem, ⟨r1, rfl, ?_, hM, fun x hx => Nat.le_of_lt_succ (List.mem_range.mp (r2 x hx)), fun i h j h1 h2 => ?_⟩, rfl, rfl, rfl⟩
  · show ((L2.liveOf M ow).map (·.1)).length = (((L2.liveOf M ow).map (·.2)).map _).length
    rw [List.length_map, List.length_map, List.length_map]
  · replace h1 : (((L2.liveOf M ow).map (·.2)).map fun i => hs.getD i 0)[i]? = some h := h1
    replace h2 : ((L2.liveOf M ow).map (·.1))[i]? = some j := h2
    rw [List.getElem?_map] at h1 h2
    rw [List.getElem?_map] at h1
    cases q : (L2.liveOf M ow)[i]? with
    | none => rw [q] at h2; cases h2
    | some p =>
      obtain ⟨j', k⟩ := p
      rw [q] at h1 h2
      cases h2
      have hk := hlive.1 (List.mem_of_getElem? q)
      have hk2 : k < hs.toList.length := by rw [← W.len]; exact (List.getElem?_eq_some_iff.mp hk).1
      have eh : hs.toList[k]? = some h := by
        have e1 : hs.getD k 0 = h := Option.some.inj h1
        rw [← e1, Array.getD_eq_getD_getElem?, ← Array.getElem?_toList, List.getElem?_eq_getElem hk2]
        rfl
      refine (W.rch k h j' eh hk).mono fun x hx => ?_
      obtain ⟨k', hk'⟩ := List.mem_iff_getElem?.mp hx
      show x ∈ (L2.liveOf M ow).map (·.1)
      exact List.mem_map.mpr ⟨(x, k'), hlive.2 hk', rfl⟩
end DT

/-! ST2: sets of nested tuples of whole numbers, of any size up to 1228: adding, set(xs). -/
namespace DT
open PySem PySem.Spec PyProof.Rows L2

/-! ### the keys -/
mutual
/-- whole numbers and tuples alone -/
def nums : NestedKey → Bool
  | .none => false
  | .num _ => true
  | .text _ => false
  | .tup ks => numsAll ks
def numsAll : List NestedKey → Bool
  | [] => true
  | k :: ks => nums k && numsAll ks
end
structure KeyAt (h : Heap) (k : NestedKey) (a : Addr) : Prop where
  is : NestedIs h k (.ref a)
  dp : k.depth ≤ 8
  nm : nums k = true
theorem KeyAt.keep {h h' : Heap} {k : NestedKey} {a : Addr} (x : KeyAt h k a) (hk : ∀ b o vs n, h.get? b = some o → o.data = .seq vs n → h'.get? b = some o) : KeyAt h' k a :=
  ⟨NestedIs.at hk k _ x.is, x.dp, x.nm⟩
section
variable {P : Program} {w : World}
/-- what is asked of v, n levels down, answers r and changes nothing -/
def Asks (P : Program) (w : World) (t : Sem Bool) (r : Bool) (s : Shared) : Prop := ∀ (A : Around) (E : Value → Shared → Prop) (Q : Bool → Shared → Prop), Q r s → wpAny (model P w) A t Q E s
theorem Asks.val {t : Sem Bool} {r : Bool} {s : Shared} (h : t = pure r) : Asks P w t r s := fun A E Q q => by rw [h]; exact wpAny_pure q
theorem asks_hash_up {n m : Nat} {s : Shared} {a : Addr} {o : Obj} {vs : Array Value} (ho : s.heap.get? a = some o) (hc : o.cls = .type "tuple") (hd : o.data = .seq vs m) (hq : ∀ v ∈ vs.toList, Asks P w (hashByValue n v) true s) : Asks P w (hashByValue (n + 1) (.ref a)) true s := fun A E Q h => by
  unfold hashByValue
  refine wpAny_bind (wpAny_specialOf ⟨o, ho, hc⟩ F.slot_tuple_hash.lookup ?_)
  show wpAny _ _ (seqItems? (.ref a) >>= _) _ _ s
  refine wpAny_bind (wpAny_seqItems ho hd (wpAny_bind ?_))
  show wpAny _ _ (forIn vs _ _) _ _ s
  rw [← Array.forIn_toList]
  refine wpAny_forIn_list _ (fun l r s' => r.1 = none ∧ s' = s ∧ ∀ v ∈ l, Asks P w (hashByValue n v) true s) _ ?_ ?_ _ _ ⟨rfl, rfl, hq⟩
  · rintro v l r s' ⟨_, rfl, z⟩
    refine wpAny_bind (z v List.mem_cons_self _ _ _ ?_)
    simp only [Bool.not_true, Bool.false_eq_true, if_false]
    exact wpAny_pure ⟨rfl, rfl, fun u hu => z u (List.mem_cons_of_mem _ hu)⟩
  · rintro ⟨r1, _⟩ s' ⟨e, rfl, _⟩
    cases e
    exact wpAny_pure h
theorem asks_cls_up {n m : Nat} {s : Shared} {a : Addr} {o : Obj} {vs : Array Value} (ho : s.heap.get? a = some o) (hc : o.cls = .type "tuple") (hd : o.data = .seq vs m) (hq : ∀ v ∈ vs.toList, Asks P w (ofAClassStatement n v) false s) : Asks P w (ofAClassStatement (n + 1) (.ref a)) false s := fun A E Q h => by
  unfold ofAClassStatement
  refine wpAny_bind (wpAny_typeOf ⟨o, ho, hc⟩ ?_)
  dsimp only
  have e : (("tuple" : String) == "tuple") = true := by decide
  simp only [e, if_true, Bool.not_true, Bool.false_eq_true, if_false]
  try refine wpAny_bind (wpAny_pure ?_)
  try simp only [Bool.not_true, Bool.false_eq_true, if_false]
  show wpAny _ _ (seqItems? (.ref a) >>= _) _ _ s
  refine wpAny_bind (wpAny_seqItems ho hd ?_)
  dsimp only
  refine wpAny_bind ?_
  show wpAny _ _ (forIn vs _ _) _ _ s
  rw [← Array.forIn_toList]
  refine wpAny_forIn_list _ (fun l r s' => r.1 = none ∧ s' = s ∧ ∀ v ∈ l, Asks P w (ofAClassStatement n v) false s) _ ?_ ?_ _ _ ⟨rfl, rfl, hq⟩
  · rintro v l r s' ⟨_, rfl, z⟩
    refine wpAny_bind (z v List.mem_cons_self _ _ _ ?_)
    simp only [Bool.false_eq_true, if_false]
    exact wpAny_pure ⟨rfl, rfl, fun u hu => z u (List.mem_cons_of_mem _ hu)⟩
  · rintro ⟨r1, _⟩ s' ⟨e, rfl, _⟩
    cases e
    exact wpAny_pure h
mutual
theorem asks_key : ∀ (k : NestedKey) (v : Value) (n : Nat) (s : Shared), NestedIs s.heap k v → nums k = true → k.depth ≤ n → Asks P w (hashByValue n v) true s ∧ Asks P w (ofAClassStatement n v) false s
  | .none, _, _, _, _, z, _ => nomatch z
  | .text _, _, _, _, _, z, _ => nomatch z
  | .num i, _, n, s, x, _, _ => by
    cases x with
    | bool _ => exact ⟨.val (by cases n <;> rfl), .val (by cases n <;> rfl)⟩
    | int _ _ => exact ⟨.val (by cases n <;> rfl), .val (by cases n <;> rfl)⟩
  | .tup ks, _, n, s, x, z, d => by
    cases x with
    | tup hg hc hd hk =>
      simp only [NestedKey.depth] at d
      simp only [nums] at z
      cases n with
      | zero => omega
      | succ n =>
        have q := asks_keys ks _ n s hk z (by omega)
        exact ⟨asks_hash_up hg hc hd fun v hv => (q v hv).1, asks_cls_up hg hc hd fun v hv => (q v hv).2⟩
theorem asks_keys : ∀ (ks : List NestedKey) (vs : List Value) (n : Nat) (s : Shared), NestedAll s.heap ks vs → numsAll ks = true → NestedKey.depthAll ks ≤ n → ∀ v ∈ vs, Asks P w (hashByValue n v) true s ∧ Asks P w (ofAClassStatement n v) false s
  | [], _, n, s, x, _, _, v, hv => by cases x; cases hv
  | k :: ks, _, n, s, x, z, d, v, hv => by
    cases x with
    | cons x1 x2 =>
      simp only [NestedKey.depthAll] at d
      simp only [numsAll, Bool.and_eq_true] at z
      rcases List.mem_cons.mp hv with e | hv
      · rw [e]; exact asks_key k _ n s x1 z.1 (by omega)
      · exact asks_keys ks _ n s x2 z.2 (by omega) v hv
end
variable {A : Around} {E : Value → Shared → Prop} {s : Shared}
theorem KeyAt.hashed {k : NestedKey} {a : Addr} {Q : Int → Shared → Prop} (x : KeyAt s.heap k a) (hu : A.units + 8 < cLine) (h : Q (k.hash w) { s with toks := s.toks + k.draws }) : wpAny (model P w) A (pyHash (.ref a)) Q E s :=
  pyHash_key k _ A s Q x.is (by have := x.dp; omega) h
theorem KeyAt.same {k k' : NestedKey} {a b : Addr} {Q : Bool → Shared → Prop} (x : KeyAt s.heap k a) (y : KeyAt s.heap k' b) (hu : A.units + 8 < cLine) (h : Q (decide (k = k')) s) : wpAny (model P w) A (eqBool (.ref a) (.ref b)) Q E s :=
  eqAt_key k k' A s _ _ x.is y.is (by have := x.dp; omega) _ _ _ _ (by rw [← NestedKey.decide_eq]; exact h)
/-- a search among such keys cannot be seen -/
theorem KeyAt.unseen {k : NestedKey} {b : Addr} {Q : Bool → Shared → Prop} (hk : KeyAt s.heap k b) {ys : List Value} (hy : ∀ y ∈ ys, ∃ k' c, y = Value.ref c ∧ KeyAt s.heap k' c) (h : Q false s) :
    wpAny (model P w) A (searchCouldBeSeen (.ref b) ys) Q E s := by
  have quiet : ∀ {k c}, KeyAt s.heap k c → QuietAt P w 8 s (.ref c) := fun x => quiet_key _ _ 8 s x.is x.dp
  have cls : ∀ {k c}, KeyAt s.heap k c → Asks P w (ofAClassStatement 8 (.ref c)) false s := fun x => (asks_key _ _ 8 s x.is x.nm x.dp).2
  unfold searchCouldBeSeen
  refine wpAny_bind (wpAny_forIn_list _ (fun l r s' => r.1 = none ∧ s' = s ∧ ∀ y ∈ l, ∃ k' c, y = Value.ref c ∧ KeyAt s.heap k' c) _ ?_ ?_ _ _ ⟨rfl, rfl, hy⟩)
  · rintro v l r s' ⟨_, rfl, z⟩
    obtain ⟨k', c, rfl, hc⟩ := z v List.mem_cons_self
    have z' := fun u hu => z u (List.mem_cons_of_mem _ hu)
    dsimp only
    by_cases hv : (b == c || (carriedByValue (.ref b) && carriedByValue (.ref c))) = true
    · exact wp_if_pos hv (wpAny_pure ⟨rfl, rfl, z'⟩)
    · refine wp_if_neg hv (wpAny_bind (quiet hk _ _ _ ?_))
      simp only [Bool.not_true, Bool.false_eq_true, if_false]
      refine wpAny_bind (quiet hc _ _ _ ?_)
      simp only [Bool.not_true, Bool.false_eq_true, if_false]
      refine wpAny_bind (cls hk _ _ _ ?_)
      simp only [Bool.false_eq_true, if_false]
      refine wpAny_bind (cls hc _ _ _ ?_)
      simp only [Bool.false_eq_true, if_false]
      exact wpAny_pure ⟨rfl, rfl, z'⟩
  · rintro ⟨r1, _⟩ s' ⟨e, rfl, _⟩
    cases e
    exact wpAny_pure h
end

/-! ### the set -/
abbrev Row := Addr × NestedKey
def rws (w : World) (L : List Row) : List (Int × Value) := L.map fun p => (p.2.hash w, Value.ref p.1)
def hss (w : World) (L : List Row) : List Int := L.map fun p => p.2.hash w
theorem rws_len (w : World) (L : List Row) : (rws w L).length = L.length := by unfold rws; rw [List.length_map]
theorem hss_len (w : World) (L : List Row) : (hss w L).length = L.length := by unfold hss; rw [List.length_map]
/-- the masks that come -/
def Size (m : Nat) : Prop := m = 7 ∨ m = 31 ∨ m = 127 ∨ m = 511 ∨ m = 2047
theorem Size.pw {m : Nat} (h : Size m) : Pw m := by
  rcases h with e | e | e | e | e <;> subst e
  · exact pw7
  · exact pw31
  · exact pw127
  · exact pw511
  · exact pw2047
theorem Size.le {m : Nat} (h : Size m) : m ≤ 2047 := by rcases h with e | e | e | e | e <;> omega
structure Full (w : World) (L : List Row) (es : Array (Int × Value)) (t : SetTable) : Prop where
  rows : es.toList = rws w L
  tab : Tab t (hss w L)
  nd : (L.map (·.2)).Nodup
  led : w.params.followText "set-order" = true ∨ t.led = true
  plain : t.plain = true
  size : Size t.mask
  few : L.length ≤ 1228
structure SetIn (w : World) (h : Heap) (a : Addr) (L : List Row) (es : Array (Int × Value)) (ep : Nat) (t : SetTable) : Prop where
  ob : ∃ o, h.get? a = some o ∧ o.ExactSet ∧ o.data = .set es ep t
  full : Full w L es t
  room : L.length * 5 < t.mask * 3
  keys : ∀ p ∈ L, KeyAt h p.2 p.1
section
variable {P : Program} {w : World} {A : Around} {E : Value → Shared → Prop} {s : Shared} {a : Addr} {L : List Row} {es : Array (Int × Value)} {ep : Nat} {t : SetTable}
theorem Full.size_es (F : Full w L es t) : es.size = L.length := by rw [← Array.length_toList, F.rows, rws_len]
theorem Full.size_pl (F : Full w L es t) : t.place.size = L.length := by rw [← Array.length_toList, F.tab.sz, hss_len]
theorem Full.fits (F : Full w L es t) (h : L.length ≤ t.mask) : t.fits es.size = true := by
  have h1 := F.size_es
  have h2 := F.size_pl
  unfold SetTable.fits SetTable.fill
  rw [F.tab.dm, Bool.and_eq_true, beq_iff_eq, decide_eq_true_eq]
  show t.place.size = es.size ∧ t.place.size + 0 ≤ t.mask
  omega
theorem SetIn.fits (R : SetIn w s.heap a L es ep t) : t.fits es.size = true := R.full.fits (by have := R.room; omega)
theorem Full.entry (F : Full w L es t) {i : Nat} {p : Row} (h : L[i]? = some p) : es[i]? = some (p.2.hash w, Value.ref p.1) := by
  rw [← Array.getElem?_toList, F.rows]
  unfold rws
  rw [List.getElem?_map, h]
  rfl
/-- where the search for a hash starts -/
def pr0 (m : Nat) (h : Int) : SetTable.Probe := L2.runAt m (SetTable.bits h % (m + 1)) (SetTable.bits h)
theorem pr0_dummy (m : Nat) (h : Int) : ∀ n, (L2.nth m (pr0 m h) n).dummy = none := by
  have one : ∀ p : SetTable.Probe, p.dummy = none → (L2.adv m p).dummy = none := fun p e => by unfold L2.adv; split <;> exact e
  have all : ∀ n (p : SetTable.Probe), p.dummy = none → (L2.nth m p n).dummy = none := fun n => by
    induction n with
    | zero => exact fun p e => e
    | succ n ih => exact fun p e => ih _ (one p e)
  exact fun n => all n _ rfl
theorem search_in (R : SetIn w s.heap a L es ep t) {x : Addr} {k : NestedKey} (hx : KeyAt s.heap k x) (hu : A.units + 8 < cLine) {add : Bool} {K : Nat} (hf : K < 10 * SetTable.turns t.mask)
    (hK : L2.way t.mask (k.hash w) K ∉ t.place.toList) (hb : ∀ i, i < K → L2.way t.mask (k.hash w) i ∈ t.place.toList) {Q : SetFound → Shared → Prop}
    (yes : k ∈ L.map (·.2) → ∀ r, Q (.there r) s) (no : k ∉ L.map (·.2) → Q (.free (L2.way t.mask (k.hash w) K) false) s) :
    ∀ (f c : Nat) (st : Option SetTable.Probe), st.getD (t.probeStart (k.hash w)) = L2.nth t.mask (pr0 t.mask (k.hash w)) c → c ≤ K → K - c < f →
      (∀ (i : Nat) (p : Row), L[i]? = some p → p.2 = k → ∃ d, c ≤ d ∧ d < K ∧ t.place.toList[i]? = some (L2.way t.mask (k.hash w) d)) →
      wpAny (model P w) A (setSearchFrom a (.ref x) (k.hash w) add f st) Q E s
  | 0, _, _, _, _, z, _ => absurd z (Nat.not_lt_zero _)
  | f + 1, c, st, hst, hc, hfu, hpos => by
    obtain ⟨o, ho, hex, hd⟩ := R.ob
    have gw : ¬ t.gaveWay = true := by unfold SetTable.gaveWay; rw [R.full.tab.pw.odd]; decide
    rw [L2.setSearchFrom_succ]
    refine wpAny_bind (wpAny_setState_of ho hd R.fits ?_)
    dsimp only
    refine wp_if_neg gw ?_
    try refine wpAny_bind (wpAny_pure ?_)
    have sh : ∀ q, L2.nth t.mask (L2.nth t.mask (pr0 t.mask (k.hash w)) c) q = L2.nth t.mask (pr0 t.mask (k.hash w)) (c + q) := fun q => (L2.nth_add t.mask c _ q).symm
    have shj : ∀ q, (L2.nth t.mask (L2.nth t.mask (pr0 t.mask (k.hash w)) c) q).j = L2.way t.mask (k.hash w) (c + q) := fun q => congrArg SetTable.Probe.j (sh q)
    have hat : ∀ (i : Nat) (p : Row), L[i]? = some p → (es[i]?.map (fun e : Int × Value => e.1)).getD 0 = p.2.hash w := fun i p hp => by rw [R.full.entry hp]; rfl
    -- nobody of the key stands ahead of a slot whose forerunners have other hashes
    have later : ∀ q, (∀ k' i', k' < q → t.place.toList[i']? = some (L2.nth t.mask (L2.nth t.mask (pr0 t.mask (k.hash w)) c) k').j → (es[i']?.map (fun e : Int × Value => e.1)).getD 0 ≠ k.hash w) →
        ∀ (i : Nat) (p : Row), L[i]? = some p → p.2 = k → ∃ d, c + q ≤ d ∧ d < K ∧ t.place.toList[i]? = some (L2.way t.mask (k.hash w) d) := fun q hq i p hp hk => by
      obtain ⟨d, d1, d2, d3⟩ := hpos i p hp hk
      refine ⟨d, Nat.le_of_not_lt fun z => hq (d - c) i (by omega) (by rw [shj, show c + (d - c) = d by omega]; exact d3) ?_, d2, d3⟩
      rw [hat i p hp, hk]
    rcases L2.go_spec t R.full.tab.ris R.full.tab.dm (fun i => (es[i]?.map (fun e : Int × Value => e.1)).getD 0) (k.hash w) (10 * SetTable.turns t.mask) (K - c) (L2.nth t.mask (pr0 t.mask (k.hash w)) c) (pr0_dummy _ _ _) (by omega)
      (fun q hq => by rw [shj]; exact hb (c + q) (by omega)) (by rw [shj, show c + (K - c) = K by omega]; exact hK) with ⟨q, i, hq, hi, _, hno, hpr⟩ | ⟨hno, hpr⟩
    · rw [hst, show t.probe (fun i => (es[i]?.map (fun e : Int × Value => e.1)).getD 0) (k.hash w) (L2.nth t.mask (pr0 t.mask (k.hash w)) c) = _ from hpr]
      dsimp only
      rw [shj] at hi
      have hil : i < L.length := by
        have z := (List.getElem?_eq_some_iff.mp hi).1
        rwa [R.full.tab.sz, hss_len] at z
      obtain ⟨p, hp⟩ : ∃ p, L[i]? = some p := ⟨_, List.getElem?_eq_getElem hil⟩
      have hm : p ∈ L := List.mem_of_getElem? hp
      have body : wpAny (model P w) A (L2.searchRest a (.ref x) (k.hash w) add f es t (L2.nth t.mask (L2.nth t.mask (pr0 t.mask (k.hash w)) c) q).j i (L2.nth t.mask (L2.nth t.mask (pr0 t.mask (k.hash w)) c) (q + 1))) Q E s := by
        rw [shj, sh]
        unfold L2.searchRest
        rw [R.full.entry hp]
        dsimp only
        refine wpAny_bind (wpAny_holding ((R.keys p hm).same hx hu ?_))
        refine wpAny_bind (wpAny_setState_of ho hd R.fits ?_)
        dsimp only
        have live : t.slot (L2.way t.mask (k.hash w) (c + q)) = .live i := L2.slot_live R.full.tab.ris hi
        by_cases e : p.2 = k
        · have hk : k ∈ L.map (·.2) := List.mem_map.mpr ⟨p, hm, e⟩
          rw [decide_eq_true e]
          cases add with
          | true => exact wp_if_pos rfl (wpAny_pure (yes hk _))
          | false =>
            refine wp_if_neg (by decide) ?_
            try refine wpAny_bind (wpAny_pure ?_)
            rw [L2.sameMem]
            dsimp only
            simp only [if_true, live, R.full.entry hp]
            refine wpAny_bind (wpAny_isSame_ref_self (wpAny_bind (wpAny_pure ?_)))
            simp only [if_true]
            exact wpAny_pure (yes hk _)
        · rw [decide_eq_false e]
          refine wp_if_neg (by simp) ?_
          try refine wpAny_bind (wpAny_pure ?_)
          rw [L2.sameMem]
          dsimp only
          simp only [if_true, live, R.full.entry hp]
          refine wpAny_bind (wpAny_isSame_ref_self (wpAny_bind (wpAny_pure ?_)))
          simp only [if_true]
          refine wp_if_neg (by decide) ?_
          refine search_in R hx hu hf hK hb yes no f (c + (q + 1)) _ rfl (by omega) (by omega) fun i' p' hp' hk' => ?_
          obtain ⟨d, d1, d2, d3⟩ := later q hno i' p' hp' hk'
          refine ⟨d, ?_, d2, d3⟩
          rcases Nat.lt_or_ge (c + q) d with z | z
          · omega
          · exfalso
            have ed : d = c + q := by omega
            rw [ed] at d3
            have l2 := L2.slot_live R.full.tab.ris d3
            rw [live] at l2
            cases l2
            rw [hp] at hp'
            cases hp'
            exact e hk'
      by_cases hl : t.led = true
      · refine wp_if_neg (by simp [hl]) ?_
        try refine wpAny_bind (wpAny_pure ?_)
        exact body
      · refine wp_if_pos (by simp [hl]) ?_
        refine wpAny_bind (hx.unseen (fun y hy => ?_) ?_)
        · obtain ⟨u, hu1, hu2⟩ := List.mem_map.mp hy
          have hu3 : u ∈ es.toList := by
            have z : u ∈ es ∧ u.1 = k.hash w := by simpa using hu1
            simpa using z.1
          rw [R.full.rows] at hu3
          obtain ⟨p2, m2, e2⟩ := List.mem_map.mp hu3
          exact ⟨p2.2, p2.1, by rw [← hu2, ← e2], R.keys p2 m2⟩
        · refine wp_if_neg (by decide) ?_
          try refine wpAny_bind (wpAny_pure ?_)
          exact body
    · rw [hst, show t.probe (fun i => (es[i]?.map (fun e : Int × Value => e.1)).getD 0) (k.hash w) (L2.nth t.mask (pr0 t.mask (k.hash w)) c) = _ from hpr]
      dsimp only
      rw [shj, show c + (K - c) = K by omega]
      refine wpAny_pure (no fun hm => ?_)
      obtain ⟨p, m, e⟩ := List.mem_map.mp hm
      obtain ⟨i, hi⟩ := List.mem_iff_getElem?.mp m
      obtain ⟨d, d1, d2, _⟩ := later (K - c) hno i p hi e
      omega
theorem search_at (R : SetIn w s.heap a L es ep t) {x : Addr} {k : NestedKey} (hx : KeyAt s.heap k x) (hu : A.units + 8 < cLine) {add : Bool} {Q : SetFound → Shared → Prop}
    (yes : k ∈ L.map (·.2) → ∀ r, Q (.there r) s)
    (no : ∀ K, k ∉ L.map (·.2) → L2.way t.mask (k.hash w) K ∉ t.place.toList → (∀ i, i < K → L2.way t.mask (k.hash w) i ∈ t.place.toList) → Q (.free (L2.way t.mask (k.hash w) K) false) s) :
    wpAny (model P w) A (setSearch a (.ref x) (k.hash w) add) Q E s := by
  have hr := R.room
  obtain ⟨K, h1, h2, h3⟩ := R.full.tab.first (by rw [hss_len]; omega) (k.hash w)
  have hs := R.full.size.le
  unfold setSearch
  refine search_in R hx hu h1 h2 h3 yes (fun z => no K z h2 h3) 100000 0 none rfl (Nat.zero_le _) (by unfold SetTable.turns at h1; omega) fun i p hp hk => ?_
  have hil : i < t.place.toList.length := by
    rw [R.full.tab.sz, hss_len]
    exact (List.getElem?_eq_some_iff.mp hp).1
  obtain ⟨d, d1, d2⟩ := R.full.tab.ahead (i := i) h2 (by unfold hss; rw [List.getElem?_map, hp, ← hk]; rfl) (List.getElem?_eq_getElem hil)
  exact ⟨d, Nat.zero_le _, d1, by rw [d2]; exact List.getElem?_eq_getElem hil⟩
end
end DT

/-! ST3: adding to a set of nested tuples; set(xs). -/
namespace DT
open PySem PySem.Spec PyProof.Rows L2
section
variable {P : Program} {w : World} {A : Around} {E : Value → Shared → Prop} {s : Shared} {a : Addr} {L : List Row} {es : Array (Int × Value)} {ep : Nat} {t : SetTable}
theorem keep_set {h h' : Heap} {o : Obj} (ho : h.get? a = some o) (hd : o.data = .set es ep t) (sb : Heap.SameBut a h h') {k : NestedKey} {b : Addr} (x : KeyAt h k b) : KeyAt h' k b :=
  x.keep fun c u vs n e d => by
    refine (sb.2 c fun z => ?_).trans e
    subst z
    rw [ho] at e
    cases e
    rw [hd] at d
    cases d
/-- entries taken by their places, a rearrangement of all -/
theorem by_order (hr : es.toList = rws w L) {order : Array Nat} (hp : order.toList.Perm (List.range L.length)) :
    ∃ L', L'.Perm L ∧ (order.filterMap (es[·]?)).toList = rws w L' ∧ (order.toList.map fun i => (es.map (·.1)).getD i 0) = hss w L' := by
  have inL : ∀ i ∈ order.toList, i < L.length := fun i hi => List.mem_range.mp (hp.mem_iff.mp hi)
  have at_ : ∀ i (h : i < L.length), es[i]? = some ((L[i]).2.hash w, Value.ref (L[i]).1) := fun i h => by
    rw [← Array.getElem?_toList, hr]
    unfold rws
    rw [List.getElem?_map, List.getElem?_eq_getElem h]
    rfl
  refine ⟨order.toList.filterMap (L[·]?), ?_, ?_, ?_⟩
  · have z : (List.range L.length).filterMap (L[·]?) = L := by
      refine List.ext_getElem? fun i => ?_
      have e : (List.range L.length).filterMap (L[·]?) = (List.range L.length).pmap (fun i h => L[i]'h) (fun i hi => List.mem_range.mp hi) := by
        have gen : ∀ l : List Nat, (h : ∀ i ∈ l, i < L.length) → l.filterMap (L[·]?) = l.pmap (fun i h => L[i]'h) h := by
          intro l
          induction l with
          | nil => intro _; rfl
          | cons x l ih =>
            intro h
            rw [List.filterMap_cons_some (List.getElem?_eq_getElem (h x List.mem_cons_self)), ih fun i hi => h i (List.mem_cons_of_mem _ hi)]
            rfl
        exact gen _ _
      rw [e, List.getElem?_pmap]
      rcases Nat.lt_or_ge i L.length with c | c
      · simp [List.getElem?_range c, List.getElem?_eq_getElem c]
      · have c2 : (List.range L.length).length ≤ i := by simpa using c
        simp [c]
    have q := hp.filterMap (L[·]?)
    rw [z] at q
    exact q
  · have gen : ∀ l : List Nat, (∀ i ∈ l, i < L.length) → l.filterMap (es[·]?) = rws w (l.filterMap (L[·]?)) := by
      intro l
      induction l with
      | nil => intro _; rfl
      | cons x l ih =>
        intro h
        have hx := h x List.mem_cons_self
        rw [List.filterMap_cons_some (at_ x hx), List.filterMap_cons_some (List.getElem?_eq_getElem hx), ih fun i hi => h i (List.mem_cons_of_mem _ hi)]
        rfl
    rw [← gen _ inL]
    simp
  · have gen : ∀ l : List Nat, (∀ i ∈ l, i < L.length) → (l.map fun i => (es.map (·.1)).getD i 0) = hss w (l.filterMap (L[·]?)) := by
      intro l
      induction l with
      | nil => intro _; rfl
      | cons x l ih =>
        intro h
        have hx := h x List.mem_cons_self
        have e : (es.map (·.1)).getD x 0 = (L[x]).2.hash w := by
          have e2 : (es.map (·.1))[x]? = some ((L[x]).2.hash w) := by rw [Array.getElem?_map, at_ x hx]; rfl
          rw [Array.getD_eq_getD_getElem?, e2]
          rfl
        rw [List.map_cons, e, List.filterMap_cons_some (List.getElem?_eq_getElem hx), ih fun i hi => h i (List.mem_cons_of_mem _ hi)]
        rfl
    exact gen _ inL
/-- the table laid anew -/
theorem relay_in {o : Obj} (ho : s.heap.get? a = some o) (hex : o.ExactSet) (hd : o.data = .set es ep t) (F : Full w L es t) (hfl : L.length ≤ t.mask) (hk : ∀ p ∈ L, KeyAt s.heap p.2 p.1) {wanted M : Nat}
    (hw : SetTable.sizeAbove wanted = M + 1) (hM : Size M) (hn : L.length * 5 < M * 3) {Q : Unit → Shared → Prop}
    (hQ : ∀ h' L' es' ep' t', Heap.SameBut a s.heap h' → SetIn w h' a L' es' ep' t' → L'.Perm L → Q () { s with heap := h' }) : wpAny (model P w) A (setRelay a wanted) Q E s := by
  have hz := F.size_es
  obtain ⟨t', order, e, hp, T, em, el, epl⟩ := relaid (t := t) (hs := es.map (·.1)) (wanted := wanted) (M := M) (by omega) hM.pw (by rw [Array.size_map, hz]; omega)
  rw [Array.size_map, hz] at hp
  obtain ⟨L', pm, r1, r2⟩ := by_order F.rows hp
  rw [r2] at T
  have hz2 : (order.filterMap (es[·]?)).size = es.size := by rw [← Array.length_toList, r1, rws_len, pm.length_eq, hz]
  have hMl := hM.le
  have hfew := F.few
  rw [L2.setRelay_eq]
  refine wpAny_bind (wpAny_setState_of ho hd (F.fits hfl) ?_)
  dsimp only
  refine wp_if_neg (by rw [sizeLine_eq, hw]; omega) ?_
  try refine wpAny_bind (wpAny_pure ?_)
  rw [e]
  dsimp only
  refine wpAny_bind (wp_if_neg (by rw [hz2]; simp) ?_)
  try refine wpAny_bind (wpAny_pure ?_)
  refine wpAny_pure ?_
  dsimp only
  refine wpAny_storeSet_of ho hd ?_ (by rw [hz2, hz, sizeLine_eq]; omega)
  have sb : Heap.SameBut a s.heap (s.heap.update a (Obj.putSet (order.filterMap (es[·]?)) t')) := Heap.SameBut.update ..
  exact hQ _ L' _ (ep + 1) t' sb ⟨⟨_, store_at ho hd, ⟨hex.1, hex.2.1, hex.2.2⟩, rfl⟩, ⟨r1, T, (pm.map (·.2)).nodup_iff.mpr F.nd, by rw [el]; exact F.led, by rw [epl]; exact F.plain, by rw [em]; exact hM, by rw [pm.length_eq]; exact hfew⟩,
    by rw [pm.length_eq, em]; exact hn, fun p hpm => keep_set ho hd sb (hk p (pm.mem_iff.mp hpm))⟩ pm
theorem grows {m n : Nat} (hm : Size m) (h1 : n * 5 < m * 3) (h2 : (n + 1) * 5 ≥ m * 3) (h3 : n + 1 ≤ 1228) : ∃ M, SetTable.sizeAbove (SetTable.grown (n + 1)) = M + 1 ∧ Size M ∧ (n + 1) * 5 < M * 3 := by
  rcases hm with e | e | e | e | e
  · obtain rfl : n = 4 := by omega
    exact ⟨31, by decide +kernel, .inr (.inl rfl), by decide⟩
  · obtain rfl : n = 18 := by omega
    exact ⟨127, by decide +kernel, .inr (.inr (.inl rfl)), by decide⟩
  · obtain rfl : n = 76 := by omega
    exact ⟨511, by decide +kernel, .inr (.inr (.inr (.inl rfl))), by decide⟩
  · obtain rfl : n = 306 := by omega
    exact ⟨2047, by decide +kernel, .inr (.inr (.inr (.inr rfl))), by decide⟩
  · omega
theorem ins_perm {α : Type} (l : List α) (p : Nat) (x : α) : (l.take p ++ x :: l.drop p).Perm (x :: l) := by
  refine List.perm_middle.trans ?_
  rw [List.take_append_drop]
/-- add -/
theorem add_in (R : SetIn w s.heap a L es ep t) {x : Addr} {k : NestedKey} (hx : KeyAt s.heap k x) (hu : A.units + 8 < cLine) (hf : L.length < 1228) {Q : Bool → Shared → Prop}
    (hQ : ∀ b h' L' es' ep' t', Heap.SameBut a s.heap h' → SetIn w h' a L' es' ep' t' → (k ∈ L.map (·.2) → L' = L) → (k ∉ L.map (·.2) → L'.Perm ((x, k) :: L)) → Q b { s with heap := h' }) :
    wpAny (model P w) A (setAddHashed a (.ref x) (k.hash w)) Q E s := by
  obtain ⟨o, ho, hex, hd⟩ := R.ob
  have hz := R.full.size_es
  have hroom := R.room
  unfold setAddHashed
  refine wpAny_holding ?_
  rw [show (100000 : Nat) = 99999 + 1 from rfl, L2.setAddHashedIn_succ]
  refine wpAny_bind (wpAny_setState_of ho hd R.fits ?_)
  dsimp only
  refine wp_if_neg (by simp [byScan, Value.scannable]) ?_
  try refine wpAny_bind (wpAny_pure ?_)
  refine wpAny_bind (search_at R hx hu (fun hm r => ?_) fun K hm hK hb => ?_)
  · dsimp only
    exact wpAny_pure (hQ false s.heap L es ep t (Heap.SameBut.refl a s.heap) R (fun _ => rfl) fun z => absurd hm z)
  · dsimp only
    refine wpAny_bind (wpAny_setState_of ho hd R.fits ?_)
    dsimp only
    obtain ⟨p, hp⟩ : ∃ p, SetTable.below t.place (L2.way t.mask (k.hash w) K) = p := ⟨_, rfl⟩
    obtain ⟨q1, q2, q3⟩ := R.full.tab.put hK hb hp
    have q4 : (t.put (L2.way t.mask (k.hash w) K)).2 = p := hp
    have q5 : (t.put (L2.way t.mask (k.hash w) K)).1.plain = true := R.full.plain
    have q6 : (t.put (L2.way t.mask (k.hash w) K)).1.led = t.led := rfl
    have q7 : (t.put (L2.way t.mask (k.hash w) K)).1.mask = t.mask := rfl
    generalize t.put (L2.way t.mask (k.hash w) K) = pt at q2 q3 q4 q5 q6 q7 ⊢
    obtain ⟨t1, p1⟩ := pt
    dsimp only at q2 q3 q4 q5 q6 q7 ⊢
    subst q4
    have hv := (asks_key (P := P) (w := w) k _ 8 s hx.is hx.nm hx.dp).1
    first
      | (refine wpAny_bind ?_; refine wp_if_pos q5 ?_; refine hv _ _ _ ?_)
      | refine wp_if_pos q5 (wpAny_bind (hv _ _ _ ?_))
    simp only [if_true]
    obtain ⟨L1, eL⟩ : ∃ L1, L1 = L.take p1 ++ (x, k) :: L.drop p1 := ⟨_, rfl⟩
    have pm : L1.Perm ((x, k) :: L) := by rw [eL]; exact ins_perm L p1 (x, k)
    have hl1 : L1.length = L.length + 1 := pm.length_eq
    have er : (SetTable.insertAt es p1 (k.hash w, Value.ref x)).toList = rws w L1 := by
      rw [SetTable.toList_insertAt, R.full.rows, eL]
      unfold rws
      rw [List.map_append, List.map_cons, List.map_take, List.map_drop]
    have eh : (hss w L).take p1 ++ k.hash w :: (hss w L).drop p1 = hss w L1 := by
      rw [eL]
      unfold hss
      rw [List.map_append, List.map_cons, List.map_take, List.map_drop]
    rw [eh] at q2
    rw [hss_len] at q3
    generalize SetTable.insertAt es p1 (k.hash w, Value.ref x) = es1 at er ⊢
    have F1 : Full w L1 es1 t1 := ⟨er, q2, by
      refine (pm.map (·.2)).nodup_iff.mpr ?_
      rw [List.map_cons]
      exact List.nodup_cons.mpr ⟨hm, R.full.nd⟩, by rw [q6]; exact R.full.led, q5, by rw [q7]; exact R.full.size, by omega⟩
    refine wpAny_bind (wpAny_storeSet_of ho hd ?_ (by rw [F1.size_es, sizeLine_eq]; omega))
    have sb : Heap.SameBut a s.heap (s.heap.update a (Obj.putSet es1 t1)) := Heap.SameBut.update ..
    have ho1 := store_at (es' := es1) (t' := t1) ho hd
    generalize s.heap.update a (Obj.putSet es1 t1) = h1 at sb ho1 ⊢
    have keys1 : ∀ q ∈ L1, KeyAt h1 q.2 q.1 := fun q hq => by
      rcases List.mem_cons.mp (pm.mem_iff.mp hq) with e | hq
      · rw [e]; exact keep_set ho hd sb hx
      · exact keep_set ho hd sb (R.keys q hq)
    by_cases hfu : t1.tooFull = true
    · have hge : (L.length + 1) * 5 ≥ t.mask * 3 := by
        have z := hfu
        unfold SetTable.tooFull at z
        rwa [decide_eq_true_eq, q3, q7] at z
      obtain ⟨M, m1, m2, m3⟩ := grows R.full.size hroom hge hf
      first
        | (refine wpAny_bind ?_; refine wp_if_pos (by simp [hfu]) ?_)
        | (refine wp_if_pos (by simp [hfu]) ?_; refine wpAny_bind ?_)
      rw [hz]
      refine relay_in (s := { s with heap := h1 }) ho1 ⟨hex.1, hex.2.1, hex.2.2⟩ rfl F1 (by rw [q7, hl1]; omega) keys1 m1 m2 (by rw [hl1]; exact m3) fun h2 L2 es2 ep2 t2 sb2 R2 pm2 => ?_
      exact wpAny_pure (hQ true h2 L2 es2 ep2 t2 (sb.trans sb2) R2 (fun z => absurd z hm) fun _ => pm2.trans pm)
    · first
        | refine wp_if_neg (by simp [hfu]) ?_
        | (refine wpAny_bind ?_; refine wp_if_neg (by simp [hfu]) ?_; refine wpAny_pure ?_)
      refine wpAny_pure (hQ true h1 L1 es1 (ep + 1) t1 sb ⟨⟨_, ho1, ⟨hex.1, hex.2.1, hex.2.2⟩, rfl⟩, F1, ?_, keys1⟩ (fun z => absurd z hm) fun _ => pm)
      have z := hfu
      unfold SetTable.tooFull at z
      rw [decide_eq_true_eq, q3] at z
      rw [hl1]
      omega
/-- what a set has of the first i rows of ks -/
structure Has (ks : List Row) (i : Nat) (L : List Row) : Prop where
  sub : ∀ p ∈ L, p ∈ ks.take i
  all : ∀ p ∈ ks.take i, p.2 ∈ L.map (·.2)
  len : L.length ≤ i
theorem Has.next {ks L L' : List Row} {i : Nat} {x : Row} (g : Has ks i L) (h : ks[i]? = some x) (c1 : x.2 ∈ L.map (·.2) → L' = L) (c2 : x.2 ∉ L.map (·.2) → L'.Perm (x :: L)) : Has ks (i + 1) L' := by
  have tk : ks.take (i + 1) = ks.take i ++ [x] := by rw [List.take_succ, h]; rfl
  by_cases c : x.2 ∈ L.map (·.2)
  · rw [c1 c]
    refine ⟨fun p hp => by rw [tk]; exact List.mem_append_left _ (g.sub p hp), fun p hp => ?_, Nat.le_succ_of_le g.len⟩
    rw [tk] at hp
    rcases List.mem_append.mp hp with z | z
    · exact g.all p z
    · rw [List.mem_singleton.mp z]; exact c
  · have pm := c2 c
    refine ⟨fun p hp => ?_, fun p hp => (pm.map (·.2)).mem_iff.mpr ?_, by rw [pm.length_eq]; exact Nat.succ_le_succ g.len⟩
    · rw [tk]
      rcases List.mem_cons.mp (pm.mem_iff.mp hp) with z | z
      · rw [z]; exact List.mem_append_right _ List.mem_cons_self
      · exact List.mem_append_left _ (g.sub p z)
    · rw [List.map_cons]
      rw [tk] at hp
      rcases List.mem_append.mp hp with z | z
      · exact List.mem_cons_of_mem _ (g.all p z)
      · rw [List.mem_singleton.mp z]; exact List.mem_cons_self
theorem SetIn.still {h h' : Heap} (R : SetIn w h a L es ep t) (ha : ∀ o, h.get? a = some o → h'.get? a = some o) (hk : ∀ p ∈ L, KeyAt h' p.2 p.1) : SetIn w h' a L es ep t := by
  obtain ⟨o, ho, r⟩ := R.ob
  exact ⟨⟨o, ha o ho, r⟩, R.full, R.room, hk⟩
/-- the object of a new set -/
abbrev newSet (w : World) : Obj := { cls := .type "set", dict := none, data := .set #[] 0 (.fresh 0 0 (!w.params.followText "set-order")) }
theorem SetIn.new {h : Heap} (ho : h.get? a = some (newSet w)) : SetIn w h a [] #[] 0 (.fresh 0 0 (!w.params.followText "set-order")) where
  ob := ⟨_, ho, ⟨rfl, rfl, rfl⟩, rfl⟩
  full := ⟨rfl, ⟨List.Pairwise.nil, rfl, rfl, pw7, fun x hx => (by cases hx), fun i h j e => by simp [hss] at e⟩, List.nodup_nil, by
    show _ ∨ (!w.params.followText "set-order") = true
    cases w.params.followText "set-order"
    · exact .inr rfl
    · exact .inl rfl, rfl, .inl rfl, Nat.zero_le _⟩
  room := by show 0 * 5 < 7 * 3; decide
  keys := fun p hp => nomatch hp
/-- the loop of set.update -/
theorem loop_in {I : Addr} {fp wr : List Addr} {G : Array GenState → Array GenState → Prop} {n : Nat} {Pv : Nat → Value → Prop} {St : Nat → Shared → Prop} {R : Result → Shared → Prop}
    (W : WalksS P w A.in1 I fp wr G n Pv St) (S : Addr) (hSf : S ∉ fp) (ks : List Row) (hn : n = ks.length) (hfew : ks.length ≤ 1228) (hval : ∀ i v, Pv i v → ∃ p, ks[i]? = some p ∧ v = .ref p.1)
    (h0 : Heap) (hk : ∀ p ∈ ks, KeyAt h0 p.2 p.1) (hS0 : h0.get? S = none) (hw0 : ∀ b ∈ wr, h0.get? b = none) (hu : A.in1.units + 8 < cLine) :
    ∀ (k i : Nat) (s : Shared), n - i = k → i ≤ n → St i s → (∀ b o, h0.get? b = some o → s.heap.get? b = some o) → (∃ L es ep t, SetIn w s.heap S L es ep t ∧ Has ks i L) →
      (∀ s' L es ep t, Moved (S :: wr) G s s' → SetIn w s'.heap S L es ep t → Has ks n L → (∀ b o, h0.get? b = some o → s'.heap.get? b = some o) → R (.ok (.ret .none)) s') →
      codeAny (model P w) A (.builtin "set.update.loop" ⟨[.ref S, .ref I], []⟩) R s := by
  have hSw : S ∉ wr := fun h => hSf (W.sub _ h)
  have hsub : ∀ b ∈ wr, b ∈ S :: wr := fun b hb => List.mem_cons_of_mem _ hb
  have old : ∀ {s s' : Shared}, Moved wr G s s' → (∀ b o, h0.get? b = some o → s.heap.get? b = some o) → ∀ b o, h0.get? b = some o → s'.heap.get? b = some o := fun hm hkp b o e =>
    hm.heap b o (fun hb => by rw [hw0 b hb] at e; cases e) (hkp b o e)
  have key : ∀ {h : Heap}, (∀ b o, h0.get? b = some o → h.get? b = some o) → ∀ {i L}, Has ks i L → ∀ p ∈ L, KeyAt h p.2 p.1 := fun hkp _ _ g p hp => (hk p (List.mem_of_mem_take (g.sub p hp))).keep fun b o _ _ e _ => hkp b o e
  intro k
  induction k with
  | zero =>
    intro i s hk' hi hst hkp ⟨L, es, ep, t, hS, g⟩ hR
    obtain rfl : i = n := by omega
    refine codeAny_builtin F.entry_set_update_loop ?_
    rw [Around.under_plainId F.plain_set_update_loop _]
    show wpAny _ A.in1 (pyNext (.ref I) >>= _) _ _ s
    refine wpAny_bind (W.done s _ _ hst fun s' hm => ?_)
    have k2 := old hm hkp
    exact wpAny_pure (hR s' L es ep t (hm.mono hsub) (hS.still (fun o e => hm.heap S o hSw e) (key k2 g)) g k2)
  | succ k ih =>
    intro i s hk' hi hst hkp ⟨L, es, ep, t, hS, g⟩ hR
    have hlt : i < n := by omega
    refine codeAny_builtin F.entry_set_update_loop ?_
    rw [Around.under_plainId F.plain_set_update_loop _]
    show wpAny _ A.in1 (pyNext (.ref I) >>= _) _ _ s
    refine wpAny_bind (W.item i s _ _ hlt hst fun v s1 hP hst1 hm => ?_)
    obtain ⟨p, hp, rfl⟩ := hval i v hP
    have k1 := old hm hkp
    have hS1 : SetIn w s1.heap S L es ep t := hS.still (fun o e => hm.heap S o hSw e) (key k1 g)
    have hx : KeyAt s1.heap p.2 p.1 := (hk p (List.mem_of_getElem? hp)).keep fun b o _ _ e _ => k1 b o e
    show wpAny _ A.in1 (holding [Value.ref p.1] (setAdd S (.ref p.1)) >>= _) _ _ s1
    refine wpAny_bind (wpAny_holding ?_)
    unfold setAdd
    refine wpAny_holding (wpAny_bind (hx.hashed hu ?_))
    refine add_in (s := { s1 with toks := s1.toks + p.2.draws }) hS1 hx hu (by have := g.len; omega) fun b h2 L2 es2 ep2 t2 sb hS2 c1 c2 => ?_
    have k2 : ∀ b o, h0.get? b = some o → h2.get? b = some o := fun b o e => (sb.2 b (fun z => by rw [z, hS0] at e; cases e)).trans (k1 b o e)
    refine wpAny_pure ⟨plainId_quiet F.plain_set_update_loop _, ih (i + 1) _ (by omega) hlt (W.frame _ s1 _ _ hst1 (Nat.le_add_right _ _) fun b hb o e => ?_) k2 ⟨L2, es2, ep2, t2, hS2, g.next hp c1 c2⟩ fun s3 L3 es3 ep3 t3 hm3 hS3 g3 k3 => ?_⟩
    · rw [sb.2 b fun z => hSf (by rw [← z]; exact hb)]; exact e
    · refine hR s3 L3 es3 ep3 t3 (Moved.trans W.gtrans ((hm.mono hsub).then_heap (Nat.le_add_right _ _) fun b o hb e => ?_) hm3) hS3 g3 k3
      rw [sb.2 b fun z => hb (by rw [z]; exact List.mem_cons_self)]; exact e
end
end DT

/-! ST4: set(xs), sorted of such a set. -/
namespace DT
open PySem PySem.Spec PyProof.Rows L2 DL

/-! ### data that are keys -/
mutual
/-- whole numbers and tuples, place by place -/
def likeD : D → D → Bool
  | .int _, .int _ => true
  | .tup xs, .tup ys => likeDs xs ys
  | _, _ => false
def likeDs : List D → List D → Bool
  | x :: xs, y :: ys => likeD x y && likeDs xs ys
  | [], _ => true
  | _ :: _, [] => true
end
mutual
def keyD : D → NestedKey
  | .int i => .num i
  | .tup xs => .tup (keyDs xs)
  | _ => .none
def keyDs : List D → List NestedKey
  | [] => []
  | x :: xs => keyD x :: keyDs xs
end
mutual
def datD : D → PyData
  | .int i => .int i
  | .tup xs => .tuple (datDs xs)
  | _ => .none
def datDs : List D → List PyData
  | [] => []
  | x :: xs => datD x :: datDs xs
end
mutual
def depD : D → Nat
  | .tup xs => depDs xs + 1
  | _ => 0
def depDs : List D → Nat
  | [] => 0
  | x :: xs => max (depD x) (depDs xs)
end
/-- Python's x < y for such data -/
def ltD (x y : D) : Bool := PySem.W.dataLt (datD x) (datD y)
mutual
inductive Tree (h : Heap) : D → Value → Prop
  | int (i : Int) (t : Tok) : Tree h (.int i) (.int i t)
  | tup {a o vs n ds} : h.get? a = some o → o.cls = .type "tuple" → o.data = .seq vs n → Trees h ds vs.toList → Tree h (.tup ds) (.ref a)
inductive Trees (h : Heap) : List D → List Value → Prop
  | nil : Trees h [] []
  | cons {d v ds vs} : Tree h d v → Trees h ds vs → Trees h (d :: ds) (v :: vs)
end
mutual
theorem Tree.keep {h h' : Heap} (hk : ∀ b o, h.get? b = some o → h'.get? b = some o) : ∀ {d : D} {v : Value}, Tree h d v → Tree h' d v
  | _, _, .int i t => .int i t
  | _, _, .tup a b c r => .tup (hk _ _ a) b c (Trees.keep hk r)
theorem Trees.keep {h h' : Heap} (hk : ∀ b o, h.get? b = some o → h'.get? b = some o) : ∀ {ds : List D} {vs : List Value}, Trees h ds vs → Trees h' ds vs
  | _, _, .nil => .nil
  | _, _, .cons r t => .cons (Tree.keep hk r) (Trees.keep hk t)
end
mutual
theorem Tree.nested {h : Heap} : ∀ {d : D} {v : Value}, Tree h d v → NestedIs h (keyD d) v
  | _, _, .int i t => .int i t
  | _, _, .tup a b c r => .tup a b c (Trees.nested r)
theorem Trees.nested {h : Heap} : ∀ {ds : List D} {vs : List Value}, Trees h ds vs → NestedAll h (keyDs ds) vs
  | _, _, .nil => .nil
  | _, _, .cons r t => .cons (Tree.nested r) (Trees.nested t)
end
mutual
theorem Tree.reads {h : Heap} : ∀ {d : D} {v : Value}, Tree h d v → ∃ as, Reads h v (datD d) as
  | _, _, .int i t => ⟨_, .int i t⟩
  | _, _, .tup a b c r => let ⟨as, q⟩ := Trees.reads r; ⟨as, .tuple a b c q⟩
theorem Trees.reads {h : Heap} : ∀ {ds : List D} {vs : List Value}, Trees h ds vs → ∃ as, ReadsAll h vs (datDs ds) as
  | _, _, .nil => ⟨_, .nil⟩
  | _, _, .cons r t => let ⟨_, q⟩ := Tree.reads r; let ⟨_, u⟩ := Trees.reads t; ⟨_, .cons q u⟩
end
mutual
theorem Tree.nums {h : Heap} : ∀ {d : D} {v : Value}, Tree h d v → DT.nums (keyD d) = true
  | _, _, .int i t => rfl
  | _, _, .tup a b c r => by rw [keyD, DT.nums]; exact Trees.nums r
theorem Trees.nums {h : Heap} : ∀ {ds : List D} {vs : List Value}, Trees h ds vs → DT.numsAll (keyDs ds) = true
  | _, _, .nil => rfl
  | _, _, .cons r t => by rw [keyDs, DT.numsAll, Tree.nums r, Trees.nums t]; rfl
end
mutual
theorem Tree.dep {h : Heap} : ∀ {d : D} {v : Value}, Tree h d v → (keyD d).depth = depD d ∧ (datD d).depth = depD d
  | _, _, .int i t => ⟨rfl, rfl⟩
  | _, _, .tup a b c r => by
    have q := Trees.dep r
    exact ⟨by rw [keyD, NestedKey.depth, q.1, depD], by rw [datD, PyData.depth, q.2, depD]⟩
theorem Trees.dep {h : Heap} : ∀ {ds : List D} {vs : List Value}, Trees h ds vs → NestedKey.depthAll (keyDs ds) = depDs ds ∧ PyData.depthAll (datDs ds) = depDs ds
  | _, _, .nil => ⟨rfl, rfl⟩
  | _, _, .cons r t => by
    have q := Tree.dep r
    have u := Trees.dep t
    exact ⟨by rw [keyDs, NestedKey.depthAll, q.1, u.1, depDs], by rw [datDs, PyData.depthAll, q.2, u.2, depDs]⟩
end
mutual
theorem Tree.inj {h : Heap} : ∀ {d e : D} {v u : Value}, Tree h d v → Tree h e u → keyD d = keyD e → d = e
  | _, _, _, _, .int i t, .int j u, e => by rw [keyD, keyD] at e; cases e; rfl
  | _, _, _, _, .int i t, .tup .., e => by rw [keyD, keyD] at e; cases e
  | _, _, _, _, .tup .., .int i t, e => by rw [keyD, keyD] at e; cases e
  | _, _, _, _, .tup _ _ _ r, .tup _ _ _ q, e => by
    rw [keyD, keyD] at e
    injection e with e
    rw [Trees.inj r q e]
theorem Trees.inj {h : Heap} : ∀ {ds es : List D} {vs us : List Value}, Trees h ds vs → Trees h es us → keyDs ds = keyDs es → ds = es
  | _, _, _, _, .nil, .nil, _ => rfl
  | _, _, _, _, .nil, .cons .., e => by rw [keyDs, keyDs] at e; cases e
  | _, _, _, _, .cons .., .nil, e => by rw [keyDs, keyDs] at e; cases e
  | _, _, _, _, .cons r t, .cons q u, e => by
    rw [keyDs, keyDs] at e
    injection e with e1 e2
    rw [Tree.inj r q e1, Trees.inj t u e2]
end
mutual
theorem like_alike : ∀ {d e : D}, likeD d e = true → PySem.W.alike (datD d) (datD e) = true
  | .int _, .int _, _ => rfl
  | .tup xs, .tup ys, h => by
    rw [likeD] at h
    rw [datD, datD, PySem.W.alike]
    exact likes_alike h
  | .non, _, h | .bl _, _, h | .str _, _, h | .scr _, _, h | .frz _, _, h | .ref _, _, h => by simp [likeD] at h
  | .int _, .non, h | .int _, .bl _, h | .int _, .str _, h | .int _, .tup _, h | .int _, .scr _, h | .int _, .frz _, h | .int _, .ref _, h => by simp [likeD] at h
  | .tup _, .non, h | .tup _, .bl _, h | .tup _, .str _, h | .tup _, .int _, h | .tup _, .scr _, h | .tup _, .frz _, h | .tup _, .ref _, h => by simp [likeD] at h
theorem likes_alike : ∀ {ds es : List D}, likeDs ds es = true → PySem.W.alikeAll (datDs ds) (datDs es) = true
  | [], _, _ => by rw [datDs, PySem.W.alikeAll]
  | _ :: _, [], _ => by rw [datDs, datDs, PySem.W.alikeAll]
  | x :: xs, y :: ys, h => by
    rw [likeDs, Bool.and_eq_true] at h
    rw [datDs, datDs, PySem.W.alikeAll, like_alike h.1, likes_alike h.2]
    rfl
end
/-- rows of data: an address and what stands there -/
abbrev DRow := Addr × D
def rowK (z : DRow) : Row := (z.1, keyD z.2)
theorem perm_lift {α β : Type} (f : α → β) {xs ys : List β} (p : xs.Perm ys) : ∀ l : List α, ys = l.map f → ∃ l' : List α, l'.Perm l ∧ xs = l'.map f := by
  induction p with
  | nil => intro l e; exact ⟨l, List.Perm.refl _, e⟩
  | cons x _ ih =>
    intro l e
    cases l with
    | nil => cases e
    | cons y l =>
      injection e with e1 e2
      obtain ⟨l', p', e'⟩ := ih l e2
      exact ⟨y :: l', p'.cons y, by rw [e', e1]; rfl⟩
  | swap x y l =>
    intro m e
    match m, e with
    | a :: b :: m, e =>
      injection e with e1 e
      injection e with e2 e3
      exact ⟨b :: a :: m, List.Perm.swap a b m, by rw [e1, e2, e3]; rfl⟩
  | trans _ _ ih1 ih2 =>
    intro l e
    obtain ⟨l2, p2, e2⟩ := ih2 l e
    obtain ⟨l1, p1, e1⟩ := ih1 l2 e2
    exact ⟨l1, p1.trans p2, e1⟩
section
variable {P : Program} {w : World} {A : Around} {E : Value → Shared → Prop} {s : Shared}
set_option maxHeartbeats 6400000 in
/-- set(xs), xs a list -/
theorem set_of {l : Addr} {items : Array Value} (ks : List Row) {Q : Value → Shared → Prop} (hh : A.handled = none) (hl : s.heap.IsList l items) (hit : items.toList = ks.map fun p => Value.ref p.1)
    (hk : ∀ p ∈ ks, KeyAt s.heap p.2 p.1) (hfew : ks.length ≤ 1228) (hu : A.units + 16 < cLine)
    (h : ∀ (h' : Heap) (tk : Nat) L es ep t, SetIn w h' s.heap.objs.size L es ep t → Has ks ks.length L → (∀ b o, s.heap.get? b = some o → h'.get? b = some o) → Q (.ref s.heap.objs.size) { s with heap := h', toks := tk }) :
    wpAny (model P w) A (call (.type "set") [.ref l]) Q E s := by
  have hz : items.size = ks.length := by rw [← Array.length_toList, hit, List.length_map]
  have hlS : l < s.heap.objs.size := let ⟨_, e, _⟩ := hl; Heap.lt_size e
  have gone : ∀ b, s.heap.objs.size ≤ b → s.heap.get? b = none := fun b hb => by
    cases q : s.heap.get? b with
    | none => rfl
    | some o => exact absurd (Heap.lt_size q) (Nat.not_lt.mpr hb)
  obtain ⟨c, tl, hmro⟩ := F.called_set.mro
  have hmade := F.called_set.made
  have hsub := F.called_set.sub
  refine wpAny_call (codeAny_of_tree ?_)
  show wpAny _ _ (callAny (.type "set") _) _ _ _
  refine wpAny_pure ⟨Code.quiet_builtin _ (by decide +kernel), codeAny_builtin F.entry_type_call ?_⟩
  rw [Around.under_plain (weight_type_call_type "set" [.ref l] []) rfl]
  have h1 := F.called_set.notType
  have h2 := F.called_set.canCreate
  have hct := F.typeCall_set_1 (.ref l)
  repeat (any_goals (first | assumption | wp_step))
  refine codeAny_mono (code_set_led1 (.ref l) (E := E) (Q₁ := fun obj s₁ => obj = .ref s.heap.objs.size ∧ s₁ = { s with heap := s.heap.push (newSet w) }) ⟨rfl, rfl⟩) fun r s₁ hr => ?_
  cases r with
  | error e => exact hr
  | ok fl =>
    cases fl with
    | ret obj =>
      obtain ⟨rfl, rfl⟩ := hr
      have hS : (s.heap.push (newSet w)).get? s.heap.objs.size = some (newSet w) := Heap.get?_push_size _ rfl
      have hT : Shared.TypeIs { s with heap := s.heap.push (newSet w) } (.ref s.heap.objs.size) "set" := ⟨_, hS, rfl⟩
      have hz1 : (s.heap.push (newSet w)).objs.size = s.heap.objs.size + 1 := Heap.size_push ..
      have hli := F.called_set.init.lookup
      have hbi := F.called_set.init.bind (.ref s.heap.objs.size)
      repeat (any_goals (first | assumption | wp_step))
      refine codeAny_mono (codeAny_call_builtin (R := wants (fun r s₂ => r = .none ∧ ∃ h' tk L es ep t, s₂ = { s with heap := h', toks := tk } ∧ SetIn w h' s.heap.objs.size L es ep t ∧ Has ks ks.length L ∧
          (∀ b o, s.heap.get? b = some o → h'.get? b = some o)) E) F.called_set.init.plain F.entry_set_init (check_set_init_1 hT ?_)) fun r₂ s₂ hr₂ => ?_
      · have hl1 : (s.heap.push (newSet w)).IsList l items := hl.push _
        obtain ⟨ol, hol, hcl, nl, hdl⟩ := hl
        obtain ⟨ocls, odict, odata, oslots⟩ := ol
        simp only at hcl hdl
        subst hcl; subst hdl
        have hol' : (s.heap.push (newSet w)).get? l = some { cls := .type "list", dict := odict, data := .seq items nl, slots := oslots } := Heap.get?_push_of_some _ hol
        have hsls := F.sub_list_set
        have hslf := F.sub_list_frozenset
        have hne : (Value.type "list" == Value.type "dict") = false := by decide
        unfold Builtin.«set.__init__» noKeywords Builtin.Frozenset.updateFrom
        generalize hPI : pyIter = PI
        wp_walk
        subst hPI
        refine wpAny_pyIter_list hl1 ?_
        refine wpAny_bind (wpAny_runValue ?_)
        have hne1 : l ≠ (s.heap.push (newSet w)).objs.size := by rw [hz1]; exact Nat.ne_of_lt (Nat.lt_succ_of_lt hlS)
        refine loop_in ((Walks.list (by simp [hh]) _ l hne1 items).toS) s.heap.objs.size (by
          rw [hz1]
          intro z
          rcases List.mem_cons.mp z with z | z
          · exact absurd z (Nat.ne_of_lt (Nat.lt_succ_self _))
          · exact absurd (List.mem_singleton.mp z) (Nat.ne_of_gt hlS)) ks hz hfew (fun i v hv => ?_) s.heap hk (gone _ (Nat.le_refl _)) (fun b hb => gone b ?_) (by simp only [Around.in1_units]; omega) (items.size - 0) 0 _ (by omega) (Nat.zero_le _)
          ⟨⟨_, Heap.get?_push_size _ rfl, rfl, rfl⟩, (hl1.push _)⟩ (fun b o e => Heap.get?_push_of_some _ (Heap.get?_push_of_some _ e)) ?_ fun s' L es ep t hm hS' g kp => ?_
        · have q : items.toList[i]? = some v := by rw [Array.getElem?_toList]; exact hv
          rw [hit, List.getElem?_map] at q
          obtain ⟨p, hp, e⟩ := Option.map_eq_some_iff.mp q
          exact ⟨p, hp, e.symm⟩
        · rw [List.mem_singleton.mp hb, hz1]; exact Nat.le_succ _
        · refine ⟨[], #[], 0, _, SetIn.new (Heap.get?_push_of_some _ hS), fun p hp => ?_, fun p hp => ?_, Nat.le_refl _⟩
          · cases hp
          · simp at hp
        · obtain ⟨h', g2, d', tk', os'⟩ := s'
          obtain rfl : g2 = s.gens := hm.gens
          obtain rfl : d' = s.drawn := hm.drawn
          obtain rfl : os' = s.os := hm.os
          show wpAny _ _ _ _ _ _
          refine wpAny_pure ?_
          show wpAny _ _ (ret Value.none) _ _ _
          rw [hz] at g
          exact wpAny_pure ⟨rfl, h', tk', L, es, ep, t, rfl, hS', g, kp⟩
      · cases r₂ with
        | error e => exact hr₂
        | ok fl₂ =>
          cases fl₂ with
          | ret r =>
            obtain ⟨rfl, h', tk, L, es, ep, t, rfl, hS', g, kp⟩ := hr₂
            repeat (any_goals (first | assumption | wp_step))
            exact h _ _ _ _ _ _ hS' g kp
          | _ => exact hr₂.elim
    | _ => exact hr.elim
theorem each_refs {Z : List DRow} {h : Heap} (hT : ∀ z ∈ Z, Tree h z.2 (.ref z.1)) : PySem.W.EachIs (fun v d => ∃ as, Reads h v d as) (Z.map fun z => Value.ref z.1) (Z.map fun z => datD z.2) := by
  induction Z with
  | nil => exact .nil
  | cons z Z ih => exact .cons (hT z List.mem_cons_self).reads (ih fun y hy => hT y (List.mem_cons_of_mem _ hy))
theorem refs_each : ∀ {vs : List Value} {Z : List DRow}, PySem.W.EachIs (fun v (z : DRow) => v = Value.ref z.1) vs Z → vs = Z.map fun z => Value.ref z.1
  | _, _, .nil => rfl
  | _, _, .cons e t => by rw [e, refs_each t]; rfl
theorem each_id : ∀ (Z : List DRow), PySem.W.EachIs (fun v (z : DRow) => v = Value.ref z.1) (Z.map fun z => Value.ref z.1) Z
  | [] => .nil
  | z :: Z => .cons rfl (each_id Z)
theorem each_refs' {Z : List DRow} {h : Heap} {vs : List Value} (e : vs = Z.map fun z => Value.ref z.1) (hT : ∀ z ∈ Z, Tree h z.2 (.ref z.1)) : PySem.W.EachIs (fun v d => ∃ as, Reads h v d as) vs (Z.map fun z => datD z.2) := by
  subst e; exact each_refs hT
theorem each_id' {Z : List DRow} {vs : List Value} (e : vs = Z.map fun z => Value.ref z.1) : PySem.W.EachIs (fun v (z : DRow) => v = Value.ref z.1) vs Z := by
  subst e; exact each_id Z
/-- sorted(set) -/
theorem sorted_of_set {a : Addr} {L : List Row} {es : Array (Int × Value)} {ep : Nat} {t : SetTable} {Q : Value → Shared → Prop} (R : SetIn w s.heap a L es ep t) (hh : A.handled = none) (hu : A.units + 16 < cLine)
    {Z : List DRow} (hL : L = Z.map rowK) (hT : ∀ z ∈ Z, Tree s.heap z.2 (.ref z.1)) (hlike : ∀ y ∈ Z, ∀ z ∈ Z, likeD y.2 z.2 = true) (hne : ∀ z ∈ Z, ∃ x r, z.2 = .tup (x :: r)) (hdp : ∀ z ∈ Z, depD z.2 ≤ 8)
    (hQ : ∀ s' p (out : Array Value) (c : Nat) (Z' : List DRow), (∀ b o, s.heap.get? b = some o → s'.heap.get? b = some o) → s'.gens = s.gens → s'.os = s.os → s.heap.objs.size ≤ p →
      s'.heap.get? p = some (seqObj "list" out c) → out.toList = Z'.map (fun z => Value.ref z.1) → Z'.Perm Z → Z'.Pairwise (fun y z => ltD z.2 y.2 = false) → Q (.ref p) s') :
    wpAny (model P w) A (call (.builtin "sorted") [.ref a]) Q E s := by
  obtain ⟨o, ho, hex, hd⟩ := R.ob
  have hz := R.full.size_es
  have hfew := R.full.few
  refine Calls.call_function_entry kind_sorted plain_sorted entry_sorted (args_sorted1 _) ?_
  unfold Builtin.«sorted»
  refine wpAny_bind (m := checkCount "sorted" 1 1 _) (wpAny_pure ?_)
  refine wpAny_bind (collect_set (A := A.in1) hh ⟨o, ho, hex.1, hd⟩ R.fits (by unfold scanBound; omega) R.full.tab.ris R.full.led fun s1 vs k1 hz1 g1 o1 pm => ?_)
  have hes : es.toList.map (·.2) = Z.map fun z => Value.ref z.1 := by
    rw [R.full.rows, hL]
    unfold rws
    rw [List.map_map, List.map_map]
    rfl
  rw [hes] at pm
  obtain ⟨Z1, p1, e1⟩ := perm_lift (fun z : DRow => Value.ref z.1) pm Z rfl
  have hvl : vs.length = L.length := by rw [pm.length_eq, hL, List.length_map, List.length_map]
  refine wpAny_bind (wpAny_newList ?_ (by rw [sizeLine_eq]; omega))
  have hoL : (s1.heap.push (seqObj "list" vs.toArray 0)).get? s1.heap.objs.size = some (seqObj "list" vs.toArray 0) := Heap.get?_push_size _ rfl
  have k2 : ∀ b o, s.heap.get? b = some o → (PySem.W.sortingHeap (s1.heap.push (seqObj "list" vs.toArray 0)) s1.heap.objs.size vs).get? b = some o := fun b o e =>
    PySem.W.sortingHeap_old (Nat.ne_of_lt (Heap.lt_size (k1 b o e))) (Heap.get?_push_of_some _ (k1 b o e))
  have t1 : ∀ z ∈ Z1, Tree (PySem.W.sortingHeap (s1.heap.push (seqObj "list" vs.toArray 0)) s1.heap.objs.size vs) z.2 (.ref z.1) := fun z hz => (hT z (p1.mem_iff.mp hz)).keep k2
  have al : PySem.W.AllAlike (Z1.map fun z => datD z.2) := fun d hd d' hd' => by
    obtain ⟨y, hy, rfl⟩ := List.mem_map.mp hd
    obtain ⟨z, hz, rfl⟩ := List.mem_map.mp hd'
    exact like_alike (hlike y (p1.mem_iff.mp hy) z (p1.mem_iff.mp hz))
  have S : PySem.W.SortsAt P w A.in1.in1 { s1 with heap := PySem.W.sortingHeap (s1.heap.push (seqObj "list" vs.toArray 0)) s1.heap.objs.size vs } (PySem.W.dataKind (PySem.W.sortingHeap (s1.heap.push (seqObj "list" vs.toArray 0)) s1.heap.objs.size vs) (Z1.map fun z => datD z.2)) vs := by
    refine PySem.W.SortsAt.data (each_refs' e1 t1) al (.inl fun d hd => ?_) fun d hd => ?_
    · obtain ⟨z, hz, rfl⟩ := List.mem_map.mp hd
      obtain ⟨x, r, e⟩ := hne z (p1.mem_iff.mp hz)
      exact ⟨datD x, datDs r, by rw [e, datD, datDs]⟩
    · obtain ⟨z, hz, rfl⟩ := List.mem_map.mp hd
      have q := hdp z (p1.mem_iff.mp hz)
      rw [(t1 z hz).dep.2]
      simp only [Around.in1_units]
      omega
  refine wpAny_bind (wpAny_holding (wpAny_call_entry slot_list_sort ⟨_, hoL, rfl⟩ entry_list_sort (PySem.W.list_sort_vals (s := { s1 with heap := s1.heap.push (seqObj "list" vs.toArray 0) }) hoL S (by rw [sizeLine_eq]; omega) ⟨_, rfl, ?_⟩) (args_list_sort _)))
  have ke : PySem.W.EachIs (fun v (z : DRow) => (PySem.W.dataKind (PySem.W.sortingHeap (s1.heap.push (seqObj "list" vs.toArray 0)) s1.heap.objs.size vs) (Z1.map fun z => datD z.2)).keyOf v = some (PySem.W.keyToks (datD z.2))) vs Z1 := by
    have gen : ∀ Y : List DRow, (∀ z ∈ Y, z ∈ Z1) → PySem.W.EachIs (fun v (z : DRow) => (PySem.W.dataKind (PySem.W.sortingHeap (s1.heap.push (seqObj "list" vs.toArray 0)) s1.heap.objs.size vs) (Z1.map fun z => datD z.2)).keyOf v = some (PySem.W.keyToks (datD z.2))) (Y.map fun z => Value.ref z.1) Y := by
      intro Y
      induction Y with
      | nil => intro _; exact .nil
      | cons z Y ih =>
        intro hy
        obtain ⟨as, r⟩ := (t1 z (hy z List.mem_cons_self)).reads
        exact .cons (PySem.W.dataKind_some al (List.mem_map.mpr ⟨z, hy z List.mem_cons_self, rfl⟩) r) (ih fun y h => hy y (List.mem_cons_of_mem _ h))
    have q := gen Z1 fun _ h => h
    have e1' := e1.symm
    generalize (Z1.map fun z => Value.ref z.1) = us at q e1'
    subst e1'
    exact q
  have ee := PySem.W.sortVals_each (κ := PySem.W.dataKind (PySem.W.sortingHeap (s1.heap.push (seqObj "list" vs.toArray 0)) s1.heap.objs.size vs) (Z1.map fun z => datD z.2)) (β := DRow) (ks := vs) (vs := vs) (bs := Z1) (R := fun v (z : DRow) => v = Value.ref z.1) (rev := false) (fun z : DRow => PySem.W.keyToks (datD z.2)) (each_id' e1) ke
  have eo := refs_each ee
  obtain ⟨c, hc⟩ := sortedHeap_at (vs := vs) (out := (PySem.W.sortVals (PySem.W.dataKind (PySem.W.sortingHeap (s1.heap.push (seqObj "list" vs.toArray 0)) s1.heap.objs.size vs) (Z1.map fun z => datD z.2)) false vs vs).toArray) hoL
  have pw := PySem.W.sort_pairwise (PySem.W.sortLe_total (listOrd itemOrd) false fun z : DRow => PySem.W.keyToks (datD z.2)) Z1
  refine wpAny_pure ⟨_, rfl, hQ _ s1.heap.objs.size _ c _ (fun b u e => ?_) g1 o1 hz1 hc eo ((List.mergeSort_perm _ _).trans p1) (pw.imp fun {y z} h => ?_)⟩
  · have q := k1 b u e
    show (sortedHeap (s1.heap.push (seqObj "list" vs.toArray 0)) s1.heap.objs.size vs _).get? b = some u
    rw [sortedHeap_old (Nat.ne_of_lt (Heap.lt_size q)) (by rw [size_push']; exact Nat.lt_succ_of_lt (Heap.lt_size q))]
    exact Heap.get?_push_of_some _ q
  · have h' : (!PySem.W.dataLt (datD z.2) (datD y.2)) = true := h
    show PySem.W.dataLt (datD z.2) (datD y.2) = false
    cases q : PySem.W.dataLt (datD z.2) (datD y.2) with
    | false => rfl
    | true => rw [q] at h'; cases h'
end
end DT

/-! DL10: sorted(set(xs)), xs a list of nested tuples of whole numbers. -/
namespace DL
open PySem PySem.Spec L2 PyProof.Rows DT
section
variable {K : Kz} {S : Store} {H : Hp}
theorem rows_of : ∀ {ds : List D} {vs : List V}, Rps K S H ds vs → (∀ d ∈ ds, ∃ y r, d = D.tup (y :: r)) → ∃ Z : List DRow, ds = Z.map (·.2) ∧ vs = Z.map (fun z => V.ref z.1) ∧ ∀ z ∈ Z, Rp K S H z.2 (.ref z.1)
  | _, _, .nil, _ => ⟨[], rfl, rfl, fun z hz => nomatch hz⟩
  | d :: ds, _, .cons r t, h => by
    obtain ⟨Z, e1, e2, q⟩ := rows_of t fun x hx => h x (List.mem_cons_of_mem _ hx)
    obtain ⟨y, ys, e⟩ := h d List.mem_cons_self
    subst e
    cases r with
    | @tup _ a vs q1 q2 =>
      refine ⟨(a, .tup (y :: ys)) :: Z, by rw [e1]; rfl, by rw [e2]; rfl, fun z hz => ?_⟩
      rcases List.mem_cons.mp hz with e | hz
      · rw [e]; exact .tup q1 q2
      · exact q z hz
theorem rps_of : ∀ (Z : List DRow), (∀ z ∈ Z, Rp K S H z.2 (.ref z.1)) → Rps K S H (Z.map (·.2)) (Z.map fun z => V.ref z.1)
  | [], _ => .nil
  | z :: Z, h => .cons (h z List.mem_cons_self) (rps_of Z fun y hy => h y (List.mem_cons_of_mem _ hy))
theorem vals_rows : ∀ (Z : List DRow), Vals (Z.map fun z => V.ref z.1) (Z.map fun z => Value.ref z.1)
  | [] => .nil
  | z :: Z => .cons rfl (vals_rows Z)
theorem vals_back' : ∀ {Z : List DRow} {us : List Value}, Vals (Z.map fun z => V.ref z.1) us → us = Z.map fun z => Value.ref z.1
  | [], _, .nil => rfl
  | _ :: _, _, .cons r t => by cases r; rw [vals_back' t]; rfl
end
section
variable {X : Cx} {pins : List (Addr × Obj)} {σ : L2.St} {H : Hp} {s : Shared} {S : Store} {Z : Addr → Prop}
mutual
theorem tree_of (I : Inv X pins σ H s) : ∀ {d : D} {v : V} {u : Value}, Rp ⟨X.K, Z⟩ S H d v → RelV v u → likeD d d = true → Tree s.heap d u
  | _, _, _, .int i, r, _ => by obtain ⟨t, rfl⟩ := r; exact .int i t
  | _, _, _, .tup q rs, r, h => by
    cases r
    rw [likeD] at h
    obtain ⟨its, rv, ⟨o, ho, hc, n, hd⟩, _⟩ := I.tuple q
    exact .tup ho hc hd (trees_of I rs rv h)
  | _, _, _, .non, _, h | _, _, _, .bl _, _, h | _, _, _, .str _, _, h | _, _, _, .ref _, _, h | _, _, _, .scr .., _, h | _, _, _, .frz .., _, h => by simp [likeD] at h
theorem trees_of (I : Inv X pins σ H s) : ∀ {ds : List D} {vs : List V} {us : List Value}, Rps ⟨X.K, Z⟩ S H ds vs → Vals vs us → likeDs ds ds = true → Trees s.heap ds us
  | _, _, _, .nil, .nil, _ => .nil
  | _, _, _, .cons r t, .cons q u, h => by
    rw [likeDs, Bool.and_eq_true] at h
    exact .cons (tree_of I r q h.1) (trees_of I t u h.2)
end
end
/-- sorted(set(xs)) -/
def wSortSet (w : DT) : DT := fun ρ S P => w ρ S fun d S1 => wSome (lstOf S1 d) fun ds => (ds.length ≤ 1228 ∧ (∀ x ∈ ds, ∀ y ∈ ds, likeD x y = true) ∧ ∀ x ∈ ds, (∃ y r, x = .tup (y :: r)) ∧ depD x ≤ 8) ∧
  ∀ ys : List D, ys.length ≤ ds.length → ys.Nodup → (∀ y, y ∈ ys ↔ y ∈ ds) → ys.Pairwise (fun x y => ltD y x = false) → P (.scr ys) S1
section
variable {X : Cx} {e : Expr} {w : DT} {pos p p2 q : Pos}
theorem d_sortset (hc : X.calm = true) (hu : X.A.units + 64 < cLine) (B : Bl X.mg) (h : DE X e w) (hg : Gl X "sorted" := by rfl) (hg2 : Gl X "set" := by rfl)
    (na : starEach [e] X.env = (false, eval e X.env) :: starEach [] X.env := by rfl) : DE X (.Call (.Name "sorted" p) [.Call (.Name "set" p2) [e] [] q] [] pos) (wSortSet w) := fun Zk => by
  refine ⟨fun pins s σ H Q I ⟨ρ, S, Pk, hE, hS, hw, hP⟩ => ?_⟩
  refine Call_ (ld_blt I hg B.sorted bt_sorted ?_)
  refine PyProof.Rows.callWith_builtin1 (PyProof.Rows.args_cons ?_ rfl) rfl rfl
  refine Call_ (ld_blt I hg2 B.set bt_set ?_)
  refine PyProof.Rows.callWith_type1 (PyProof.Rows.args_cons (thn ((h Zk).run pins s σ H (fun x H1 => ∃ (l : Addr) (vs : List V) (ds : List D) (S1 : Store), x = .ref l ∧ SqL X.K H1 l vs ∧ Rps ⟨X.K, Zk⟩ S1 H1 ds vs ∧ RelS ⟨X.K, Zk⟩ S1 H1 ∧ Ext ⟨X.K, Zk⟩ S S1 H H1 ∧
    (ds.length ≤ 1228 ∧ (∀ x ∈ ds, ∀ y ∈ ds, likeD x y = true) ∧ ∀ x ∈ ds, (∃ y r, x = .tup (y :: r)) ∧ depD x ≤ 8) ∧
    ∀ ys : List D, ys.length ≤ ds.length → ys.Nodup → (∀ y, y ∈ ys ↔ y ∈ ds) → ys.Pairwise (fun x y => ltD y x = false) → Pk (.scr ys) S1) I ⟨ρ, S, _, hE, hS, hw, fun d S1 v H1 x1 r1 s1 q1 => ?_⟩) fun v s1 ⟨x, H1, I1, r1, l, vs, ds, S1, ex, hl, rd, hS1, hx, ⟨c1, c2, c3⟩, q1⟩ => PyProof.Rows.args_nil ?_) na) na rfl
  · obtain ⟨ds, e1, q2, q3⟩ := q1.get
    obtain ⟨a, us, rfl, h1, h2⟩ := lst_rp s1 r1 e1
    exact ⟨a, us, ds, S1, rfl, h1, h2, s1, x1, q2, q3⟩
  subst ex
  cases r1
  obtain ⟨Zr, e1, e2, e3⟩ := rows_of rd fun d hd => (c3 d hd).1
  subst e1 e2
  obtain ⟨its, rv, pl, hz⟩ := I1.list hl
  have ei := vals_back' rv
  have hT : ∀ z ∈ Zr, Tree s1.heap z.2 (.ref z.1) := fun z hz => tree_of I1 (e3 z hz) rfl (c2 _ (List.mem_map.mpr ⟨z, hz, rfl⟩) _ (List.mem_map.mpr ⟨z, hz, rfl⟩))
  have hdp : ∀ z ∈ Zr, depD z.2 ≤ 8 := fun z hz => (c3 _ (List.mem_map.mpr ⟨z, hz, rfl⟩)).2
  have hK : ∀ p ∈ Zr.map rowK, KeyAt s1.heap p.2 p.1 := fun p hp => by
    obtain ⟨z, hz, rfl⟩ := List.mem_map.mp hp
    exact ⟨(hT z hz).nested, by show (keyD z.2).depth ≤ 8; rw [(hT z hz).dep.1]; exact hdp z hz, (hT z hz).nums⟩
  refine set_of (Zr.map rowK) (I1.ok.hd hc) pl.isList (by rw [List.map_map]; exact (by simpa using ei : its.toArray.toList = _)) hK (by rw [List.length_map]; rw [List.length_map] at c1; exact c1) (by omega) fun h' tk L es ep t R g k => ?_
  refine PyProof.Rows.args_nil ?_
  -- the set's rows, as data
  have hLz : ∃ Zl : List DRow, L = Zl.map rowK ∧ ∀ z ∈ Zl, z ∈ Zr := by
    have gen : ∀ M : List DT.Row, (∀ p ∈ M, p ∈ Zr.map rowK) → ∃ Zl : List DRow, M = Zl.map rowK ∧ ∀ z ∈ Zl, z ∈ Zr := by
      intro M
      induction M with
      | nil => intro _; exact ⟨[], rfl, fun z hz => nomatch hz⟩
      | cons m M ih =>
        intro hm
        obtain ⟨Zl, a, b⟩ := ih fun p hp => hm p (List.mem_cons_of_mem _ hp)
        obtain ⟨z, hz, ez⟩ := List.mem_map.mp (hm m List.mem_cons_self)
        refine ⟨z :: Zl, by rw [a, ← ez]; rfl, fun y hy => ?_⟩
        rcases List.mem_cons.mp hy with e | hy
        · rw [e]; exact hz
        · exact b y hy
    exact gen L fun p hp => List.mem_of_mem_take (g.sub p hp)
  obtain ⟨Zl, eL, sub⟩ := hLz
  have like' : ∀ y ∈ Zl, ∀ z ∈ Zl, likeD y.2 z.2 = true := fun y hy z hz => c2 _ (List.mem_map.mpr ⟨y, sub y hy, rfl⟩) _ (List.mem_map.mpr ⟨z, sub z hz, rfl⟩)
  refine sorted_of_set (s := { s1 with heap := h', toks := tk }) R (I1.ok.hd hc) (by omega) eL (fun z hz => (hT z (sub z hz)).keep k) like' (fun z hz => (c3 _ (List.mem_map.mpr ⟨z, sub z hz, rfl⟩)).1) (fun z hz => hdp z (sub z hz)) fun s' p out c Z' kp g' o' hp hg hout pm pw => ?_
  have kk : ∀ b o, s1.heap.get? b = some o → s'.heap.get? b = some o := fun b o e => kp b o (k b o e)
  have hp' : s1.heap.objs.size ≤ p := by
    have hlt : s1.heap.objs.size < h'.objs.size := by
      obtain ⟨o, ho, _⟩ := R.ob
      exact Heap.lt_size ho
    exact Nat.le_trans (Nat.le_of_lt hlt) hp
  have hn : H1 p = none := I1.hok.fresh hp'
  have hzl : (Z'.map fun z => V.ref z.1).length ≤ sizeLine := by
    have h1 := R.full.few
    rw [eL, List.length_map] at h1
    rw [List.length_map, pm.length_eq, sizeLine_eq]
    omega
  have hv : Vals (Z'.map fun z => V.ref z.1) out.toList := by rw [hout]; exact vals_rows Z'
  have J : Inv X pins σ (upd H1 p (.lst (Z'.map fun z => V.ref z.1))) { s1 with heap := s'.heap, gens := s'.gens, drawn := s'.drawn, toks := s'.toks } :=
    I1.call (ch := []) (Un.laid kk hp' hn) (I1.hok.laid kk hp' ⟨hzl, out.toList, c, hv, hg⟩) (by rw [g']; exact I1.bare) (fun _ z => nomatch z)
  have es' : s' = { s1 with heap := s'.heap, gens := s'.gens, drawn := s'.drawn, toks := s'.toks } := by
    cases s'
    cases s1
    cases o'
    rfl
  rw [es']
  have rz : ∀ z ∈ Z', Rp ⟨X.K, Zk⟩ S1 H1 z.2 (.ref z.1) := fun z hz => e3 z (sub z (pm.mem_iff.mp hz))
  refine ⟨.ref p, _, J, rfl, hP (.scr (Z'.map (·.2))) S1 _ _ (hx.trans (Ext.hid hn)) (.scr upd_same (hS1.free hn) (hS1.nz hn) ((rps_of Z' rz).ext (Ext.hid hn))) (hS1.hid hn) (q1 _ ?_ ?_ (fun y => ?_) ?_)⟩
  · have h1 := g.len
    rw [eL, List.length_map, List.length_map] at h1
    rw [List.length_map, List.length_map, pm.length_eq]
    exact h1
  · have nd := R.full.nd
    rw [eL, List.map_map] at nd
    have nd2 : (Z'.map ((fun x : DT.Row => x.2) ∘ rowK)).Nodup := ((pm.map _).nodup_iff).mpr nd
    rw [← List.map_map] at nd2
    have nd3 : ((Z'.map (·.2)).map keyD).Nodup := by
      rw [List.map_map] at nd2 ⊢
      exact nd2
    exact List.Pairwise.of_map keyD (fun _ _ hne e => hne (congrArg keyD e)) nd3
  · rw [(pm.map (·.2)).mem_iff]
    constructor
    · intro hy
      obtain ⟨z, hz, rfl⟩ := List.mem_map.mp hy
      exact List.mem_map.mpr ⟨z, sub z hz, rfl⟩
    · intro hy
      obtain ⟨z, hz, rfl⟩ := List.mem_map.mp hy
      have hall := g.all (rowK z) (by rw [List.take_length]; exact List.mem_map.mpr ⟨z, hz, rfl⟩)
      rw [eL, List.map_map] at hall
      obtain ⟨y, hy, ey⟩ := List.mem_map.mp hall
      have ey' : keyD y.2 = keyD z.2 := ey
      have := (hT y (sub y hy)).inj (hT z hz) ey'
      exact List.mem_map.mpr ⟨y, hy, this⟩
  · exact List.pairwise_map.mpr pw
end
end DL

/-! DL11: the ends: a def of the top by the head's facts; the law over the script. -/
namespace DL
open PySem PySem.Spec L2 PyProof.Rows
/-- a def without defaults, as the head looks at it -/
def aDef (x : Str) (st : Stmt) : He.DefD := ⟨(x, none), x, x, defArgs st, defBody st, defScope st, [], []⟩
/-- the built-in names that the rules use -/
def blFa : List He.Fa := [.free "len", .free "isinstance", .free "str", .free "int", .free "bool", .free "tuple", .free "list", .free "range", .free "enumerate", .free "abs", .free "max", .free "min", .free "all", .free "any", .free "sorted", .free "set"]
section
variable {K : PySem.W.Frag} {h : Heap} {mg : Str → Option Value} {fa : List He.Fa} {fn : List He.DefD}
theorem fnd_of (X : K.In h) (G : h.Ns mainGlobals mg) (c : He.SaysD fa fn K) {x : Str} {st : Stmt} (i j : Nat) (hi : fn[i]? = some (aDef x st) := by rfl) (hj : fa[j]? = some (.glo x) := by rfl) : ∃ f fd, FnD K mg x st f fd := by
  obtain ⟨fd, F⟩ := c.def_ i hi
  refine ⟨_, fd, ⟨?_, F.kp⟩, He.glo_ok X G (c.fact j hj)⟩
  obtain ⟨oc, od, dV, kV, doc, pm, an, cdv, ct, osl, e, lk, hcd, hD, _⟩ := F.ex
  rcases hD with ⟨_, rfl⟩ | ⟨z, _⟩
  · exact ⟨oc, od, kV, doc, pm, an, cdv, ct, osl, e, lk, hcd⟩
  · exact absurd rfl z
theorem free_at (X : K.In h) (G : h.Ns mainGlobals mg) (c : He.SaysD (blFa ++ fa) fn K) (x : Str) (i : Nat) (hi : blFa[i]? = some (.free x) := by rfl) : mg x = none := by
  refine He.free_ok X G (c.fact i ?_)
  rw [List.getElem?_append_left (List.getElem?_eq_some_iff.mp hi).1]
  exact hi
theorem bl_of (X : K.In h) (G : h.Ns mainGlobals mg) (c : He.SaysD (blFa ++ fa) fn K) : Bl mg where
  len := free_at X G c _ 0
  isinstance := free_at X G c _ 1
  str := free_at X G c _ 2
  int := free_at X G c _ 3
  bool := free_at X G c _ 4
  tuple := free_at X G c _ 5
  list := free_at X G c _ 6
  range := free_at X G c _ 7
  enumerate := free_at X G c _ 8
  abs := free_at X G c _ 9
  max := free_at X G c _ 10
  min := free_at X G c _ 11
  all := free_at X G c _ 12
  any := free_at X G c _ 13
  sorted := free_at X G c _ 14
  set := free_at X G c _ 15
end
section
variable {P : Program} {w : World} {K : PySem.W.Frag} {mg : Str → Option Value} {base : Heap}
theorem fn_k {x : Str} {st : Stmt} {f : Addr} {fd : FuncData} {N ps : List Str} {k : Nat} {sp : DSp} (F : FnD K mg x st f fd) (sc : FnScope N ps (defScope st))
    (len : ∀ ds S Q, sp ds S Q → ds.length = ps.length)
    (body : ∀ (cdv : Value) (A : Around) (outer : List Env) (s : Shared) (H : Hp) (E : XK), Room k (A.deeper (envOfC x (defScope st) s.heap.objs.size f cdv)) →
      ∃ u, DSs (cxOf CX0 P w K mg base N x (defScope st) f cdv A outer s H E).nox (defBody st) u ∧ ∀ ds S Q, sp ds S Q → u { nx := fun _ S' => Fin Q .non S', rt := Fin Q } (startD N ds) S) :
    FnOk P w K mg base CX0 (k + 1) f fd ps (spD K sp) :=
  F.fn.ok sc (fun vs H Q E ⟨Z, ds, S, P, h1, h2, h3, h4⟩ => by rw [← h2.length]; exact len _ _ _ h3) fun cdv A outer s H vs Q E hr ⟨Z, ds, S, P, h1, h2, h3, h4⟩ => by
    obtain ⟨u, hu, q⟩ := body cdv A outer s H E hr
    refine ⟨_, hu Z, startD N ds, S, { nx := fun _ S' => Fin P .non S', rt := Fin P }, rel_start h2, h1, q ds S P h3, ⟨?_, ?_, ?_, ?_⟩⟩
    · exact fun ρ' S' σ' H' x e s q => fin_ok h4 (fun a z => (h1.aside a z).2) h1 .non .non x .non s q
    · exact fun d S' v H' x r s q => fin_ok h4 (fun a z => (h1.aside a z).2) h1 d v x r s q
    · exact fun ρ' S' σ' H' x e s q => q.elim
    · exact fun ρ' S' σ' H' x e s q => q.elim
/-- a def that promises nothing -/
theorem df_no {x : Str} {st : Stmt} {f : Addr} {fd : FuncData} {ps : List Str} {k : Nat} (F : FnD K mg x st f fd)
    (bp : ∀ (kV doc pm : Value) (an : Option Addr) (cdv ct : Value) (us : List Value), us.length = ps.length → bindArgs (PySem.W.fnOf x x (defArgs st) (defBody st) (defScope st) .none kV doc pm an cdv ct) ⟨us, []⟩ = pure (ps.zip us))
    (bk : ∀ (kV doc pm : Value) (an : Option Addr) (cdv ct : Value) (us : List Value), us.length = ps.length → bindArgs (PySem.W.fnOf x x (defArgs st) (defBody st) (defScope st) .none kV doc pm an cdv ct) ⟨[], ps.zip us⟩ = pure (ps.zip us)) :
    DF P w K mg base k x ps (fun _ _ _ => False) := by
  refine ⟨f, fd, ⟨fun vs H Q E ⟨_, _, _, _, _, _, z, _⟩ => z.elim, fun A outer s H args us vs Q E _ _ _ _ ⟨_, _, _, _, _, _, z, _⟩ => z.elim⟩, F.gl, F.fn.kp, F.fn.binds bp, ?_⟩
  obtain ⟨oc, od, kV, doc, pm, an, cdv, ct, osl, rfl, lk, hcd⟩ := F.fn.ex
  exact bk kV doc pm an cdv ct
/-- what a law's def promises: True at every script -/
def spLaw : DSp := fun ds S Q => S = (fun _ => none) ∧ ∃ ns : List Int, ds = [.frz (ns.map .int)] ∧ ns.length ≤ 63 ∧ (∀ z ∈ ns, Builtin.Int.intBits z ≤ 1048576) ∧ ∀ S', Q (.bl true) S'
theorem walk_d {l : PySem.W.OpenLaw} {k : Nat} {q : Program} {loose : List Str} {XP : (Str → Option Value) → Heap → Prop} {YP : World → Heap → Prop} {d : DefRec}
    (hn : l.most = some 63) (hdf : d.params.defaults = []) (hr : Room k callerA)
    (F : ∀ (w : World) (mg : Str → Option Value) (fa : Addr) (h : Heap), YP w h → h.Ns mainGlobals mg → mg d.name = some (.ref fa) →
      ∃ (K : PySem.W.Frag) (fd : FuncData), K.In h ∧ (∀ (s : Shared) (u : Value), BindsTo s fd ⟨[u], []⟩ [("script", u)]) ∧ ∀ base : Heap, FnOk l.prog w K mg base CX0 k fa fd ["script"] (spD K spLaw)) :
    PySem.W.WalkO q loose XP YP l.row.toRowW d [] (fun f vs => PySem.call f vs) := by
  refine Att.attach_callB hn hdf fun w s₀ s₁ mg mb fa o pm cd doc a vs ns G Y ho hd hcd hmg hobj hints hlen hbits hg => ?_
  obtain ⟨K, fd, KX, hb, hF⟩ := F w mg fa _ Y G.T.g hmg
  refine law_call KX G.T.g G.T.b G.T.builtins G.T.nolimit hg hobj hints (Nat.le_trans hlen (by decide)) hr (fun base _ _ => hF base) hb (fun H hO hS => ?_) fun H e s' h => h
  have hz : ∀ b o, H b = some o → ∃ u xs, o = .frz u (.lst xs) := fun b o e => by
    rcases hO b with z | ⟨u, xs, z⟩
    · rw [z] at e; cases e
    · rw [z] at e; cases e; exact ⟨u, xs, rfl⟩
  have hsq : SqF ⟨K, fun _ => False⟩ H a (ns.map V.int) := by
    rcases hS with (z | ⟨u, z⟩) | z
    · obtain ⟨u, xs, e⟩ := hz _ _ z
      cases e
    · exact .inl ⟨u, z⟩
    · exact .inr z
  refine ⟨fun _ => False, [.frz (ns.map .int)], fun _ => none, fun d _ => d = .bl true, ⟨fun a o e => (nomatch e), fun a (z : False) => False.elim z⟩, .cons (.frz hsq Rps.ints) .nil, ⟨rfl, ns, rfl, hlen, hbits, fun _ => rfl⟩, fun d S' v H' _ r _ e => ?_⟩
  subst e
  cases r
  rfl
theorem binds1 {x : Str} {st : Stmt} {f : Addr} {fd : FuncData} (F : FnD K mg x st f fd)
    (bp : ∀ (kV doc pm : Value) (an : Option Addr) (cdv ct : Value) (us : List Value), us.length = 1 → bindArgs (PySem.W.fnOf x x (defArgs st) (defBody st) (defScope st) .none kV doc pm an cdv ct) ⟨us, []⟩ = pure ((["script"] : List Str).zip us)) :
    ∀ (s : Shared) (u : Value), BindsTo s fd ⟨[u], []⟩ [("script", u)] := fun s u => by
  obtain ⟨oc, od, kV, doc, pm, an, cdv, ct, osl, rfl, lk, hcd⟩ := F.fn.ex
  exact .of_eq (bp kV doc pm an cdv ct [u] rfl)
end
end DL

/-! DL12: plain helpers for readings: loops by a word, texts' lengths, words kept in a well. -/
namespace DL
open PySem PySem.Spec L2 PyProof.Rows
theorem loop_on {g : DGt} {tb : DSt} {G : Store → Prop} {P : DEnds} (I : List D → Env' → Store → Prop) (fin : ∀ ρ S, I [] ρ S → G S ∧ P.nx ρ S)
    (step : ∀ d r ρ S (K : Env' → Store → Prop), I (d :: r) ρ S → (∀ ρ S, I r ρ S → K ρ S) → G S ∧ g d ρ S fun ρ2 S2 => tb { P with nx := K, ct := K, bk := P.nx } ρ2 S2) : ∀ ds ρ S, I ds ρ S → loopW g tb G P ds ρ S
  | [], ρ, S, h => fin ρ S h
  | d :: ds, ρ, S, h => step d ds ρ S _ h (loop_on I fin step ds)
theorem lc_on {g : DGt} {tt : DB} {te : DT} {G : Store → Prop} {ρ : Env'} {P : DK} (I : List D → List D → Store → Prop) (fin : ∀ acc S, I [] acc S → G S ∧ P (.scr acc) S)
    (step : ∀ d r acc S (K : List D → Store → Prop), I (d :: r) acc S → (∀ acc S, I r acc S → K acc S) → G S ∧ g d ρ S fun ρ2 S2 => tt ρ2 S2 fun b S3 => if b = true then te ρ2 S3 fun y S4 => K (acc ++ [y]) S4 else K acc S3) : ∀ ds acc S, I ds acc S → lcW g tt te G ρ P ds acc S
  | [], acc, S, h => fin acc S h
  | d :: ds, acc, S, h => step d ds acc S _ h (lc_on I fin step ds)
/-- [f(d) for d in ds] -/
theorem lc_map {g : DGt} {te : DT} {G : Store → Prop} {ρ : Env'} {P : DK} {S : Store} (f : D → D) (hG : G S) : ∀ (ds acc : List D), (∀ d ∈ ds, ∀ Q : DK, Q (f d) S → g d ρ S fun ρ2 S2 => te ρ2 S2 Q) → P (.scr (acc ++ ds.map f)) S → lcW g wYes te G ρ P ds acc S
  | [], acc, _, q => ⟨hG, by simpa using q⟩
  | d :: ds, acc, h, q => ⟨hG, by
    have one := h d List.mem_cons_self (fun y S4 => lcW g wYes te G ρ P ds (acc ++ [y]) S4) (lc_map f hG ds (acc ++ [f d]) (fun e he => h e (List.mem_cons_of_mem _ he)) (by simpa using q))
    simp only [wYes, if_true]
    exact one⟩
/-! ### lengths of texts -/
theorem str_len_app (a b : Str) : (a ++ b).length = a.length + b.length := Str.length_append ..
theorem strI_len {i : Int} {k : Nat} (hk : 0 < k) (h : i.natAbs < 10 ^ k) : (strI i).length ≤ k + 1 := by
  show (Str.ofString (toString i)).length ≤ k + 1
  rw [PySem.ofString_length]
  have nat : ∀ n : Nat, n < 10 ^ k → (Nat.repr n).length ≤ k := fun n hn => (Nat.length_repr_le_iff hk).mpr hn
  cases i with
  | ofNat n => exact Nat.le_succ_of_le (nat n h)
  | negSucc n =>
    have e : toString (Int.negSucc n) = "-" ++ Nat.repr (n + 1) := rfl
    rw [e, String.length_append]
    have := nat (n + 1) (by simpa using h)
    have : ("-" : String).length = 1 := rfl
    omega
theorem log2_lt {i : Int} {k : Nat} (hk : 0 < k) (h : i.natAbs < 2 ^ k) : i.natAbs.log2 < k := by
  by_cases z : i.natAbs = 0
  · rw [z]; exact hk
  · exact (Nat.log2_lt z).mpr h
/-! ### subscripts -/
theorem ix_tupE {ds : List D} {i : Int} {S : Store} {P : DK} : DL.rIxD (.tup ds) (.int i) S P = wSome (atI ds i) fun d => P d S := rfl
theorem ix_scrE {ds : List D} {i : Int} {S : Store} {P : DK} : DL.rIxD (.scr ds) (.int i) S P = wSome (atI ds i) fun d => P d S := rfl
theorem ix_frzE {ds : List D} {i : Int} {S : Store} {P : DK} : DL.rIxD (.frz ds) (.int i) S P = wSome (atI ds i) fun d => P d S := rfl
theorem ix_refE {a : Addr} {i : Int} {S : Store} {P : DK} : DL.rIxD (.ref a) (.int i) S P = wSome (seqOf S (.ref a)) fun ds => wSome (atI ds i) fun d => P d S := rfl
end DL

namespace K51
open PySem PySem.Spec L2 PyProof.Rows DL
def top (i : Nat) : Stmt := PySem.Challenge.pw_wholekits_k51_whole_texts_shown.main.body.getD i (.Pass ⟨0, 0, 0, 0⟩)
section
variable {P : Program} {w : World} {K : PySem.W.Frag} {mg : Str → Option Value} {base : Heap}
abbrev s_show_number : Stmt := top 1
abbrev N_show_number : List Str := ["a", "top", "bottom"]
def W_show_number : DSt :=
  (wSeq (wAsg (wVar 0) (dgTup 2 (dgCons (dgName 1) (dgCons (dgName 2) dgNil))))
    (wRet (wIfE (wT (wOp (rEqD false) (wVar 2) (wC (.int 1)))) (wCB rStrD (wCons (wVar 1) wNil)) (wOp rAddD (wOp rAddD (wCB rStrD (wCons (wVar 1) wNil)) (wC (.str "/"))) (wCB rStrD (wCons (wVar 2) wNil))))))
theorem sc_show_number : FnScope N_show_number ["a"] (defScope s_show_number) := ⟨rfl, rfl, rfl, by decide +kernel, rfl, by decide +kernel, by decide +kernel⟩
theorem tm_show_number {k : Nat} (B : Bl mg) {f : Addr} (cdv : Value) (A : Around) (outer : List Env) (s : Shared) (H : Hp) (E : XK) (hr : Room k (A.deeper (envOfC "show_number" (defScope s_show_number) s.heap.objs.size f cdv))) :
    DSs (cxOf CX0 P w K mg base N_show_number "show_number" (defScope s_show_number) f cdv A outer s H E).nox (defBody s_show_number) (W_show_number) :=
  (dss_cons (ds_asg (dv 0) (dg_tup rfl (dgs_cons (dg_name (i := 1) sc_show_number.nd) (dgs_cons (dg_name (i := 2) sc_show_number.nd) dgs_nil))))
    (dss_one (ds_ret (d_ifE (dt_cmp eq_ok (dv 2) d_int (nomark _)) (d_callTy str_ok B.str bt_str (da_cons (dv 1) da_nil)) (d_op add_ok (d_op add_ok (d_callTy str_ok B.str bt_str (da_cons (dv 1) da_nil)) d_str) (d_callTy str_ok B.str bt_str (da_cons (dv 2) da_nil)))))))
theorem ok_show_number {k : Nat} (B : Bl mg) {f : Addr} {fd : FuncData} (F : FnD K mg "show_number" s_show_number f fd) {sp : DSp} (len : ∀ ds S Q, sp ds S Q → ds.length = 1)
    (h : ∀ ds S Q, sp ds S Q → W_show_number { nx := fun _ S' => Fin Q .non S', rt := Fin Q } (startD N_show_number ds) S) : DF P w K mg base (k + 1) "show_number" ["a"] sp :=
  fn_d F sc_show_number (fun _ _ _ _ _ _ us hl => match us, hl with | [_], _ => rfl) (fun _ _ _ _ _ _ us hl => match us, hl with | [_], _ => rfl) len fun cdv A outer s H E hr => ⟨_, tm_show_number B cdv A outer s H E hr, h⟩

abbrev s_show_point : Stmt := top 2
abbrev N_show_point : List Str := ["point", "one"]
def W_show_point (sp_show_number : DSp) : DSt :=
  (wRet (wM1 rJoinD (wC (.str " ")) (wLc (wItS (wVar 0)) (dgName 1) wYes (wCall sp_show_number (wCons (wVar 1) wNil)) [1])))
theorem sc_show_point : FnScope N_show_point ["point"] (defScope s_show_point) := ⟨rfl, rfl, rfl, by decide +kernel, rfl, by decide +kernel, by decide +kernel⟩
theorem tm_show_point {k : Nat} (B : Bl mg) {sp_show_number : DSp} (G_show_number : DF P w K mg base k "show_number" ["a"] sp_show_number) {f : Addr} (cdv : Value) (A : Around) (outer : List Env) (s : Shared) (H : Hp) (E : XK) (hr : Room k (A.deeper (envOfC "show_point" (defScope s_show_point) s.heap.objs.size f cdv))) :
    DSs (cxOf CX0 P w K mg base N_show_point "show_point" (defScope s_show_point) f cdv A outer s H E).nox (defBody s_show_point) (W_show_point sp_show_number) :=
  (dss_one (ds_ret (d_join d_str (d_lc rfl sc_show_point.nd (blkOk_by (own := [("one", 1)]) (N := N_show_point) (sc := (defScope s_show_point)) (by decide +kernel)) (di_seq (dv 0)) (fun _ _ _ _ _ => (dg_name (i := 1) sc_show_point.nd)) (fun _ _ _ _ _ => dts_nil) (fun _ _ _ _ _ => (d_call G_show_number hr (da_cons (dv 1) da_nil)))))))
theorem ok_show_point {k : Nat} (B : Bl mg) {sp_show_number : DSp} (G_show_number : DF P w K mg base k "show_number" ["a"] sp_show_number) {f : Addr} {fd : FuncData} (F : FnD K mg "show_point" s_show_point f fd) {sp : DSp} (len : ∀ ds S Q, sp ds S Q → ds.length = 1)
    (h : ∀ ds S Q, sp ds S Q → W_show_point sp_show_number { nx := fun _ S' => Fin Q .non S', rt := Fin Q } (startD N_show_point ds) S) : DF P w K mg base (k + 1) "show_point" ["point"] sp :=
  fn_d F sc_show_point (fun _ _ _ _ _ _ us hl => match us, hl with | [_], _ => rfl) (fun _ _ _ _ _ _ us hl => match us, hl with | [_], _ => rfl) len fun cdv A outer s H E hr => ⟨_, tm_show_point B G_show_number cdv A outer s H E hr, h⟩

abbrev s_worded : Stmt := top 3
abbrev N_worded : List Str := ["integers", "one"]
def W_worded : DSt :=
  (wRet (wM1 rJoinD (wC (.str " ")) (wLc (wItS (wVar 0)) (dgName 1) wYes (wCB rStrD (wCons (wVar 1) wNil)) [1])))
theorem sc_worded : FnScope N_worded ["integers"] (defScope s_worded) := ⟨rfl, rfl, rfl, by decide +kernel, rfl, by decide +kernel, by decide +kernel⟩
theorem tm_worded {k : Nat} (B : Bl mg) {f : Addr} (cdv : Value) (A : Around) (outer : List Env) (s : Shared) (H : Hp) (E : XK) (hr : Room k (A.deeper (envOfC "worded" (defScope s_worded) s.heap.objs.size f cdv))) :
    DSs (cxOf CX0 P w K mg base N_worded "worded" (defScope s_worded) f cdv A outer s H E).nox (defBody s_worded) (W_worded) :=
  (dss_one (ds_ret (d_join d_str (d_lc rfl sc_worded.nd (blkOk_by (own := [("one", 1)]) (N := N_worded) (sc := (defScope s_worded)) (by decide +kernel)) (di_seq (dv 0)) (fun _ _ _ _ _ => (dg_name (i := 1) sc_worded.nd)) (fun _ _ _ _ _ => dts_nil) (fun _ _ _ _ _ => (d_callTy str_ok B.str bt_str (da_cons (dv 1) da_nil)))))))
theorem ok_worded {k : Nat} (B : Bl mg) {f : Addr} {fd : FuncData} (F : FnD K mg "worded" s_worded f fd) {sp : DSp} (len : ∀ ds S Q, sp ds S Q → ds.length = 1)
    (h : ∀ ds S Q, sp ds S Q → W_worded { nx := fun _ S' => Fin Q .non S', rt := Fin Q } (startD N_worded ds) S) : DF P w K mg base (k + 1) "worded" ["integers"] sp :=
  fn_d F sc_worded (fun _ _ _ _ _ _ us hl => match us, hl with | [_], _ => rfl) (fun _ _ _ _ _ _ us hl => match us, hl with | [_], _ => rfl) len fun cdv A outer s H E hr => ⟨_, tm_worded B cdv A outer s H E hr, h⟩

abbrev s_show_address : Stmt := top 4
abbrev N_show_address : List Str := ["address", "ahead", "ring", "place"]
def W_show_address (sp_worded : DSp) : DSt :=
  (wSeq (wAsg (wVar 0) (dgTup 2 (dgCons (dgName 1) (dgCons (dgName 2) dgNil))))
    (wRet (wM1 rJoinD (wC (.str " ")) (wOp rAddD (wLc (wItS (wVar 1)) (dgName 3) wYes (wCB rStrD (wCons (wVar 3) wNil)) [3]) (wLst (wCons (wOp rAddD (wOp rAddD (wC (.str "( ")) (wCall sp_worded (wCons (wVar 2) wNil))) (wC (.str " )"))) wNil))))))
theorem sc_show_address : FnScope N_show_address ["address"] (defScope s_show_address) := ⟨rfl, rfl, rfl, by decide +kernel, rfl, by decide +kernel, by decide +kernel⟩
theorem tm_show_address {k : Nat} (B : Bl mg) {sp_worded : DSp} (G_worded : DF P w K mg base k "worded" ["integers"] sp_worded) {f : Addr} (cdv : Value) (A : Around) (outer : List Env) (s : Shared) (H : Hp) (E : XK) (hr : Room k (A.deeper (envOfC "show_address" (defScope s_show_address) s.heap.objs.size f cdv))) :
    DSs (cxOf CX0 P w K mg base N_show_address "show_address" (defScope s_show_address) f cdv A outer s H E).nox (defBody s_show_address) (W_show_address sp_worded) :=
  (dss_cons (ds_asg (dv 0) (dg_tup rfl (dgs_cons (dg_name (i := 1) sc_show_address.nd) (dgs_cons (dg_name (i := 2) sc_show_address.nd) dgs_nil))))
    (dss_one (ds_ret (d_join d_str (d_op add_ok (d_lc rfl sc_show_address.nd (blkOk_by (own := [("place", 3)]) (N := N_show_address) (sc := (defScope s_show_address)) (by decide +kernel)) (di_seq (dv 1)) (fun _ _ _ _ _ => (dg_name (i := 3) sc_show_address.nd)) (fun _ _ _ _ _ => dts_nil) (fun _ _ _ _ _ => (d_callTy str_ok B.str bt_str (da_cons (dv 3) da_nil)))) (d_lst (da_cons (d_op add_ok (d_op add_ok d_str (d_call G_worded hr (da_cons (dv 2) da_nil))) d_str) da_nil)))))))
theorem ok_show_address {k : Nat} (B : Bl mg) {sp_worded : DSp} (G_worded : DF P w K mg base k "worded" ["integers"] sp_worded) {f : Addr} {fd : FuncData} (F : FnD K mg "show_address" s_show_address f fd) {sp : DSp} (len : ∀ ds S Q, sp ds S Q → ds.length = 1)
    (h : ∀ ds S Q, sp ds S Q → W_show_address sp_worded { nx := fun _ S' => Fin Q .non S', rt := Fin Q } (startD N_show_address ds) S) : DF P w K mg base (k + 1) "show_address" ["address"] sp :=
  fn_d F sc_show_address (fun _ _ _ _ _ _ us hl => match us, hl with | [_], _ => rfl) (fun _ _ _ _ _ _ us hl => match us, hl with | [_], _ => rfl) len fun cdv A outer s H E hr => ⟨_, tm_show_address B G_worded cdv A outer s H E hr, h⟩

abbrev s_show_copy : Stmt := top 5
abbrev N_show_copy : List Str := ["copy", "step", "state"]
def W_show_copy (sp_worded : DSp) : DSt :=
  (wSeq (wAsg (wVar 0) (dgTup 2 (dgCons (dgName 1) (dgCons (dgName 2) dgNil))))
    (wRet (wCall sp_worded (wCons (wLst (wStar (wVar 1) (wCons (wVar 2) wNil))) wNil))))
theorem sc_show_copy : FnScope N_show_copy ["copy"] (defScope s_show_copy) := ⟨rfl, rfl, rfl, by decide +kernel, rfl, by decide +kernel, by decide +kernel⟩
theorem tm_show_copy {k : Nat} (B : Bl mg) {sp_worded : DSp} (G_worded : DF P w K mg base k "worded" ["integers"] sp_worded) {f : Addr} (cdv : Value) (A : Around) (outer : List Env) (s : Shared) (H : Hp) (E : XK) (hr : Room k (A.deeper (envOfC "show_copy" (defScope s_show_copy) s.heap.objs.size f cdv))) :
    DSs (cxOf CX0 P w K mg base N_show_copy "show_copy" (defScope s_show_copy) f cdv A outer s H E).nox (defBody s_show_copy) (W_show_copy sp_worded) :=
  (dss_cons (ds_asg (dv 0) (dg_tup rfl (dgs_cons (dg_name (i := 1) sc_show_copy.nd) (dgs_cons (dg_name (i := 2) sc_show_copy.nd) dgs_nil))))
    (dss_one (ds_ret (d_call G_worded hr (da_cons (d_lst (da_star (dv 1) (da_cons (dv 2) da_nil))) da_nil)))))
theorem ok_show_copy {k : Nat} (B : Bl mg) {sp_worded : DSp} (G_worded : DF P w K mg base k "worded" ["integers"] sp_worded) {f : Addr} {fd : FuncData} (F : FnD K mg "show_copy" s_show_copy f fd) {sp : DSp} (len : ∀ ds S Q, sp ds S Q → ds.length = 1)
    (h : ∀ ds S Q, sp ds S Q → W_show_copy sp_worded { nx := fun _ S' => Fin Q .non S', rt := Fin Q } (startD N_show_copy ds) S) : DF P w K mg base (k + 1) "show_copy" ["copy"] sp :=
  fn_d F sc_show_copy (fun _ _ _ _ _ _ us hl => match us, hl with | [_], _ => rfl) (fun _ _ _ _ _ _ us hl => match us, hl with | [_], _ => rfl) len fun cdv A outer s H E hr => ⟨_, tm_show_copy B G_worded cdv A outer s H E hr, h⟩

abbrev s_show_kit : Stmt := top 6
abbrev N_show_kit : List Str := ["kit", "table", "states", "lines", "index", "copies", "row", "entry", "copy"]
def W_show_kit (sp_show_copy : DSp) (sp_worded : DSp) : DSt :=
  (wSeq (wAsg (wVar 0) (dgTup 2 (dgCons (dgName 1) (dgCons (dgName 2) dgNil))))
    (wSeq (wAsg (wLstM (wCons (wOp rAddD (wC (.str "table ")) (wCall sp_worded (wCons (wLc2 (wItS (wVar 1)) (dgName 6) wYes (wItS (wVar 6)) (dgName 7) wYes (wVar 7) [6, 7] [7]) wNil))) wNil)) (dgName 3))
    (wSeq (wFor (wEnum (wVar 2)) (dgTup 2 (dgCons (dgName 4) (dgCons (dgName 5) dgNil))) (wDrop (wAppend (wVar 3) (wOp rAddD (wOp rAddD (wCB rStrD (wCons (wVar 4) wNil)) (wC (.str " : "))) (wM1 rJoinD (wC (.str ", ")) (wLc (wItS (wVar 5)) (dgName 8) wYes (wCall sp_show_copy (wCons (wVar 8) wNil)) [8]))))))
    (wRet (wM1 rJoinD (wC (.str "\n")) (wVar 3))))))
theorem sc_show_kit : FnScope N_show_kit ["kit"] (defScope s_show_kit) := ⟨rfl, rfl, rfl, by decide +kernel, rfl, by decide +kernel, by decide +kernel⟩
theorem tm_show_kit {k : Nat} (B : Bl mg) {sp_show_copy : DSp} (G_show_copy : DF P w K mg base k "show_copy" ["copy"] sp_show_copy) {sp_worded : DSp} (G_worded : DF P w K mg base k "worded" ["integers"] sp_worded) {f : Addr} (cdv : Value) (A : Around) (outer : List Env) (s : Shared) (H : Hp) (E : XK) (hr : Room k (A.deeper (envOfC "show_kit" (defScope s_show_kit) s.heap.objs.size f cdv))) :
    DSs (cxOf CX0 P w K mg base N_show_kit "show_kit" (defScope s_show_kit) f cdv A outer s H E).nox (defBody s_show_kit) (W_show_kit sp_show_copy sp_worded) :=
  (dss_cons (ds_asg (dv 0) (dg_tup rfl (dgs_cons (dg_name (i := 1) sc_show_kit.nd) (dgs_cons (dg_name (i := 2) sc_show_kit.nd) dgs_nil))))
    (dss_cons (ds_set (i := 3) sc_show_kit.nd (d_lstM (da_cons (d_op add_ok d_str (d_call G_worded hr (da_cons (d_lc2 rfl sc_show_kit.nd (blkOk_by (own := [("row", 6), ("entry", 7)]) (N := N_show_kit) (sc := (defScope s_show_kit)) (by decide +kernel)) (di_seq (dv 1)) (fun _ _ _ _ _ => (dg_name (i := 6) sc_show_kit.nd)) (fun _ _ _ _ _ => dts_nil) (fun _ _ _ _ _ => (di_seq (dv 6))) (fun _ _ _ _ _ => (dg_name (i := 7) sc_show_kit.nd)) (fun _ _ _ _ _ => dts_nil) (fun _ _ _ _ _ => (dv 7))) da_nil))) da_nil)))
    (dss_cons (ds_for PassesOwn.never rfl (di_enum B.enumerate (dv 2)) (dg_tup rfl (dgs_cons (dg_name (i := 4) sc_show_kit.nd) (dgs_cons (dg_name (i := 5) sc_show_kit.nd) dgs_nil))) (dss_one (ds_expr (d_append (dv 3) (d_op add_ok (d_op add_ok (d_callTy str_ok B.str bt_str (da_cons (dv 4) da_nil)) d_str) (d_join d_str (d_lc rfl sc_show_kit.nd (blkOk_by (own := [("copy", 8)]) (N := N_show_kit) (sc := (defScope s_show_kit)) (by decide +kernel)) (di_seq (dv 5)) (fun _ _ _ _ _ => (dg_name (i := 8) sc_show_kit.nd)) (fun _ _ _ _ _ => dts_nil) (fun _ _ _ _ _ => (d_call G_show_copy hr (da_cons (dv 8) da_nil))))))))))
    (dss_one (ds_ret (d_join d_str (dv 3)))))))
theorem ok_show_kit {k : Nat} (B : Bl mg) {sp_show_copy : DSp} (G_show_copy : DF P w K mg base k "show_copy" ["copy"] sp_show_copy) {sp_worded : DSp} (G_worded : DF P w K mg base k "worded" ["integers"] sp_worded) {f : Addr} {fd : FuncData} (F : FnD K mg "show_kit" s_show_kit f fd) {sp : DSp} (len : ∀ ds S Q, sp ds S Q → ds.length = 1)
    (h : ∀ ds S Q, sp ds S Q → W_show_kit sp_show_copy sp_worded { nx := fun _ S' => Fin Q .non S', rt := Fin Q } (startD N_show_kit ds) S) : DF P w K mg base (k + 1) "show_kit" ["kit"] sp :=
  fn_d F sc_show_kit (fun _ _ _ _ _ _ us hl => match us, hl with | [_], _ => rfl) (fun _ _ _ _ _ _ us hl => match us, hl with | [_], _ => rfl) len fun cdv A outer s H E hr => ⟨_, tm_show_kit B G_show_copy G_worded cdv A outer s H E hr, h⟩

abbrev s_show_rows : Stmt := top 7
abbrev N_show_rows : List Str := ["rows"]
def W_show_rows : DSt :=
  (wRet (wM1 rJoinD (wC (.str "\n")) (wVar 0)))
theorem sc_show_rows : FnScope N_show_rows ["rows"] (defScope s_show_rows) := ⟨rfl, rfl, rfl, by decide +kernel, rfl, by decide +kernel, by decide +kernel⟩
theorem tm_show_rows {k : Nat} (B : Bl mg) {f : Addr} (cdv : Value) (A : Around) (outer : List Env) (s : Shared) (H : Hp) (E : XK) (hr : Room k (A.deeper (envOfC "show_rows" (defScope s_show_rows) s.heap.objs.size f cdv))) :
    DSs (cxOf CX0 P w K mg base N_show_rows "show_rows" (defScope s_show_rows) f cdv A outer s H E).nox (defBody s_show_rows) (W_show_rows) :=
  (dss_one (ds_ret (d_join d_str (dv 0))))
theorem ok_show_rows {k : Nat} (B : Bl mg) {f : Addr} {fd : FuncData} (F : FnD K mg "show_rows" s_show_rows f fd) {sp : DSp} (len : ∀ ds S Q, sp ds S Q → ds.length = 1)
    (h : ∀ ds S Q, sp ds S Q → W_show_rows { nx := fun _ S' => Fin Q .non S', rt := Fin Q } (startD N_show_rows ds) S) : DF P w K mg base (k + 1) "show_rows" ["rows"] sp :=
  fn_d F sc_show_rows (fun _ _ _ _ _ _ us hl => match us, hl with | [_], _ => rfl) (fun _ _ _ _ _ _ us hl => match us, hl with | [_], _ => rfl) len fun cdv A outer s H E hr => ⟨_, tm_show_rows B cdv A outer s H E hr, h⟩

abbrev s__law_well : Stmt := top 9
abbrev N__law_well : List Str := ["script", "place", "cell"]
def W__law_well : DSt :=
  (wSeq (wAsg (wIfE (wT (wOp rLtD (wVar 1) (wCB rLenD (wCons (wVar 0) wNil)))) (wCB rIntD (wCons (wOp rIxD (wVar 0) (wVar 1)) wNil)) (wOp rAddD (wOp rMulD (wVar 1) (wC (.int 104723))) (wOp rMulD (wCB rLenD (wCons (wVar 0) wNil)) (wC (.int 15485863))))) (dgName 2))
    (wRet (wLstM (wCons (wCB rMaxD (wCons (wC (.int 0)) (wCons (wOp rSubD (wCB rAbsD (wCons (wVar 2) wNil)) (wOp rPowD (wC (.int 10)) (wC (.int 18)))) wNil))) (wCons (wOp rModD (wCB rIntD (wCons (wOp rAddD (wOp rAddD (wOp rMulD (wVar 2) (wC (.int 86028157))) (wOp rMulD (wVar 1) (wC (.int 179424691)))) (wC (.int 7919))) wNil)) (wOp rAddD (wOp rPowD (wC (.int 10)) (wC (.int 25))) (wC (.int 13)))) (wCons (wC (.int 0)) wNil))))))
theorem sc__law_well : FnScope N__law_well ["script", "place"] (defScope s__law_well) := ⟨rfl, rfl, rfl, by decide +kernel, rfl, by decide +kernel, by decide +kernel⟩
theorem tm__law_well {k : Nat} (B : Bl mg) {f : Addr} (cdv : Value) (A : Around) (outer : List Env) (s : Shared) (H : Hp) (E : XK) (hr : Room k (A.deeper (envOfC "_law_well" (defScope s__law_well) s.heap.objs.size f cdv))) :
    DSs (cxOf CX0 P w K mg base N__law_well "_law_well" (defScope s__law_well) f cdv A outer s H E).nox (defBody s__law_well) (W__law_well) :=
  (dss_cons (ds_set (i := 2) sc__law_well.nd (d_ifE (dt_cmp lt_ok (dv 1) (d_callB len_ok B.len bt_len (da_cons (dv 0) da_nil)) (nomark _)) (d_callTy int_ok B.int bt_int (da_cons (d_ix ix_ok (dv 0) (dv 1)) da_nil)) (d_op add_ok (d_op mul_ok (dv 1) d_int) (d_op mul_ok (d_callB len_ok B.len bt_len (da_cons (dv 0) da_nil)) d_int))))
    (dss_one (ds_ret (d_lstM (da_cons (d_callB (max_ok rfl) B.max bt_max (da_cons d_int (da_cons (d_op sub_ok (d_callB abs_ok B.abs bt_abs (da_cons (dv 2) da_nil)) (d_op pow_ok d_int d_int)) da_nil))) (da_cons (d_op mod_ok (d_callTy int_ok B.int bt_int (da_cons (d_op add_ok (d_op add_ok (d_op mul_ok (dv 2) d_int) (d_op mul_ok (dv 1) d_int)) d_int) da_nil)) (d_op add_ok (d_op pow_ok d_int d_int) d_int)) (da_cons d_int da_nil)))))))
theorem ok__law_well {k : Nat} (B : Bl mg) {f : Addr} {fd : FuncData} (F : FnD K mg "_law_well" s__law_well f fd) {sp : DSp} (len : ∀ ds S Q, sp ds S Q → ds.length = 2)
    (h : ∀ ds S Q, sp ds S Q → W__law_well { nx := fun _ S' => Fin Q .non S', rt := Fin Q } (startD N__law_well ds) S) : DF P w K mg base (k + 1) "_law_well" ["script", "place"] sp :=
  fn_d F sc__law_well (fun _ _ _ _ _ _ us hl => match us, hl with | [_, _], _ => rfl) (fun _ _ _ _ _ _ us hl => match us, hl with | [_, _], _ => rfl) len fun cdv A outer s H E hr => ⟨_, tm__law_well B cdv A outer s H E hr, h⟩

abbrev s__law_draw : Stmt := top 10
abbrev N__law_draw : List Str := ["well", "many", "found", "mixed"]
def W__law_draw : DSt :=
  (wSeq (wIf (wT (wOp rGtD (wOp rIxD (wVar 0) (wC (.int 0))) (wC (.int 0)))) (wSeq (wAsg (wOp rModD (wCB rIntD (wCons (wOp rIxD (wVar 0) (wC (.int 0))) wNil)) (wVar 1)) (dgName 2))
    (wSeq (wAsg (wOp rFdivD (wOp rIxD (wVar 0) (wC (.int 0))) (wVar 1)) (dgSub (wVar 0) (wC (.int 0))))
    (wRet (wVar 2)))) wNext)
    (wSeq (wAsg (wOp rAddD (wOp rIxD (wVar 0) (wC (.int 2))) (wC (.int 1))) (dgSub (wVar 0) (wC (.int 2))))
    (wSeq (wAsg (wOp rModD (wCB rIntD (wCons (wOp rPowD (wOp rAddD (wOp rIxD (wVar 0) (wC (.int 1))) (wOp rMulD (wC (.int 49979693)) (wOp rIxD (wVar 0) (wC (.int 2))))) (wC (.int 3))) wNil)) (wOp rAddD (wOp rPowD (wC (.int 10)) (wC (.int 29))) (wC (.int 319)))) (dgName 3))
    (wSeq (wAsg (wOp rModD (wCB rIntD (wCons (wOp rPowD (wOp rAddD (wVar 3) (wC (.int 2038074751))) (wC (.int 3))) wNil)) (wOp rAddD (wOp rPowD (wC (.int 10)) (wC (.int 33))) (wC (.int 33)))) (dgName 3))
    (wRet (wOp rModD (wCB rIntD (wCons (wOp rFdivD (wVar 3) (wOp rPowD (wC (.int 10)) (wC (.int 6)))) wNil)) (wVar 1)))))))
theorem sc__law_draw : FnScope N__law_draw ["well", "many"] (defScope s__law_draw) := ⟨rfl, rfl, rfl, by decide +kernel, rfl, by decide +kernel, by decide +kernel⟩
theorem tm__law_draw {k : Nat} (B : Bl mg) {f : Addr} (cdv : Value) (A : Around) (outer : List Env) (s : Shared) (H : Hp) (E : XK) (hr : Room k (A.deeper (envOfC "_law_draw" (defScope s__law_draw) s.heap.objs.size f cdv))) :
    DSs (cxOf CX0 P w K mg base N__law_draw "_law_draw" (defScope s__law_draw) f cdv A outer s H E).nox (defBody s__law_draw) (W__law_draw) :=
  (dss_cons (ds_if (dt_cmp gt_ok (d_ix ix_ok (dv 0) d_int) d_int (nomark _)) (dss_cons (ds_set (i := 2) sc__law_draw.nd (d_op mod_ok (d_callTy int_ok B.int bt_int (da_cons (d_ix ix_ok (dv 0) d_int) da_nil)) (dv 1)))
    (dss_cons (ds_asg (d_op fdiv_ok (d_ix ix_ok (dv 0) d_int) (dv 1)) (dg_sub (dv 0) d_int))
    (dss_one (ds_ret (dv 2))))) dss_nil)
    (dss_cons (ds_asg (d_op add_ok (d_ix ix_ok (dv 0) d_int) d_int) (dg_sub (dv 0) d_int))
    (dss_cons (ds_set (i := 3) sc__law_draw.nd (d_op mod_ok (d_callTy int_ok B.int bt_int (da_cons (d_op pow_ok (d_op add_ok (d_ix ix_ok (dv 0) d_int) (d_op mul_ok d_int (d_ix ix_ok (dv 0) d_int))) d_int) da_nil)) (d_op add_ok (d_op pow_ok d_int d_int) d_int)))
    (dss_cons (ds_set (i := 3) sc__law_draw.nd (d_op mod_ok (d_callTy int_ok B.int bt_int (da_cons (d_op pow_ok (d_op add_ok (dv 3) d_int) d_int) da_nil)) (d_op add_ok (d_op pow_ok d_int d_int) d_int)))
    (dss_one (ds_ret (d_op mod_ok (d_callTy int_ok B.int bt_int (da_cons (d_op fdiv_ok (dv 3) (d_op pow_ok d_int d_int)) da_nil)) (dv 1))))))))
theorem ok__law_draw {k : Nat} (B : Bl mg) {f : Addr} {fd : FuncData} (F : FnD K mg "_law_draw" s__law_draw f fd) {sp : DSp} (len : ∀ ds S Q, sp ds S Q → ds.length = 2)
    (h : ∀ ds S Q, sp ds S Q → W__law_draw { nx := fun _ S' => Fin Q .non S', rt := Fin Q } (startD N__law_draw ds) S) : DF P w K mg base (k + 1) "_law_draw" ["well", "many"] sp :=
  fn_d F sc__law_draw (fun _ _ _ _ _ _ us hl => match us, hl with | [_, _], _ => rfl) (fun _ _ _ _ _ _ us hl => match us, hl with | [_, _], _ => rfl) len fun cdv A outer s H E hr => ⟨_, tm__law_draw B cdv A outer s H E hr, h⟩

abbrev s__law_same : Stmt := top 11
abbrev N__law_same : List Str := ["told", "due", "k"]
def W__law_same (sp__law_same : DSp) : DSt :=
  (wSeq (wIf (wT (wOp (rIsD false) (wVar 1) (wC .non))) (wRet (wOp (rIsD false) (wVar 0) (wC .non))) wNext)
    (wSeq (wIf (wT (wIsi "bool" (wVar 1))) (wRet (wIfE (wT (wVar 1)) (wOp (rIsD false) (wVar 0) (wC (.bl true))) (wOp (rIsD false) (wVar 0) (wC (.bl false))))) wNext)
    (wSeq (wIf (wT (wIsi "int" (wVar 1))) (wRet (wAndV (wIsi "int" (wVar 0)) (wAndV (wNotV (wIsi "bool" (wVar 0))) (wOp (rEqD false) (wVar 0) (wVar 1))))) wNext)
    (wSeq (wIf (wT (wIsi "str" (wVar 1))) (wRet (wAndV (wIsi "str" (wVar 0)) (wOp (rEqD false) (wVar 0) (wVar 1)))) wNext)
    (wSeq (wIf (wOrT (wT (wOp (rEqD true) (wIsi "tuple" (wVar 1)) (wIsi "tuple" (wVar 0)))) (wT (wOp (rEqD true) (wIsi "list" (wVar 1)) (wIsi "list" (wVar 0))))) (wRet (wC (.bl false))) wNext)
    (wRet (wAndV (wOp (rEqD false) (wCB rLenD (wCons (wVar 0) wNil)) (wCB rLenD (wCons (wVar 1) wNil))) (wCB rAllD (wCons (wLc (wRng1 (wCB rLenD (wCons (wVar 1) wNil))) (dgName 2) wYes (wCall sp__law_same (wCons (wOp rIxD (wVar 0) (wVar 2)) (wCons (wOp rIxD (wVar 1) (wVar 2)) wNil))) [2]) wNil)))))))))
theorem sc__law_same : FnScope N__law_same ["told", "due"] (defScope s__law_same) := ⟨rfl, rfl, rfl, by decide +kernel, rfl, by decide +kernel, by decide +kernel⟩
theorem tm__law_same {k : Nat} (B : Bl mg) {sp__law_same : DSp} (G__law_same : DF P w K mg base k "_law_same" ["told", "due"] sp__law_same) {f : Addr} (cdv : Value) (A : Around) (outer : List Env) (s : Shared) (H : Hp) (E : XK) (hr : Room k (A.deeper (envOfC "_law_same" (defScope s__law_same) s.heap.objs.size f cdv))) :
    DSs (cxOf CX0 P w K mg base N__law_same "_law_same" (defScope s__law_same) f cdv A outer s H E).nox (defBody s__law_same) (W__law_same sp__law_same) :=
  (dss_cons (ds_if (dt_cmp is_ok (dv 1) d_non (nomark _)) (dss_one (ds_ret (d_cmp is_ok (dv 0) d_non (nomark _)))) dss_nil)
    (dss_cons (ds_if (dt_val (d_isi (.inr (.inl rfl)) B.isinstance B.bool bt_bool (dv 1))) (dss_one (ds_ret (d_ifE (dt_val (dv 1)) (d_cmp is_ok (dv 0) d_bl (nomark _)) (d_cmp is_ok (dv 0) d_bl (nomark _))))) dss_nil)
    (dss_cons (ds_if (dt_val (d_isi (.inl rfl) B.isinstance B.int bt_int (dv 1))) (dss_one (ds_ret (d_and (d_isi (.inl rfl) B.isinstance B.int bt_int (dv 0)) (d_and (d_not (d_isi (.inr (.inl rfl)) B.isinstance B.bool bt_bool (dv 0))) (d_one (d_cmp eq_ok (dv 0) (dv 1) (nomark _))))))) dss_nil)
    (dss_cons (ds_if (dt_val (d_isi (.inr (.inr (.inl rfl))) B.isinstance B.str bt_str (dv 1))) (dss_one (ds_ret (d_and (d_isi (.inr (.inr (.inl rfl))) B.isinstance B.str bt_str (dv 0)) (d_one (d_cmp eq_ok (dv 0) (dv 1) (nomark _)))))) dss_nil)
    (dss_cons (ds_if (dt_pw (dw_or (dt_cmp ne_ok (d_isi (.inr (.inr (.inr (.inl rfl)))) B.isinstance B.tuple bt_tuple (dv 1)) (d_isi (.inr (.inr (.inr (.inl rfl)))) B.isinstance B.tuple bt_tuple (dv 0)) (nomark _)) (dw_or1 (dt_cmp ne_ok (d_isi (.inr (.inr (.inr (.inr rfl)))) B.isinstance B.list bt_list (dv 1)) (d_isi (.inr (.inr (.inr (.inr rfl)))) B.isinstance B.list bt_list (dv 0)) (nomark _))))) (dss_one (ds_ret d_bl)) dss_nil)
    (dss_one (ds_ret (d_and (d_cmp eq_ok (d_callB len_ok B.len bt_len (da_cons (dv 0) da_nil)) (d_callB len_ok B.len bt_len (da_cons (dv 1) da_nil)) (nomark _)) (d_one (d_callB (all_ok rfl) B.all bt_all (da_cons (d_lc rfl sc__law_same.nd (blkOk_by (own := [("k", 2)]) (N := N__law_same) (sc := (defScope s__law_same)) (by decide +kernel)) (di_range1 B.range (d_callB len_ok B.len bt_len (da_cons (dv 1) da_nil))) (fun _ _ _ _ _ => (dg_name (i := 2) sc__law_same.nd)) (fun _ _ _ _ _ => dts_nil) (fun _ _ _ _ _ => (d_call G__law_same hr (da_cons (d_ix ix_ok (dv 0) (dv 2)) (da_cons (d_ix ix_ok (dv 1) (dv 2)) da_nil))))) da_nil)))))))))))
theorem ok__law_same {k : Nat} (B : Bl mg) {sp__law_same : DSp} (G__law_same : DF P w K mg base k "_law_same" ["told", "due"] sp__law_same) {f : Addr} {fd : FuncData} (F : FnD K mg "_law_same" s__law_same f fd) {sp : DSp} (len : ∀ ds S Q, sp ds S Q → ds.length = 2)
    (h : ∀ ds S Q, sp ds S Q → W__law_same sp__law_same { nx := fun _ S' => Fin Q .non S', rt := Fin Q } (startD N__law_same ds) S) : DF P w K mg base (k + 1) "_law_same" ["told", "due"] sp :=
  fn_d F sc__law_same (fun _ _ _ _ _ _ us hl => match us, hl with | [_, _], _ => rfl) (fun _ _ _ _ _ _ us hl => match us, hl with | [_, _], _ => rfl) len fun cdv A outer s H E hr => ⟨_, tm__law_same B G__law_same cdv A outer s H E hr, h⟩

abbrev s__law_lowest : Stmt := top 12
abbrev N__law_lowest : List Str := ["top", "bottom", "one", "two"]
def W__law_lowest : DSt :=
  (wSeq (wPar 2 3 (wCons (wCB rAbsD (wCons (wVar 0) wNil)) (wCons (wVar 1) wNil)))
    (wSeq (wWhile (wT (wOp (rEqD true) (wVar 3) (wC (.int 0)))) (wPar 2 3 (wCons (wVar 3) (wCons (wOp rModD (wCB rIntD (wCons (wVar 2) wNil)) (wVar 3)) wNil))))
    (wRet (wTup (wCons (wOp rFdivD (wVar 0) (wVar 2)) (wCons (wOp rFdivD (wVar 1) (wVar 2)) wNil))))))
theorem sc__law_lowest : FnScope N__law_lowest ["top", "bottom"] (defScope s__law_lowest) := ⟨rfl, rfl, rfl, by decide +kernel, rfl, by decide +kernel, by decide +kernel⟩
theorem tm__law_lowest {k : Nat} (B : Bl mg) {f : Addr} (cdv : Value) (A : Around) (outer : List Env) (s : Shared) (H : Hp) (E : XK) (hr : Room k (A.deeper (envOfC "_law_lowest" (defScope s__law_lowest) s.heap.objs.size f cdv))) :
    DSs (cxOf CX0 P w K mg base N__law_lowest "_law_lowest" (defScope s__law_lowest) f cdv A outer s H E).nox (defBody s__law_lowest) (W__law_lowest) :=
  (dss_cons (ds_par (i := 2) (j := 3) rfl sc__law_lowest.nd (da_cons (d_callB abs_ok B.abs bt_abs (da_cons (dv 0) da_nil)) (da_cons (dv 1) da_nil)))
    (dss_cons (ds_while PassesOwn.never (dt_cmp ne_ok (dv 3) d_int (nomark _)) (dss_one (ds_par (i := 2) (j := 3) rfl sc__law_lowest.nd (da_cons (dv 3) (da_cons (d_op mod_ok (d_callTy int_ok B.int bt_int (da_cons (dv 2) da_nil)) (dv 3)) da_nil)))))
    (dss_one (ds_ret (d_tup (da_cons (d_op fdiv_ok (dv 0) (dv 2)) (da_cons (d_op fdiv_ok (dv 1) (dv 2)) da_nil)))))))
theorem ok__law_lowest {k : Nat} (B : Bl mg) {f : Addr} {fd : FuncData} (F : FnD K mg "_law_lowest" s__law_lowest f fd) {sp : DSp} (len : ∀ ds S Q, sp ds S Q → ds.length = 2)
    (h : ∀ ds S Q, sp ds S Q → W__law_lowest { nx := fun _ S' => Fin Q .non S', rt := Fin Q } (startD N__law_lowest ds) S) : DF P w K mg base (k + 1) "_law_lowest" ["top", "bottom"] sp :=
  fn_d F sc__law_lowest (fun _ _ _ _ _ _ us hl => match us, hl with | [_, _], _ => rfl) (fun _ _ _ _ _ _ us hl => match us, hl with | [_, _], _ => rfl) len fun cdv A outer s H E hr => ⟨_, tm__law_lowest B cdv A outer s H E hr, h⟩

abbrev s__law_power : Stmt := top 13
abbrev N__law_power : List Str := ["many", "power", "turn"]
def W__law_power : DSt :=
  (wSeq (wAsg (wC (.int 1)) (dgName 1))
    (wSeq (wFor (wRng1 (wVar 0)) (dgName 2) (wAsg (wOp rMulD (wC (.int 10)) (wVar 1)) (dgName 1)))
    (wRet (wVar 1))))
theorem sc__law_power : FnScope N__law_power ["many"] (defScope s__law_power) := ⟨rfl, rfl, rfl, by decide +kernel, rfl, by decide +kernel, by decide +kernel⟩
theorem tm__law_power {k : Nat} (B : Bl mg) {f : Addr} (cdv : Value) (A : Around) (outer : List Env) (s : Shared) (H : Hp) (E : XK) (hr : Room k (A.deeper (envOfC "_law_power" (defScope s__law_power) s.heap.objs.size f cdv))) :
    DSs (cxOf CX0 P w K mg base N__law_power "_law_power" (defScope s__law_power) f cdv A outer s H E).nox (defBody s__law_power) (W__law_power) :=
  (dss_cons (ds_set (i := 1) sc__law_power.nd d_int)
    (dss_cons (ds_for PassesOwn.never rfl (di_range1 B.range (dv 0)) (dg_name (i := 2) sc__law_power.nd) (dss_one (ds_set (i := 1) sc__law_power.nd (d_op mul_ok d_int (dv 1)))))
    (dss_one (ds_ret (dv 1)))))
theorem ok__law_power {k : Nat} (B : Bl mg) {f : Addr} {fd : FuncData} (F : FnD K mg "_law_power" s__law_power f fd) {sp : DSp} (len : ∀ ds S Q, sp ds S Q → ds.length = 1)
    (h : ∀ ds S Q, sp ds S Q → W__law_power { nx := fun _ S' => Fin Q .non S', rt := Fin Q } (startD N__law_power ds) S) : DF P w K mg base (k + 1) "_law_power" ["many"] sp :=
  fn_d F sc__law_power (fun _ _ _ _ _ _ us hl => match us, hl with | [_], _ => rfl) (fun _ _ _ _ _ _ us hl => match us, hl with | [_], _ => rfl) len fun cdv A outer s H E hr => ⟨_, tm__law_power B cdv A outer s H E hr, h⟩

abbrev s__law_number : Stmt := top 14
abbrev N__law_number : List Str := ["well", "most", "kind", "side", "great", "bottom"]
def W__law_number (sp__law_draw : DSp) (sp__law_lowest : DSp) (sp__law_power : DSp) : DSt :=
  (wSeq (wPar 2 3 (wCons (wCall sp__law_draw (wCons (wVar 0) (wCons (wC (.int 8)) wNil))) (wCons (wOp rSubD (wC (.int 1)) (wOp rMulD (wC (.int 2)) (wCall sp__law_draw (wCons (wVar 0) (wCons (wC (.int 2)) wNil))))) wNil)))
    (wSeq (wIf (wT (wOp rLtD (wVar 2) (wC (.int 3)))) (wRet (wTup (wCons (wOp rMulD (wCall sp__law_draw (wCons (wVar 0) (wCons (wC (.int 13)) wNil))) (wVar 3)) (wCons (wC (.int 1)) wNil)))) wNext)
    (wSeq (wIf (wT (wOp rLtD (wVar 2) (wC (.int 5)))) (wRet (wCall sp__law_lowest (wCons (wOp rMulD (wVar 3) (wCall sp__law_draw (wCons (wVar 0) (wCons (wC (.int 30)) wNil)))) (wCons (wOp rAddD (wC (.int 1)) (wCall sp__law_draw (wCons (wVar 0) (wCons (wC (.int 8)) wNil)))) wNil)))) wNext)
    (wSeq (wIf (wT (wOp (rEqD false) (wVar 2) (wC (.int 5)))) (wSeq (wAsg (wOp rSubD (wCall sp__law_power (wCons (wVar 1) wNil)) (wC (.int 1))) (dgName 4))
    (wRet (wCall sp__law_lowest (wCons (wOp rMulD (wVar 3) (wOp rSubD (wVar 4) (wCall sp__law_draw (wCons (wVar 0) (wCons (wC (.int 9)) wNil))))) (wCons (wOp rSubD (wVar 4) (wCall sp__law_draw (wCons (wVar 0) (wCons (wC (.int 99)) wNil)))) wNil))))) wNext)
    (wSeq (wIf (wT (wOp (rEqD false) (wVar 2) (wC (.int 6)))) (wRet (wTup (wCons (wOp rMulD (wVar 3) (wOp rAddD (wCall sp__law_power (wCons (wCall sp__law_draw (wCons (wVar 0) (wCons (wVar 1) wNil))) wNil)) (wCall sp__law_draw (wCons (wVar 0) (wCons (wC (.int 2)) wNil))))) (wCons (wC (.int 1)) wNil)))) wNext)
    (wSeq (wAsg (wOp rAddD (wC (.int 1)) (wCall sp__law_draw (wCons (wVar 0) (wCons (wCall sp__law_power (wCons (wCall sp__law_draw (wCons (wVar 0) (wCons (wVar 1) wNil))) wNil)) wNil)))) (dgName 5))
    (wRet (wCall sp__law_lowest (wCons (wOp rMulD (wVar 3) (wCall sp__law_draw (wCons (wVar 0) (wCons (wCall sp__law_power (wCons (wVar 1) wNil)) wNil)))) (wCons (wVar 5) wNil))))))))))
theorem sc__law_number : FnScope N__law_number ["well", "most"] (defScope s__law_number) := ⟨rfl, rfl, rfl, by decide +kernel, rfl, by decide +kernel, by decide +kernel⟩
theorem tm__law_number {k : Nat} (B : Bl mg) {sp__law_draw : DSp} (G__law_draw : DF P w K mg base k "_law_draw" ["well", "many"] sp__law_draw) {sp__law_lowest : DSp} (G__law_lowest : DF P w K mg base k "_law_lowest" ["top", "bottom"] sp__law_lowest) {sp__law_power : DSp} (G__law_power : DF P w K mg base k "_law_power" ["many"] sp__law_power) {f : Addr} (cdv : Value) (A : Around) (outer : List Env) (s : Shared) (H : Hp) (E : XK) (hr : Room k (A.deeper (envOfC "_law_number" (defScope s__law_number) s.heap.objs.size f cdv))) :
    DSs (cxOf CX0 P w K mg base N__law_number "_law_number" (defScope s__law_number) f cdv A outer s H E).nox (defBody s__law_number) (W__law_number sp__law_draw sp__law_lowest sp__law_power) :=
  (dss_cons (ds_par (i := 2) (j := 3) rfl sc__law_number.nd (da_cons (d_call G__law_draw hr (da_cons (dv 0) (da_cons d_int da_nil))) (da_cons (d_op sub_ok d_int (d_op mul_ok d_int (d_call G__law_draw hr (da_cons (dv 0) (da_cons d_int da_nil))))) da_nil)))
    (dss_cons (ds_if (dt_cmp lt_ok (dv 2) d_int (nomark _)) (dss_one (ds_ret (d_tup (da_cons (d_op mul_ok (d_call G__law_draw hr (da_cons (dv 0) (da_cons d_int da_nil))) (dv 3)) (da_cons d_int da_nil))))) dss_nil)
    (dss_cons (ds_if (dt_cmp lt_ok (dv 2) d_int (nomark _)) (dss_one (ds_ret (d_call G__law_lowest hr (da_cons (d_op mul_ok (dv 3) (d_call G__law_draw hr (da_cons (dv 0) (da_cons d_int da_nil)))) (da_cons (d_op add_ok d_int (d_call G__law_draw hr (da_cons (dv 0) (da_cons d_int da_nil)))) da_nil))))) dss_nil)
    (dss_cons (ds_if (dt_cmp eq_ok (dv 2) d_int (nomark _)) (dss_cons (ds_set (i := 4) sc__law_number.nd (d_op sub_ok (d_call G__law_power hr (da_cons (dv 1) da_nil)) d_int))
    (dss_one (ds_ret (d_call G__law_lowest hr (da_cons (d_op mul_ok (dv 3) (d_op sub_ok (dv 4) (d_call G__law_draw hr (da_cons (dv 0) (da_cons d_int da_nil))))) (da_cons (d_op sub_ok (dv 4) (d_call G__law_draw hr (da_cons (dv 0) (da_cons d_int da_nil)))) da_nil)))))) dss_nil)
    (dss_cons (ds_if (dt_cmp eq_ok (dv 2) d_int (nomark _)) (dss_one (ds_ret (d_tup (da_cons (d_op mul_ok (dv 3) (d_op add_ok (d_call G__law_power hr (da_cons (d_call G__law_draw hr (da_cons (dv 0) (da_cons (dv 1) da_nil))) da_nil)) (d_call G__law_draw hr (da_cons (dv 0) (da_cons d_int da_nil))))) (da_cons d_int da_nil))))) dss_nil)
    (dss_cons (ds_set (i := 5) sc__law_number.nd (d_op add_ok d_int (d_call G__law_draw hr (da_cons (dv 0) (da_cons (d_call G__law_power hr (da_cons (d_call G__law_draw hr (da_cons (dv 0) (da_cons (dv 1) da_nil))) da_nil)) da_nil)))))
    (dss_one (ds_ret (d_call G__law_lowest hr (da_cons (d_op mul_ok (dv 3) (d_call G__law_draw hr (da_cons (dv 0) (da_cons (d_call G__law_power hr (da_cons (dv 1) da_nil)) da_nil)))) (da_cons (dv 5) da_nil)))))))))))
theorem ok__law_number {k : Nat} (B : Bl mg) {sp__law_draw : DSp} (G__law_draw : DF P w K mg base k "_law_draw" ["well", "many"] sp__law_draw) {sp__law_lowest : DSp} (G__law_lowest : DF P w K mg base k "_law_lowest" ["top", "bottom"] sp__law_lowest) {sp__law_power : DSp} (G__law_power : DF P w K mg base k "_law_power" ["many"] sp__law_power) {f : Addr} {fd : FuncData} (F : FnD K mg "_law_number" s__law_number f fd) {sp : DSp} (len : ∀ ds S Q, sp ds S Q → ds.length = 2)
    (h : ∀ ds S Q, sp ds S Q → W__law_number sp__law_draw sp__law_lowest sp__law_power { nx := fun _ S' => Fin Q .non S', rt := Fin Q } (startD N__law_number ds) S) : DF P w K mg base (k + 1) "_law_number" ["well", "most"] sp :=
  fn_d F sc__law_number (fun _ _ _ _ _ _ us hl => match us, hl with | [_, _], _ => rfl) (fun _ _ _ _ _ _ us hl => match us, hl with | [_, _], _ => rfl) len fun cdv A outer s H E hr => ⟨_, tm__law_number B G__law_draw G__law_lowest G__law_power cdv A outer s H E hr, h⟩

abbrev s__law_grows : Stmt := top 15
abbrev N__law_grows : List Str := ["table", "a", "b", "c", "d", "size", "trace"]
def W__law_grows : DSt :=
  (wSeq (wAsg (wOp rIxD (wVar 0) (wC (.int 0))) (dgTup 2 (dgCons (dgName 1) (dgCons (dgName 2) dgNil))))
    (wSeq (wAsg (wOp rIxD (wVar 0) (wC (.int 1))) (dgTup 2 (dgCons (dgName 3) (dgCons (dgName 4) dgNil))))
    (wSeq (wPar 5 6 (wCons (wOp rSubD (wOp rMulD (wVar 1) (wVar 4)) (wOp rMulD (wVar 2) (wVar 3))) (wCons (wOp rAddD (wVar 1) (wVar 4)) wNil)))
    (wRet (wOrV (wAndV (wOp rGtD (wVar 5) (wC (.int 1))) (wChain rLeD rLeD (wUn rNegD (wVar 5)) (wVar 6) (wVar 5))) (wAndV (wOp rLtD (wVar 5) (wUn rNegD (wC (.int 1)))) (wChain rLeD rLeD (wOp rAddD (wVar 5) (wC (.int 2))) (wVar 6) (wOp rSubD (wUn rNegD (wVar 5)) (wC (.int 2))))))))))
theorem sc__law_grows : FnScope N__law_grows ["table"] (defScope s__law_grows) := ⟨rfl, rfl, rfl, by decide +kernel, rfl, by decide +kernel, by decide +kernel⟩
theorem tm__law_grows {k : Nat} (B : Bl mg) {f : Addr} (cdv : Value) (A : Around) (outer : List Env) (s : Shared) (H : Hp) (E : XK) (hr : Room k (A.deeper (envOfC "_law_grows" (defScope s__law_grows) s.heap.objs.size f cdv))) :
    DSs (cxOf CX0 P w K mg base N__law_grows "_law_grows" (defScope s__law_grows) f cdv A outer s H E).nox (defBody s__law_grows) (W__law_grows) :=
  (dss_cons (ds_asg (d_ix ix_ok (dv 0) d_int) (dg_tup rfl (dgs_cons (dg_name (i := 1) sc__law_grows.nd) (dgs_cons (dg_name (i := 2) sc__law_grows.nd) dgs_nil))))
    (dss_cons (ds_asg (d_ix ix_ok (dv 0) d_int) (dg_tup rfl (dgs_cons (dg_name (i := 3) sc__law_grows.nd) (dgs_cons (dg_name (i := 4) sc__law_grows.nd) dgs_nil))))
    (dss_cons (ds_par (i := 5) (j := 6) rfl sc__law_grows.nd (da_cons (d_op sub_ok (d_op mul_ok (dv 1) (dv 4)) (d_op mul_ok (dv 2) (dv 3))) (da_cons (d_op add_ok (dv 1) (dv 4)) da_nil)))
    (dss_one (ds_ret (d_or (d_and (d_cmp gt_ok (dv 5) d_int (nomark _)) (d_one (d_chain le_ok le_ok (d_un neg_ok (dv 5)) (dv 6) (dv 5)))) (d_one (d_and (d_cmp lt_ok (dv 5) (d_un neg_ok d_int) (nomark _)) (d_one (d_chain le_ok le_ok (d_op add_ok (dv 5) d_int) (dv 6) (d_op sub_ok (d_un neg_ok (dv 5)) d_int)))))))))))
theorem ok__law_grows {k : Nat} (B : Bl mg) {f : Addr} {fd : FuncData} (F : FnD K mg "_law_grows" s__law_grows f fd) {sp : DSp} (len : ∀ ds S Q, sp ds S Q → ds.length = 1)
    (h : ∀ ds S Q, sp ds S Q → W__law_grows { nx := fun _ S' => Fin Q .non S', rt := Fin Q } (startD N__law_grows ds) S) : DF P w K mg base (k + 1) "_law_grows" ["table"] sp :=
  fn_d F sc__law_grows (fun _ _ _ _ _ _ us hl => match us, hl with | [_], _ => rfl) (fun _ _ _ _ _ _ us hl => match us, hl with | [_], _ => rfl) len fun cdv A outer s H E hr => ⟨_, tm__law_grows B cdv A outer s H E hr, h⟩

abbrev s__law_table : Stmt := top 16
abbrev N__law_table : List Str := ["well", "some", "turn", "a", "b", "c", "d", "spot"]
def W__law_table (sp__law_draw : DSp) (sp__law_grows : DSp) : DSt :=
  (wSeq (wAsg (wLst (wCons (wTup (wCons (wTup (wCons (wC (.int 2)) (wCons (wC (.int 0)) wNil))) (wCons (wTup (wCons (wC (.int 0)) (wCons (wC (.int 2)) wNil))) wNil))) (wCons (wTup (wCons (wTup (wCons (wC (.int 1)) (wCons (wUn rNegD (wC (.int 1))) wNil))) (wCons (wTup (wCons (wC (.int 1)) (wCons (wC (.int 1)) wNil))) wNil))) (wCons (wTup (wCons (wTup (wCons (wC (.int 0)) (wCons (wC (.int 2)) wNil))) (wCons (wTup (wCons (wC (.int 1)) (wCons (wC (.int 0)) wNil))) wNil))) (wCons (wTup (wCons (wTup (wCons (wUn rNegD (wC (.int 2))) (wCons (wC (.int 0)) wNil))) (wCons (wTup (wCons (wC (.int 0)) (wCons (wC (.int 3)) wNil))) wNil))) (wCons (wTup (wCons (wTup (wCons (wC (.int 2)) (wCons (wC (.int 1)) wNil))) (wCons (wTup (wCons (wC (.int 0)) (wCons (wC (.int 2)) wNil))) wNil))) wNil)))))) (dgName 1))
    (wSeq (wAsg (wOp rAddD (wVar 1) (wLst (wCons (wTup (wCons (wTup (wCons (wC (.int 1)) (wCons (wC (.int 2)) wNil))) (wCons (wTup (wCons (wUn rNegD (wC (.int 2))) (wCons (wC (.int 1)) wNil))) wNil))) (wCons (wTup (wCons (wTup (wCons (wC (.int 0)) (wCons (wUn rNegD (wC (.int 3))) wNil))) (wCons (wTup (wCons (wC (.int 1)) (wCons (wC (.int 0)) wNil))) wNil))) (wCons (wTup (wCons (wTup (wCons (wC (.int 0)) (wCons (wC (.int 1)) wNil))) (wCons (wTup (wCons (wUn rNegD (wC (.int 2))) (wCons (wC (.int 0)) wNil))) wNil))) (wCons (wTup (wCons (wTup (wCons (wC (.int 2)) (wCons (wUn rNegD (wC (.int 3))) wNil))) (wCons (wTup (wCons (wC (.int 0)) (wCons (wUn rNegD (wC (.int 3))) wNil))) wNil))) (wCons (wTup (wCons (wTup (wCons (wC (.int 1)) (wCons (wC (.int 1)) wNil))) (wCons (wTup (wCons (wUn rNegD (wC (.int 1))) (wCons (wC (.int 2)) wNil))) wNil))) wNil))))))) (dgName 1))
    (wSeq (wFor (wRng1 (wC (.int 3))) (dgName 2) (wSeq (wAsg (wLc (wRng1 (wC (.int 4))) (dgName 7) wYes (wOp rSubD (wCall sp__law_draw (wCons (wVar 0) (wCons (wC (.int 7)) wNil))) (wC (.int 3))) [7]) (dgTup 4 (dgCons (dgName 3) (dgCons (dgName 4) (dgCons (dgName 5) (dgCons (dgName 6) dgNil))))))
    (wIf (wAndT (wT (wCall sp__law_grows (wCons (wTup (wCons (wTup (wCons (wVar 3) (wCons (wVar 4) wNil))) (wCons (wTup (wCons (wVar 5) (wCons (wVar 6) wNil))) wNil))) wNil))) (wT (wOp rLtD (wCB rAbsD (wCons (wOp rSubD (wOp rMulD (wVar 3) (wVar 6)) (wOp rMulD (wVar 4) (wVar 5))) wNil)) (wC (.int 7))))) (wRet (wTup (wCons (wTup (wCons (wVar 3) (wCons (wVar 4) wNil))) (wCons (wTup (wCons (wVar 5) (wCons (wVar 6) wNil))) wNil)))) wNext)))
    (wRet (wOp rIxD (wVar 1) (wCall sp__law_draw (wCons (wVar 0) (wCons (wC (.int 10)) wNil))))))))
theorem sc__law_table : FnScope N__law_table ["well"] (defScope s__law_table) := ⟨rfl, rfl, rfl, by decide +kernel, rfl, by decide +kernel, by decide +kernel⟩
theorem tm__law_table {k : Nat} (B : Bl mg) {sp__law_draw : DSp} (G__law_draw : DF P w K mg base k "_law_draw" ["well", "many"] sp__law_draw) {sp__law_grows : DSp} (G__law_grows : DF P w K mg base k "_law_grows" ["table"] sp__law_grows) {f : Addr} (cdv : Value) (A : Around) (outer : List Env) (s : Shared) (H : Hp) (E : XK) (hr : Room k (A.deeper (envOfC "_law_table" (defScope s__law_table) s.heap.objs.size f cdv))) :
    DSs (cxOf CX0 P w K mg base N__law_table "_law_table" (defScope s__law_table) f cdv A outer s H E).nox (defBody s__law_table) (W__law_table sp__law_draw sp__law_grows) :=
  (dss_cons (ds_set (i := 1) sc__law_table.nd (d_lst (da_cons (d_tup (da_cons (d_tup (da_cons d_int (da_cons d_int da_nil))) (da_cons (d_tup (da_cons d_int (da_cons d_int da_nil))) da_nil))) (da_cons (d_tup (da_cons (d_tup (da_cons d_int (da_cons (d_un neg_ok d_int) da_nil))) (da_cons (d_tup (da_cons d_int (da_cons d_int da_nil))) da_nil))) (da_cons (d_tup (da_cons (d_tup (da_cons d_int (da_cons d_int da_nil))) (da_cons (d_tup (da_cons d_int (da_cons d_int da_nil))) da_nil))) (da_cons (d_tup (da_cons (d_tup (da_cons (d_un neg_ok d_int) (da_cons d_int da_nil))) (da_cons (d_tup (da_cons d_int (da_cons d_int da_nil))) da_nil))) (da_cons (d_tup (da_cons (d_tup (da_cons d_int (da_cons d_int da_nil))) (da_cons (d_tup (da_cons d_int (da_cons d_int da_nil))) da_nil))) da_nil)))))))
    (dss_cons (ds_set (i := 1) sc__law_table.nd (d_op add_ok (dv 1) (d_lst (da_cons (d_tup (da_cons (d_tup (da_cons d_int (da_cons d_int da_nil))) (da_cons (d_tup (da_cons (d_un neg_ok d_int) (da_cons d_int da_nil))) da_nil))) (da_cons (d_tup (da_cons (d_tup (da_cons d_int (da_cons (d_un neg_ok d_int) da_nil))) (da_cons (d_tup (da_cons d_int (da_cons d_int da_nil))) da_nil))) (da_cons (d_tup (da_cons (d_tup (da_cons d_int (da_cons d_int da_nil))) (da_cons (d_tup (da_cons (d_un neg_ok d_int) (da_cons d_int da_nil))) da_nil))) (da_cons (d_tup (da_cons (d_tup (da_cons d_int (da_cons (d_un neg_ok d_int) da_nil))) (da_cons (d_tup (da_cons d_int (da_cons (d_un neg_ok d_int) da_nil))) da_nil))) (da_cons (d_tup (da_cons (d_tup (da_cons d_int (da_cons d_int da_nil))) (da_cons (d_tup (da_cons (d_un neg_ok d_int) (da_cons d_int da_nil))) da_nil))) da_nil))))))))
    (dss_cons (ds_for PassesOwn.never rfl (di_range1 B.range d_int) (dg_name (i := 2) sc__law_table.nd) (dss_cons (ds_asg (d_lc rfl sc__law_table.nd (blkOk_by (own := [("spot", 7)]) (N := N__law_table) (sc := (defScope s__law_table)) (by decide +kernel)) (di_range1 B.range d_int) (fun _ _ _ _ _ => (dg_name (i := 7) sc__law_table.nd)) (fun _ _ _ _ _ => dts_nil) (fun _ _ _ _ _ => (d_op sub_ok (d_call G__law_draw hr (da_cons (dv 0) (da_cons d_int da_nil))) d_int))) (dg_tup rfl (dgs_cons (dg_name (i := 3) sc__law_table.nd) (dgs_cons (dg_name (i := 4) sc__law_table.nd) (dgs_cons (dg_name (i := 5) sc__law_table.nd) (dgs_cons (dg_name (i := 6) sc__law_table.nd) dgs_nil))))))
    (dss_one (ds_if (dt_pw (dw_and (dt_val (d_call G__law_grows hr (da_cons (d_tup (da_cons (d_tup (da_cons (dv 3) (da_cons (dv 4) da_nil))) (da_cons (d_tup (da_cons (dv 5) (da_cons (dv 6) da_nil))) da_nil))) da_nil))) (dw_and1 (dt_cmp lt_ok (d_callB abs_ok B.abs bt_abs (da_cons (d_op sub_ok (d_op mul_ok (dv 3) (dv 6)) (d_op mul_ok (dv 4) (dv 5))) da_nil)) d_int (nomark _))))) (dss_one (ds_ret (d_tup (da_cons (d_tup (da_cons (dv 3) (da_cons (dv 4) da_nil))) (da_cons (d_tup (da_cons (dv 5) (da_cons (dv 6) da_nil))) da_nil))))) dss_nil))))
    (dss_one (ds_ret (d_ix ix_ok (dv 1) (d_call G__law_draw hr (da_cons (dv 0) (da_cons d_int da_nil)))))))))
theorem ok__law_table {k : Nat} (B : Bl mg) {sp__law_draw : DSp} (G__law_draw : DF P w K mg base k "_law_draw" ["well", "many"] sp__law_draw) {sp__law_grows : DSp} (G__law_grows : DF P w K mg base k "_law_grows" ["table"] sp__law_grows) {f : Addr} {fd : FuncData} (F : FnD K mg "_law_table" s__law_table f fd) {sp : DSp} (len : ∀ ds S Q, sp ds S Q → ds.length = 1)
    (h : ∀ ds S Q, sp ds S Q → W__law_table sp__law_draw sp__law_grows { nx := fun _ S' => Fin Q .non S', rt := Fin Q } (startD N__law_table ds) S) : DF P w K mg base (k + 1) "_law_table" ["well"] sp :=
  fn_d F sc__law_table (fun _ _ _ _ _ _ us hl => match us, hl with | [_], _ => rfl) (fun _ _ _ _ _ _ us hl => match us, hl with | [_], _ => rfl) len fun cdv A outer s H E hr => ⟨_, tm__law_table B G__law_draw G__law_grows cdv A outer s H E hr, h⟩

abbrev s__law_copies : Stmt := top 17
abbrev N__law_copies : List Str := ["well", "many", "wide", "states", "found", "turn", "step"]
def W__law_copies (sp__law_draw : DSp) : DSt :=
  (wSeq (wAsg (wLstM wNil) (dgName 4))
    (wSeq (wFor (wRng1 (wVar 1)) (dgName 5) (wSeq (wAsg (wTup (wCons (wOp rSubD (wCall sp__law_draw (wCons (wVar 0) (wCons (wOp rAddD (wOp rMulD (wC (.int 2)) (wVar 2)) (wC (.int 1))) wNil))) (wVar 2)) (wCons (wOp rSubD (wCall sp__law_draw (wCons (wVar 0) (wCons (wOp rAddD (wOp rMulD (wC (.int 2)) (wVar 2)) (wC (.int 1))) wNil))) (wVar 2)) wNil))) (dgName 6))
    (wDrop (wAppend (wVar 4) (wTup (wCons (wVar 6) (wCons (wCall sp__law_draw (wCons (wVar 0) (wCons (wVar 3) wNil))) wNil)))))))
    (wRet (wCB rTupleD (wCons (wSortSet (wVar 4)) wNil)))))
theorem sc__law_copies : FnScope N__law_copies ["well", "many", "wide", "states"] (defScope s__law_copies) := ⟨rfl, rfl, rfl, by decide +kernel, rfl, by decide +kernel, by decide +kernel⟩
theorem tm__law_copies {k : Nat} (B : Bl mg) {sp__law_draw : DSp} (G__law_draw : DF P w K mg base k "_law_draw" ["well", "many"] sp__law_draw) {f : Addr} (cdv : Value) (A : Around) (outer : List Env) (s : Shared) (H : Hp) (E : XK) (hr : Room k (A.deeper (envOfC "_law_copies" (defScope s__law_copies) s.heap.objs.size f cdv))) :
    DSs (cxOf CX0 P w K mg base N__law_copies "_law_copies" (defScope s__law_copies) f cdv A outer s H E).nox (defBody s__law_copies) (W__law_copies sp__law_draw) :=
  (dss_cons (ds_set (i := 4) sc__law_copies.nd (d_lstM da_nil))
    (dss_cons (ds_for PassesOwn.never rfl (di_range1 B.range (dv 1)) (dg_name (i := 5) sc__law_copies.nd) (dss_cons (ds_set (i := 6) sc__law_copies.nd (d_tup (da_cons (d_op sub_ok (d_call G__law_draw hr (da_cons (dv 0) (da_cons (d_op add_ok (d_op mul_ok d_int (dv 2)) d_int) da_nil))) (dv 2)) (da_cons (d_op sub_ok (d_call G__law_draw hr (da_cons (dv 0) (da_cons (d_op add_ok (d_op mul_ok d_int (dv 2)) d_int) da_nil))) (dv 2)) da_nil))))
    (dss_one (ds_expr (d_append (dv 4) (d_tup (da_cons (dv 6) (da_cons (d_call G__law_draw hr (da_cons (dv 0) (da_cons (dv 3) da_nil))) da_nil))))))))
    (dss_one (ds_ret (d_callTy tuple_ok B.tuple bt_tuple (da_cons (d_sortset rfl hr.units B (dv 4)) da_nil))))))
theorem ok__law_copies {k : Nat} (B : Bl mg) {sp__law_draw : DSp} (G__law_draw : DF P w K mg base k "_law_draw" ["well", "many"] sp__law_draw) {f : Addr} {fd : FuncData} (F : FnD K mg "_law_copies" s__law_copies f fd) {sp : DSp} (len : ∀ ds S Q, sp ds S Q → ds.length = 4)
    (h : ∀ ds S Q, sp ds S Q → W__law_copies sp__law_draw { nx := fun _ S' => Fin Q .non S', rt := Fin Q } (startD N__law_copies ds) S) : DF P w K mg base (k + 1) "_law_copies" ["well", "many", "wide", "states"] sp :=
  fn_d F sc__law_copies (fun _ _ _ _ _ _ us hl => match us, hl with | [_, _, _, _], _ => rfl) (fun _ _ _ _ _ _ us hl => match us, hl with | [_, _, _, _], _ => rfl) len fun cdv A outer s H E hr => ⟨_, tm__law_copies B G__law_draw cdv A outer s H E hr, h⟩

abbrev s__law_product : Stmt := top 18
abbrev N__law_product : List Str := ["one", "other", "rows", "row", "at"]
def W__law_product : DSt :=
  (wSeq (wAsg (wLstM wNil) (dgName 2))
    (wSeq (wFor (wItS (wVar 0)) (dgName 3) (wDrop (wAppend (wVar 2) (wCB rTupleD (wCons (wLc (wRng1 (wC (.int 2))) (dgName 4) wYes (wOp rAddD (wOp rMulD (wOp rIxD (wVar 3) (wC (.int 0))) (wOp rIxD (wOp rIxD (wVar 1) (wC (.int 0))) (wVar 4))) (wOp rMulD (wOp rIxD (wVar 3) (wC (.int 1))) (wOp rIxD (wOp rIxD (wVar 1) (wC (.int 1))) (wVar 4)))) [4]) wNil)))))
    (wRet (wCB rTupleD (wCons (wVar 2) wNil)))))
theorem sc__law_product : FnScope N__law_product ["one", "other"] (defScope s__law_product) := ⟨rfl, rfl, rfl, by decide +kernel, rfl, by decide +kernel, by decide +kernel⟩
theorem tm__law_product {k : Nat} (B : Bl mg) {f : Addr} (cdv : Value) (A : Around) (outer : List Env) (s : Shared) (H : Hp) (E : XK) (hr : Room k (A.deeper (envOfC "_law_product" (defScope s__law_product) s.heap.objs.size f cdv))) :
    DSs (cxOf CX0 P w K mg base N__law_product "_law_product" (defScope s__law_product) f cdv A outer s H E).nox (defBody s__law_product) (W__law_product) :=
  (dss_cons (ds_set (i := 2) sc__law_product.nd (d_lstM da_nil))
    (dss_cons (ds_for PassesOwn.never rfl (di_seq (dv 0)) (dg_name (i := 3) sc__law_product.nd) (dss_one (ds_expr (d_append (dv 2) (d_callTy tuple_ok B.tuple bt_tuple (da_cons (d_lc rfl sc__law_product.nd (blkOk_by (own := [("at", 4)]) (N := N__law_product) (sc := (defScope s__law_product)) (by decide +kernel)) (di_range1 B.range d_int) (fun _ _ _ _ _ => (dg_name (i := 4) sc__law_product.nd)) (fun _ _ _ _ _ => dts_nil) (fun _ _ _ _ _ => (d_op add_ok (d_op mul_ok (d_ix ix_ok (dv 3) d_int) (d_ix ix_ok (d_ix ix_ok (dv 1) d_int) (dv 4))) (d_op mul_ok (d_ix ix_ok (dv 3) d_int) (d_ix ix_ok (d_ix ix_ok (dv 1) d_int) (dv 4)))))) da_nil))))))
    (dss_one (ds_ret (d_callTy tuple_ok B.tuple bt_tuple (da_cons (dv 2) da_nil))))))
theorem ok__law_product {k : Nat} (B : Bl mg) {f : Addr} {fd : FuncData} (F : FnD K mg "_law_product" s__law_product f fd) {sp : DSp} (len : ∀ ds S Q, sp ds S Q → ds.length = 2)
    (h : ∀ ds S Q, sp ds S Q → W__law_product { nx := fun _ S' => Fin Q .non S', rt := Fin Q } (startD N__law_product ds) S) : DF P w K mg base (k + 1) "_law_product" ["one", "other"] sp :=
  fn_d F sc__law_product (fun _ _ _ _ _ _ us hl => match us, hl with | [_, _], _ => rfl) (fun _ _ _ _ _ _ us hl => match us, hl with | [_, _], _ => rfl) len fun cdv A outer s H E hr => ⟨_, tm__law_product B cdv A outer s H E hr, h⟩

abbrev s__law_kit : Stmt := top 19
abbrev N__law_kit : List Str := ["well", "states", "table", "power", "most", "rows", "turn", "wide"]
def W__law_kit (sp__law_copies : DSp) (sp__law_draw : DSp) (sp__law_product : DSp) (sp__law_table : DSp) : DSt :=
  (wSeq (wPar 1 2 (wCons (wOp rIxD (wLst (wCons (wC (.int 1)) (wCons (wC (.int 2)) (wCons (wC (.int 3)) (wCons (wC (.int 4)) (wCons (wC (.int 4)) (wCons (wC (.int 12)) (wCons (wC (.int 40)) wNil)))))))) (wCall sp__law_draw (wCons (wVar 0) (wCons (wC (.int 7)) wNil)))) (wCons (wCall sp__law_table (wCons (wVar 0) wNil)) wNil)))
    (wSeq (wPar3 3 4 5 (wCons (wVar 2) (wCons (wOp rIxD (wLst (wCons (wC (.int 6)) (wCons (wC (.int 6)) (wCons (wC (.int 20)) wNil)))) (wCall sp__law_draw (wCons (wVar 0) (wCons (wC (.int 3)) wNil)))) (wCons (wLstM wNil) wNil))))
    (wSeq (wIf (wT (wOp rLtD (wVar 1) (wC (.int 5)))) (wAsg (wOp rIxD (wLst (wCons (wC (.int 6)) (wCons (wC (.int 6)) (wCons (wC (.int 6)) (wCons (wC (.int 40)) (wCons (wC (.int 216)) (wCons (wOp rFdivD (wC (.int 900)) (wVar 1)) wNil))))))) (wCall sp__law_draw (wCons (wVar 0) (wCons (wC (.int 6)) wNil)))) (dgName 4)) wNext)
    (wSeq (wFor (wRng1 (wVar 1)) (dgName 6) (wSeq (wAsg (wIfE (wT (wOp rLtD (wVar 4) (wC (.int 7)))) (wOp rIxD (wLst (wCons (wC (.int 1)) (wCons (wC (.int 4)) (wCons (wC (.int 4)) (wCons (wC (.int 999999999)) wNil))))) (wCall sp__law_draw (wCons (wVar 0) (wCons (wC (.int 4)) wNil)))) (wC (.int 40))) (dgName 7))
    (wDrop (wAppend (wVar 5) (wCall sp__law_copies (wCons (wVar 0) (wCons (wOp rAddD (wC (.int 1)) (wCall sp__law_draw (wCons (wVar 0) (wCons (wVar 4) wNil)))) (wCons (wVar 7) (wCons (wVar 1) wNil)))))))))
    (wSeq (wFor (wRng1 (wOp rIxD (wLst (wCons (wC (.int 0)) (wCons (wC (.int 0)) (wCons (wC (.int 0)) (wCons (wC (.int 1)) (wCons (wC (.int 3)) (wCons (wC (.int 8)) wNil))))))) (wCall sp__law_draw (wCons (wVar 0) (wCons (wC (.int 6)) wNil))))) (dgName 6) (wAsg (wCall sp__law_product (wCons (wVar 2) (wCons (wVar 3) wNil))) (dgName 3)))
    (wRet (wTup (wCons (wVar 3) (wCons (wCB rTupleD (wCons (wVar 5) wNil)) wNil)))))))))
theorem sc__law_kit : FnScope N__law_kit ["well"] (defScope s__law_kit) := ⟨rfl, rfl, rfl, by decide +kernel, rfl, by decide +kernel, by decide +kernel⟩
theorem tm__law_kit {k : Nat} (B : Bl mg) {sp__law_copies : DSp} (G__law_copies : DF P w K mg base k "_law_copies" ["well", "many", "wide", "states"] sp__law_copies) {sp__law_draw : DSp} (G__law_draw : DF P w K mg base k "_law_draw" ["well", "many"] sp__law_draw) {sp__law_product : DSp} (G__law_product : DF P w K mg base k "_law_product" ["one", "other"] sp__law_product) {sp__law_table : DSp} (G__law_table : DF P w K mg base k "_law_table" ["well"] sp__law_table) {f : Addr} (cdv : Value) (A : Around) (outer : List Env) (s : Shared) (H : Hp) (E : XK) (hr : Room k (A.deeper (envOfC "_law_kit" (defScope s__law_kit) s.heap.objs.size f cdv))) :
    DSs (cxOf CX0 P w K mg base N__law_kit "_law_kit" (defScope s__law_kit) f cdv A outer s H E).nox (defBody s__law_kit) (W__law_kit sp__law_copies sp__law_draw sp__law_product sp__law_table) :=
  (dss_cons (ds_par (i := 1) (j := 2) rfl sc__law_kit.nd (da_cons (d_ix ix_ok (d_lst (da_cons d_int (da_cons d_int (da_cons d_int (da_cons d_int (da_cons d_int (da_cons d_int (da_cons d_int da_nil)))))))) (d_call G__law_draw hr (da_cons (dv 0) (da_cons d_int da_nil)))) (da_cons (d_call G__law_table hr (da_cons (dv 0) da_nil)) da_nil)))
    (dss_cons (ds_par3 (i := 3) (j := 4) (l := 5) rfl sc__law_kit.nd (da_cons (dv 2) (da_cons (d_ix ix_ok (d_lst (da_cons d_int (da_cons d_int (da_cons d_int da_nil)))) (d_call G__law_draw hr (da_cons (dv 0) (da_cons d_int da_nil)))) (da_cons (d_lstM da_nil) da_nil))))
    (dss_cons (ds_if (dt_cmp lt_ok (dv 1) d_int (nomark _)) (dss_one (ds_set (i := 4) sc__law_kit.nd (d_ix ix_ok (d_lst (da_cons d_int (da_cons d_int (da_cons d_int (da_cons d_int (da_cons d_int (da_cons (d_op fdiv_ok d_int (dv 1)) da_nil))))))) (d_call G__law_draw hr (da_cons (dv 0) (da_cons d_int da_nil)))))) dss_nil)
    (dss_cons (ds_for PassesOwn.never rfl (di_range1 B.range (dv 1)) (dg_name (i := 6) sc__law_kit.nd) (dss_cons (ds_set (i := 7) sc__law_kit.nd (d_ifE (dt_cmp lt_ok (dv 4) d_int (nomark _)) (d_ix ix_ok (d_lst (da_cons d_int (da_cons d_int (da_cons d_int (da_cons d_int da_nil))))) (d_call G__law_draw hr (da_cons (dv 0) (da_cons d_int da_nil)))) d_int))
    (dss_one (ds_expr (d_append (dv 5) (d_call G__law_copies hr (da_cons (dv 0) (da_cons (d_op add_ok d_int (d_call G__law_draw hr (da_cons (dv 0) (da_cons (dv 4) da_nil)))) (da_cons (dv 7) (da_cons (dv 1) da_nil))))))))))
    (dss_cons (ds_for PassesOwn.never rfl (di_range1 B.range (d_ix ix_ok (d_lst (da_cons d_int (da_cons d_int (da_cons d_int (da_cons d_int (da_cons d_int (da_cons d_int da_nil))))))) (d_call G__law_draw hr (da_cons (dv 0) (da_cons d_int da_nil))))) (dg_name (i := 6) sc__law_kit.nd) (dss_one (ds_set (i := 3) sc__law_kit.nd (d_call G__law_product hr (da_cons (dv 2) (da_cons (dv 3) da_nil))))))
    (dss_one (ds_ret (d_tup (da_cons (dv 3) (da_cons (d_callTy tuple_ok B.tuple bt_tuple (da_cons (dv 5) da_nil)) da_nil))))))))))
theorem ok__law_kit {k : Nat} (B : Bl mg) {sp__law_copies : DSp} (G__law_copies : DF P w K mg base k "_law_copies" ["well", "many", "wide", "states"] sp__law_copies) {sp__law_draw : DSp} (G__law_draw : DF P w K mg base k "_law_draw" ["well", "many"] sp__law_draw) {sp__law_product : DSp} (G__law_product : DF P w K mg base k "_law_product" ["one", "other"] sp__law_product) {sp__law_table : DSp} (G__law_table : DF P w K mg base k "_law_table" ["well"] sp__law_table) {f : Addr} {fd : FuncData} (F : FnD K mg "_law_kit" s__law_kit f fd) {sp : DSp} (len : ∀ ds S Q, sp ds S Q → ds.length = 1)
    (h : ∀ ds S Q, sp ds S Q → W__law_kit sp__law_copies sp__law_draw sp__law_product sp__law_table { nx := fun _ S' => Fin Q .non S', rt := Fin Q } (startD N__law_kit ds) S) : DF P w K mg base (k + 1) "_law_kit" ["well"] sp :=
  fn_d F sc__law_kit (fun _ _ _ _ _ _ us hl => match us, hl with | [_], _ => rfl) (fun _ _ _ _ _ _ us hl => match us, hl with | [_], _ => rfl) len fun cdv A outer s H E hr => ⟨_, tm__law_kit B G__law_copies G__law_draw G__law_product G__law_table cdv A outer s H E hr, h⟩

abbrev s__law_address : Stmt := top 20
abbrev N__law_address : List Str := ["well", "sizes", "wide", "size", "turn"]
def W__law_address (sp__law_draw : DSp) : DSt :=
  (wSeq (wAsg (wLst (wCons (wOp rIxD (wLst (wCons (wC (.int 0)) (wCons (wC (.int 1)) (wCons (wC (.int 2)) (wCons (wC (.int 7)) (wCons (wC (.int 40)) wNil)))))) (wCall sp__law_draw (wCons (wVar 0) (wCons (wC (.int 5)) wNil)))) (wCons (wOp rIxD (wLst (wCons (wC (.int 1)) (wCons (wC (.int 1)) (wCons (wC (.int 2)) (wCons (wC (.int 3)) (wCons (wC (.int 9)) (wCons (wC (.int 96)) (wCons (wC (.int 3000)) wNil)))))))) (wCall sp__law_draw (wCons (wVar 0) (wCons (wC (.int 7)) wNil)))) wNil))) (dgName 1))
    (wSeq (wAsg (wOp rIxD (wLst (wCons (wC (.int 2)) (wCons (wC (.int 6)) (wCons (wC (.int 36)) (wCons (wC (.int 100000000)) wNil))))) (wCall sp__law_draw (wCons (wVar 0) (wCons (wC (.int 4)) wNil)))) (dgName 2))
    (wRet (wCB rTupleD (wCons (wLc (wItS (wVar 1)) (dgName 3) wYes (wCB rTupleD (wCons (wLc (wRng1 (wVar 3)) (dgName 4) wYes (wCall sp__law_draw (wCons (wVar 0) (wCons (wVar 2) wNil))) [4]) wNil)) [3]) wNil)))))
theorem sc__law_address : FnScope N__law_address ["well"] (defScope s__law_address) := ⟨rfl, rfl, rfl, by decide +kernel, rfl, by decide +kernel, by decide +kernel⟩
theorem tm__law_address {k : Nat} (B : Bl mg) {sp__law_draw : DSp} (G__law_draw : DF P w K mg base k "_law_draw" ["well", "many"] sp__law_draw) {f : Addr} (cdv : Value) (A : Around) (outer : List Env) (s : Shared) (H : Hp) (E : XK) (hr : Room k (A.deeper (envOfC "_law_address" (defScope s__law_address) s.heap.objs.size f cdv))) :
    DSs (cxOf CX0 P w K mg base N__law_address "_law_address" (defScope s__law_address) f cdv A outer s H E).nox (defBody s__law_address) (W__law_address sp__law_draw) :=
  (dss_cons (ds_set (i := 1) sc__law_address.nd (d_lst (da_cons (d_ix ix_ok (d_lst (da_cons d_int (da_cons d_int (da_cons d_int (da_cons d_int (da_cons d_int da_nil)))))) (d_call G__law_draw hr (da_cons (dv 0) (da_cons d_int da_nil)))) (da_cons (d_ix ix_ok (d_lst (da_cons d_int (da_cons d_int (da_cons d_int (da_cons d_int (da_cons d_int (da_cons d_int (da_cons d_int da_nil)))))))) (d_call G__law_draw hr (da_cons (dv 0) (da_cons d_int da_nil)))) da_nil))))
    (dss_cons (ds_set (i := 2) sc__law_address.nd (d_ix ix_ok (d_lst (da_cons d_int (da_cons d_int (da_cons d_int (da_cons d_int da_nil))))) (d_call G__law_draw hr (da_cons (dv 0) (da_cons d_int da_nil)))))
    (dss_one (ds_ret (d_callTy tuple_ok B.tuple bt_tuple (da_cons (d_lc rfl sc__law_address.nd (blkOk_by (own := [("size", 3)]) (N := N__law_address) (sc := (defScope s__law_address)) (by decide +kernel)) (di_seq (dv 1)) (fun _ _ _ _ _ => (dg_name (i := 3) sc__law_address.nd)) (fun _ _ _ _ _ => dts_nil) (fun _ _ _ _ _ => (d_callTy tuple_ok B.tuple bt_tuple (da_cons (d_lc rfl sc__law_address.nd (blkOk_by (own := [("turn", 4)]) (N := N__law_address) (sc := _) rfl) (di_range1 B.range (dv 3)) (fun _ _ _ _ _ => (dg_name (i := 4) sc__law_address.nd)) (fun _ _ _ _ _ => dts_nil) (fun _ _ _ _ _ => (d_call G__law_draw hr (da_cons (dv 0) (da_cons (dv 2) da_nil))))) da_nil)))) da_nil))))))
theorem ok__law_address {k : Nat} (B : Bl mg) {sp__law_draw : DSp} (G__law_draw : DF P w K mg base k "_law_draw" ["well", "many"] sp__law_draw) {f : Addr} {fd : FuncData} (F : FnD K mg "_law_address" s__law_address f fd) {sp : DSp} (len : ∀ ds S Q, sp ds S Q → ds.length = 1)
    (h : ∀ ds S Q, sp ds S Q → W__law_address sp__law_draw { nx := fun _ S' => Fin Q .non S', rt := Fin Q } (startD N__law_address ds) S) : DF P w K mg base (k + 1) "_law_address" ["well"] sp :=
  fn_d F sc__law_address (fun _ _ _ _ _ _ us hl => match us, hl with | [_], _ => rfl) (fun _ _ _ _ _ _ us hl => match us, hl with | [_], _ => rfl) len fun cdv A outer s H E hr => ⟨_, tm__law_address B G__law_draw cdv A outer s H E hr, h⟩

abbrev s__law_said_number : Stmt := top 21
abbrev N__law_said_number : List Str := ["number"]
def W__law_said_number : DSt :=
  (wSeq (wIf (wT (wOp (rEqD false) (wOp rIxD (wVar 0) (wC (.int 1))) (wC (.int 1)))) (wRet (wCB rStrD (wCons (wOp rIxD (wVar 0) (wC (.int 0))) wNil))) wNext)
    (wRet (wOp rAddD (wOp rAddD (wCB rStrD (wCons (wOp rIxD (wVar 0) (wC (.int 0))) wNil)) (wC (.str "/"))) (wCB rStrD (wCons (wOp rIxD (wVar 0) (wC (.int 1))) wNil)))))
theorem sc__law_said_number : FnScope N__law_said_number ["number"] (defScope s__law_said_number) := ⟨rfl, rfl, rfl, by decide +kernel, rfl, by decide +kernel, by decide +kernel⟩
theorem tm__law_said_number {k : Nat} (B : Bl mg) {f : Addr} (cdv : Value) (A : Around) (outer : List Env) (s : Shared) (H : Hp) (E : XK) (hr : Room k (A.deeper (envOfC "_law_said_number" (defScope s__law_said_number) s.heap.objs.size f cdv))) :
    DSs (cxOf CX0 P w K mg base N__law_said_number "_law_said_number" (defScope s__law_said_number) f cdv A outer s H E).nox (defBody s__law_said_number) (W__law_said_number) :=
  (dss_cons (ds_if (dt_cmp eq_ok (d_ix ix_ok (dv 0) d_int) d_int (nomark _)) (dss_one (ds_ret (d_callTy str_ok B.str bt_str (da_cons (d_ix ix_ok (dv 0) d_int) da_nil)))) dss_nil)
    (dss_one (ds_ret (d_op add_ok (d_op add_ok (d_callTy str_ok B.str bt_str (da_cons (d_ix ix_ok (dv 0) d_int) da_nil)) d_str) (d_callTy str_ok B.str bt_str (da_cons (d_ix ix_ok (dv 0) d_int) da_nil))))))
theorem ok__law_said_number {k : Nat} (B : Bl mg) {f : Addr} {fd : FuncData} (F : FnD K mg "_law_said_number" s__law_said_number f fd) {sp : DSp} (len : ∀ ds S Q, sp ds S Q → ds.length = 1)
    (h : ∀ ds S Q, sp ds S Q → W__law_said_number { nx := fun _ S' => Fin Q .non S', rt := Fin Q } (startD N__law_said_number ds) S) : DF P w K mg base (k + 1) "_law_said_number" ["number"] sp :=
  fn_d F sc__law_said_number (fun _ _ _ _ _ _ us hl => match us, hl with | [_], _ => rfl) (fun _ _ _ _ _ _ us hl => match us, hl with | [_], _ => rfl) len fun cdv A outer s H E hr => ⟨_, tm__law_said_number B cdv A outer s H E hr, h⟩

abbrev s__law_said_address : Stmt := top 22
abbrev N__law_said_address : List Str := ["address", "words", "place"]
def W__law_said_address : DSt :=
  (wSeq (wAsg (wOp rAddD (wOp rAddD (wOp rAddD (wLc (wItS (wOp rIxD (wVar 0) (wC (.int 0)))) (dgName 2) wYes (wCB rStrD (wCons (wVar 2) wNil)) [2]) (wLst (wCons (wC (.str "(")) wNil))) (wLc (wItS (wOp rIxD (wVar 0) (wC (.int 1)))) (dgName 2) wYes (wCB rStrD (wCons (wVar 2) wNil)) [2])) (wLst (wCons (wC (.str ")")) wNil))) (dgName 1))
    (wRet (wM1 rJoinD (wC (.str " ")) (wVar 1))))
theorem sc__law_said_address : FnScope N__law_said_address ["address"] (defScope s__law_said_address) := ⟨rfl, rfl, rfl, by decide +kernel, rfl, by decide +kernel, by decide +kernel⟩
theorem tm__law_said_address {k : Nat} (B : Bl mg) {f : Addr} (cdv : Value) (A : Around) (outer : List Env) (s : Shared) (H : Hp) (E : XK) (hr : Room k (A.deeper (envOfC "_law_said_address" (defScope s__law_said_address) s.heap.objs.size f cdv))) :
    DSs (cxOf CX0 P w K mg base N__law_said_address "_law_said_address" (defScope s__law_said_address) f cdv A outer s H E).nox (defBody s__law_said_address) (W__law_said_address) :=
  (dss_cons (ds_set (i := 1) sc__law_said_address.nd (d_op add_ok (d_op add_ok (d_op add_ok (d_lc rfl sc__law_said_address.nd (blkOk_by (own := [("place", 2)]) (N := N__law_said_address) (sc := (defScope s__law_said_address)) (by decide +kernel)) (di_seq (d_ix ix_ok (dv 0) d_int)) (fun _ _ _ _ _ => (dg_name (i := 2) sc__law_said_address.nd)) (fun _ _ _ _ _ => dts_nil) (fun _ _ _ _ _ => (d_callTy str_ok B.str bt_str (da_cons (dv 2) da_nil)))) (d_lst (da_cons d_str da_nil))) (d_lc rfl sc__law_said_address.nd (blkOk_by (own := [("place", 2)]) (N := N__law_said_address) (sc := (defScope s__law_said_address)) (by decide +kernel)) (di_seq (d_ix ix_ok (dv 0) d_int)) (fun _ _ _ _ _ => (dg_name (i := 2) sc__law_said_address.nd)) (fun _ _ _ _ _ => dts_nil) (fun _ _ _ _ _ => (d_callTy str_ok B.str bt_str (da_cons (dv 2) da_nil))))) (d_lst (da_cons d_str da_nil))))
    (dss_one (ds_ret (d_join d_str (dv 1)))))
theorem ok__law_said_address {k : Nat} (B : Bl mg) {f : Addr} {fd : FuncData} (F : FnD K mg "_law_said_address" s__law_said_address f fd) {sp : DSp} (len : ∀ ds S Q, sp ds S Q → ds.length = 1)
    (h : ∀ ds S Q, sp ds S Q → W__law_said_address { nx := fun _ S' => Fin Q .non S', rt := Fin Q } (startD N__law_said_address ds) S) : DF P w K mg base (k + 1) "_law_said_address" ["address"] sp :=
  fn_d F sc__law_said_address (fun _ _ _ _ _ _ us hl => match us, hl with | [_], _ => rfl) (fun _ _ _ _ _ _ us hl => match us, hl with | [_], _ => rfl) len fun cdv A outer s H E hr => ⟨_, tm__law_said_address B cdv A outer s H E hr, h⟩

abbrev s__law_said_copies : Stmt := top 23
abbrev N__law_said_copies : List Str := ["copies", "words", "step", "state"]
def W__law_said_copies : DSt :=
  (wSeq (wAsg (wLstM wNil) (dgName 1))
    (wSeq (wFor (wItS (wVar 0)) (dgTup 2 (dgCons (dgName 2) (dgCons (dgName 3) dgNil))) (wDrop (wAppend (wVar 1) (wOp rAddD (wOp rAddD (wOp rAddD (wOp rAddD (wCB rStrD (wCons (wOp rIxD (wVar 2) (wC (.int 0))) wNil)) (wC (.str " "))) (wCB rStrD (wCons (wOp rIxD (wVar 2) (wC (.int 1))) wNil))) (wC (.str " "))) (wCB rStrD (wCons (wVar 3) wNil))))))
    (wRet (wM1 rJoinD (wC (.str ", ")) (wVar 1)))))
theorem sc__law_said_copies : FnScope N__law_said_copies ["copies"] (defScope s__law_said_copies) := ⟨rfl, rfl, rfl, by decide +kernel, rfl, by decide +kernel, by decide +kernel⟩
theorem tm__law_said_copies {k : Nat} (B : Bl mg) {f : Addr} (cdv : Value) (A : Around) (outer : List Env) (s : Shared) (H : Hp) (E : XK) (hr : Room k (A.deeper (envOfC "_law_said_copies" (defScope s__law_said_copies) s.heap.objs.size f cdv))) :
    DSs (cxOf CX0 P w K mg base N__law_said_copies "_law_said_copies" (defScope s__law_said_copies) f cdv A outer s H E).nox (defBody s__law_said_copies) (W__law_said_copies) :=
  (dss_cons (ds_set (i := 1) sc__law_said_copies.nd (d_lstM da_nil))
    (dss_cons (ds_for PassesOwn.never rfl (di_seq (dv 0)) (dg_tup rfl (dgs_cons (dg_name (i := 2) sc__law_said_copies.nd) (dgs_cons (dg_name (i := 3) sc__law_said_copies.nd) dgs_nil))) (dss_one (ds_expr (d_append (dv 1) (d_op add_ok (d_op add_ok (d_op add_ok (d_op add_ok (d_callTy str_ok B.str bt_str (da_cons (d_ix ix_ok (dv 2) d_int) da_nil)) d_str) (d_callTy str_ok B.str bt_str (da_cons (d_ix ix_ok (dv 2) d_int) da_nil))) d_str) (d_callTy str_ok B.str bt_str (da_cons (dv 3) da_nil)))))))
    (dss_one (ds_ret (d_join d_str (dv 1))))))
theorem ok__law_said_copies {k : Nat} (B : Bl mg) {f : Addr} {fd : FuncData} (F : FnD K mg "_law_said_copies" s__law_said_copies f fd) {sp : DSp} (len : ∀ ds S Q, sp ds S Q → ds.length = 1)
    (h : ∀ ds S Q, sp ds S Q → W__law_said_copies { nx := fun _ S' => Fin Q .non S', rt := Fin Q } (startD N__law_said_copies ds) S) : DF P w K mg base (k + 1) "_law_said_copies" ["copies"] sp :=
  fn_d F sc__law_said_copies (fun _ _ _ _ _ _ us hl => match us, hl with | [_], _ => rfl) (fun _ _ _ _ _ _ us hl => match us, hl with | [_], _ => rfl) len fun cdv A outer s H E hr => ⟨_, tm__law_said_copies B cdv A outer s H E hr, h⟩

abbrev s__law_said_kit : Stmt := top 24
abbrev N__law_said_kit : List Str := ["kit", "lines", "index", "copies", "entry"]
def W__law_said_kit (sp__law_said_copies : DSp) : DSt :=
  (wSeq (wAsg (wLstM (wCons (wOp rAddD (wC (.str "table ")) (wM1 rJoinD (wC (.str " ")) (wLc (wItS (wOp rAddD (wOp rIxD (wOp rIxD (wVar 0) (wC (.int 0))) (wC (.int 0))) (wOp rIxD (wOp rIxD (wVar 0) (wC (.int 0))) (wC (.int 1))))) (dgName 4) wYes (wCB rStrD (wCons (wVar 4) wNil)) [4]))) wNil)) (dgName 1))
    (wSeq (wFor (wEnum (wOp rIxD (wVar 0) (wC (.int 1)))) (dgTup 2 (dgCons (dgName 2) (dgCons (dgName 3) dgNil))) (wDrop (wAppend (wVar 1) (wOp rAddD (wOp rAddD (wCB rStrD (wCons (wVar 2) wNil)) (wC (.str " : "))) (wCall sp__law_said_copies (wCons (wVar 3) wNil))))))
    (wRet (wM1 rJoinD (wC (.str "\n")) (wVar 1)))))
theorem sc__law_said_kit : FnScope N__law_said_kit ["kit"] (defScope s__law_said_kit) := ⟨rfl, rfl, rfl, by decide +kernel, rfl, by decide +kernel, by decide +kernel⟩
theorem tm__law_said_kit {k : Nat} (B : Bl mg) {sp__law_said_copies : DSp} (G__law_said_copies : DF P w K mg base k "_law_said_copies" ["copies"] sp__law_said_copies) {f : Addr} (cdv : Value) (A : Around) (outer : List Env) (s : Shared) (H : Hp) (E : XK) (hr : Room k (A.deeper (envOfC "_law_said_kit" (defScope s__law_said_kit) s.heap.objs.size f cdv))) :
    DSs (cxOf CX0 P w K mg base N__law_said_kit "_law_said_kit" (defScope s__law_said_kit) f cdv A outer s H E).nox (defBody s__law_said_kit) (W__law_said_kit sp__law_said_copies) :=
  (dss_cons (ds_set (i := 1) sc__law_said_kit.nd (d_lstM (da_cons (d_op add_ok d_str (d_join d_str (d_lc rfl sc__law_said_kit.nd (blkOk_by (own := [("entry", 4)]) (N := N__law_said_kit) (sc := (defScope s__law_said_kit)) (by decide +kernel)) (di_seq (d_op add_ok (d_ix ix_ok (d_ix ix_ok (dv 0) d_int) d_int) (d_ix ix_ok (d_ix ix_ok (dv 0) d_int) d_int))) (fun _ _ _ _ _ => (dg_name (i := 4) sc__law_said_kit.nd)) (fun _ _ _ _ _ => dts_nil) (fun _ _ _ _ _ => (d_callTy str_ok B.str bt_str (da_cons (dv 4) da_nil)))))) da_nil)))
    (dss_cons (ds_for PassesOwn.never rfl (di_enum B.enumerate (d_ix ix_ok (dv 0) d_int)) (dg_tup rfl (dgs_cons (dg_name (i := 2) sc__law_said_kit.nd) (dgs_cons (dg_name (i := 3) sc__law_said_kit.nd) dgs_nil))) (dss_one (ds_expr (d_append (dv 1) (d_op add_ok (d_op add_ok (d_callTy str_ok B.str bt_str (da_cons (dv 2) da_nil)) d_str) (d_call G__law_said_copies hr (da_cons (dv 3) da_nil)))))))
    (dss_one (ds_ret (d_join d_str (dv 1))))))
theorem ok__law_said_kit {k : Nat} (B : Bl mg) {sp__law_said_copies : DSp} (G__law_said_copies : DF P w K mg base k "_law_said_copies" ["copies"] sp__law_said_copies) {f : Addr} {fd : FuncData} (F : FnD K mg "_law_said_kit" s__law_said_kit f fd) {sp : DSp} (len : ∀ ds S Q, sp ds S Q → ds.length = 1)
    (h : ∀ ds S Q, sp ds S Q → W__law_said_kit sp__law_said_copies { nx := fun _ S' => Fin Q .non S', rt := Fin Q } (startD N__law_said_kit ds) S) : DF P w K mg base (k + 1) "_law_said_kit" ["kit"] sp :=
  fn_d F sc__law_said_kit (fun _ _ _ _ _ _ us hl => match us, hl with | [_], _ => rfl) (fun _ _ _ _ _ _ us hl => match us, hl with | [_], _ => rfl) len fun cdv A outer s H E hr => ⟨_, tm__law_said_kit B G__law_said_copies cdv A outer s H E hr, h⟩

abbrev s__law_thing : Stmt := top 25
abbrev N__law_thing : List Str := ["well", "door", "most", "thing", "wide", "high", "turn", "row", "column"]
def W__law_thing (sp__law_address : DSp) (sp__law_draw : DSp) (sp__law_kit : DSp) (sp__law_number : DSp) (sp__law_said_address : DSp) (sp__law_said_kit : DSp) (sp__law_said_number : DSp) : DSt :=
  (wSeq (wAsg (wOp rIxD (wLst (wCons (wC (.int 2)) (wCons (wC (.int 9)) (wCons (wC (.int 40)) (wCons (wC (.int 300)) wNil))))) (wCall sp__law_draw (wCons (wVar 0) (wCons (wC (.int 4)) wNil)))) (dgName 2))
    (wSeq (wIf (wT (wOp (rEqD false) (wVar 1) (wC (.int 0)))) (wSeq (wAsg (wCall sp__law_number (wCons (wVar 0) (wCons (wVar 2) wNil))) (dgName 3))
    (wRet (wTup (wCons (wVar 3) (wCons (wCall sp__law_said_number (wCons (wVar 3) wNil)) wNil))))) wNext)
    (wSeq (wIf (wT (wOp (rEqD false) (wVar 1) (wC (.int 1)))) (wSeq (wAsg (wTup (wCons (wCall sp__law_number (wCons (wVar 0) (wCons (wVar 2) wNil))) (wCons (wCall sp__law_number (wCons (wVar 0) (wCons (wVar 2) wNil))) wNil))) (dgName 3))
    (wRet (wTup (wCons (wVar 3) (wCons (wOp rAddD (wOp rAddD (wCall sp__law_said_number (wCons (wOp rIxD (wVar 3) (wC (.int 0))) wNil)) (wC (.str " "))) (wCall sp__law_said_number (wCons (wOp rIxD (wVar 3) (wC (.int 1))) wNil))) wNil))))) wNext)
    (wSeq (wIf (wT (wOp (rEqD false) (wVar 1) (wC (.int 2)))) (wSeq (wAsg (wCall sp__law_address (wCons (wVar 0) wNil)) (dgName 3))
    (wRet (wTup (wCons (wVar 3) (wCons (wCall sp__law_said_address (wCons (wVar 3) wNil)) wNil))))) wNext)
    (wSeq (wIf (wT (wOp (rEqD false) (wVar 1) (wC (.int 3)))) (wSeq (wAsg (wCall sp__law_kit (wCons (wVar 0) wNil)) (dgName 3))
    (wRet (wTup (wCons (wVar 3) (wCons (wCall sp__law_said_kit (wCons (wVar 3) wNil)) wNil))))) wNext)
    (wSeq (wAsg (wLc (wRng1 (wC (.int 2))) (dgName 6) wYes (wOp rIxD (wLst (wCons (wC (.int 0)) (wCons (wC (.int 1)) (wCons (wC (.int 2)) (wCons (wC (.int 7)) (wCons (wC (.int 40)) wNil)))))) (wCall sp__law_draw (wCons (wVar 0) (wCons (wC (.int 5)) wNil)))) [6]) (dgTup 2 (dgCons (dgName 4) (dgCons (dgName 5) dgNil))))
    (wSeq (wAsg (wLc (wRng1 (wVar 5)) (dgName 7) wYes (wM1 rJoinD (wC (.str "")) (wLc (wRng1 (wVar 4)) (dgName 8) wYes (wOp rIxD (wC (.str ".#")) (wCall sp__law_draw (wCons (wVar 0) (wCons (wC (.int 2)) wNil)))) [8])) [7]) (dgName 3))
    (wRet (wTup (wCons (wVar 3) (wCons (wM1 rJoinD (wC (.str "\n")) (wVar 3)) wNil)))))))))))
theorem sc__law_thing : FnScope N__law_thing ["well", "door"] (defScope s__law_thing) := ⟨rfl, rfl, rfl, by decide +kernel, rfl, by decide +kernel, by decide +kernel⟩
theorem tm__law_thing {k : Nat} (B : Bl mg) {sp__law_address : DSp} (G__law_address : DF P w K mg base k "_law_address" ["well"] sp__law_address) {sp__law_draw : DSp} (G__law_draw : DF P w K mg base k "_law_draw" ["well", "many"] sp__law_draw) {sp__law_kit : DSp} (G__law_kit : DF P w K mg base k "_law_kit" ["well"] sp__law_kit) {sp__law_number : DSp} (G__law_number : DF P w K mg base k "_law_number" ["well", "most"] sp__law_number) {sp__law_said_address : DSp} (G__law_said_address : DF P w K mg base k "_law_said_address" ["address"] sp__law_said_address) {sp__law_said_kit : DSp} (G__law_said_kit : DF P w K mg base k "_law_said_kit" ["kit"] sp__law_said_kit) {sp__law_said_number : DSp} (G__law_said_number : DF P w K mg base k "_law_said_number" ["number"] sp__law_said_number) {f : Addr} (cdv : Value) (A : Around) (outer : List Env) (s : Shared) (H : Hp) (E : XK) (hr : Room k (A.deeper (envOfC "_law_thing" (defScope s__law_thing) s.heap.objs.size f cdv))) :
    DSs (cxOf CX0 P w K mg base N__law_thing "_law_thing" (defScope s__law_thing) f cdv A outer s H E).nox (defBody s__law_thing) (W__law_thing sp__law_address sp__law_draw sp__law_kit sp__law_number sp__law_said_address sp__law_said_kit sp__law_said_number) :=
  (dss_cons (ds_set (i := 2) sc__law_thing.nd (d_ix ix_ok (d_lst (da_cons d_int (da_cons d_int (da_cons d_int (da_cons d_int da_nil))))) (d_call G__law_draw hr (da_cons (dv 0) (da_cons d_int da_nil)))))
    (dss_cons (ds_if (dt_cmp eq_ok (dv 1) d_int (nomark _)) (dss_cons (ds_set (i := 3) sc__law_thing.nd (d_call G__law_number hr (da_cons (dv 0) (da_cons (dv 2) da_nil))))
    (dss_one (ds_ret (d_tup (da_cons (dv 3) (da_cons (d_call G__law_said_number hr (da_cons (dv 3) da_nil)) da_nil)))))) dss_nil)
    (dss_cons (ds_if (dt_cmp eq_ok (dv 1) d_int (nomark _)) (dss_cons (ds_set (i := 3) sc__law_thing.nd (d_tup (da_cons (d_call G__law_number hr (da_cons (dv 0) (da_cons (dv 2) da_nil))) (da_cons (d_call G__law_number hr (da_cons (dv 0) (da_cons (dv 2) da_nil))) da_nil))))
    (dss_one (ds_ret (d_tup (da_cons (dv 3) (da_cons (d_op add_ok (d_op add_ok (d_call G__law_said_number hr (da_cons (d_ix ix_ok (dv 3) d_int) da_nil)) d_str) (d_call G__law_said_number hr (da_cons (d_ix ix_ok (dv 3) d_int) da_nil))) da_nil)))))) dss_nil)
    (dss_cons (ds_if (dt_cmp eq_ok (dv 1) d_int (nomark _)) (dss_cons (ds_set (i := 3) sc__law_thing.nd (d_call G__law_address hr (da_cons (dv 0) da_nil)))
    (dss_one (ds_ret (d_tup (da_cons (dv 3) (da_cons (d_call G__law_said_address hr (da_cons (dv 3) da_nil)) da_nil)))))) dss_nil)
    (dss_cons (ds_if (dt_cmp eq_ok (dv 1) d_int (nomark _)) (dss_cons (ds_set (i := 3) sc__law_thing.nd (d_call G__law_kit hr (da_cons (dv 0) da_nil)))
    (dss_one (ds_ret (d_tup (da_cons (dv 3) (da_cons (d_call G__law_said_kit hr (da_cons (dv 3) da_nil)) da_nil)))))) dss_nil)
    (dss_cons (ds_asg (d_lc rfl sc__law_thing.nd (blkOk_by (own := [("turn", 6)]) (N := N__law_thing) (sc := (defScope s__law_thing)) (by decide +kernel)) (di_range1 B.range d_int) (fun _ _ _ _ _ => (dg_name (i := 6) sc__law_thing.nd)) (fun _ _ _ _ _ => dts_nil) (fun _ _ _ _ _ => (d_ix ix_ok (d_lst (da_cons d_int (da_cons d_int (da_cons d_int (da_cons d_int (da_cons d_int da_nil)))))) (d_call G__law_draw hr (da_cons (dv 0) (da_cons d_int da_nil)))))) (dg_tup rfl (dgs_cons (dg_name (i := 4) sc__law_thing.nd) (dgs_cons (dg_name (i := 5) sc__law_thing.nd) dgs_nil))))
    (dss_cons (ds_setLc (i := 3) rfl sc__law_thing.nd (blkOk_by (own := [("row", 7)]) (N := N__law_thing) (sc := (defScope s__law_thing)) (by decide +kernel)) (sw_true rfl rfl rfl (by decide +kernel)) (di_range1 B.range (dv 5)) (fun _ _ _ _ _ => (dg_name (i := 7) sc__law_thing.nd)) (fun _ _ _ _ _ => dts_nil) (fun _ _ _ _ _ => (d_join d_str (d_lc rfl sc__law_thing.nd (blkOk_by (own := [("column", 8)]) (N := N__law_thing) (sc := _) rfl) (di_range1 B.range (dv 4)) (fun _ _ _ _ _ => (dg_name (i := 8) sc__law_thing.nd)) (fun _ _ _ _ _ => dts_nil) (fun _ _ _ _ _ => (d_ix ix_ok d_str (d_call G__law_draw hr (da_cons (dv 0) (da_cons d_int da_nil)))))))))
    (dss_one (ds_ret (d_tup (da_cons (dv 3) (da_cons (d_join d_str (dv 3)) da_nil))))))))))))
theorem ok__law_thing {k : Nat} (B : Bl mg) {sp__law_address : DSp} (G__law_address : DF P w K mg base k "_law_address" ["well"] sp__law_address) {sp__law_draw : DSp} (G__law_draw : DF P w K mg base k "_law_draw" ["well", "many"] sp__law_draw) {sp__law_kit : DSp} (G__law_kit : DF P w K mg base k "_law_kit" ["well"] sp__law_kit) {sp__law_number : DSp} (G__law_number : DF P w K mg base k "_law_number" ["well", "most"] sp__law_number) {sp__law_said_address : DSp} (G__law_said_address : DF P w K mg base k "_law_said_address" ["address"] sp__law_said_address) {sp__law_said_kit : DSp} (G__law_said_kit : DF P w K mg base k "_law_said_kit" ["kit"] sp__law_said_kit) {sp__law_said_number : DSp} (G__law_said_number : DF P w K mg base k "_law_said_number" ["number"] sp__law_said_number) {f : Addr} {fd : FuncData} (F : FnD K mg "_law_thing" s__law_thing f fd) {sp : DSp} (len : ∀ ds S Q, sp ds S Q → ds.length = 2)
    (h : ∀ ds S Q, sp ds S Q → W__law_thing sp__law_address sp__law_draw sp__law_kit sp__law_number sp__law_said_address sp__law_said_kit sp__law_said_number { nx := fun _ S' => Fin Q .non S', rt := Fin Q } (startD N__law_thing ds) S) : DF P w K mg base (k + 1) "_law_thing" ["well", "door"] sp :=
  fn_d F sc__law_thing (fun _ _ _ _ _ _ us hl => match us, hl with | [_, _], _ => rfl) (fun _ _ _ _ _ _ us hl => match us, hl with | [_, _], _ => rfl) len fun cdv A outer s H E hr => ⟨_, tm__law_thing B G__law_address G__law_draw G__law_kit G__law_number G__law_said_address G__law_said_kit G__law_said_number cdv A outer s H E hr, h⟩

abbrev s__law_shown : Stmt := top 26
abbrev N__law_shown : List Str := ["door", "thing", "named"]
def W__law_shown (sp_show_address : DSp) (sp_show_kit : DSp) (sp_show_number : DSp) (sp_show_point : DSp) (sp_show_rows : DSp) : DSt :=
  (wSeq (wIf (wT (wOp (rEqD false) (wVar 0) (wC (.int 0)))) (wRet (wIfE (wT (wVar 2)) (wCall sp_show_number (wCons (wVar 1) wNil)) (wCall sp_show_number (wCons (wVar 1) wNil)))) wNext)
    (wSeq (wIf (wT (wOp (rEqD false) (wVar 0) (wC (.int 1)))) (wRet (wIfE (wT (wVar 2)) (wCall sp_show_point (wCons (wVar 1) wNil)) (wCall sp_show_point (wCons (wVar 1) wNil)))) wNext)
    (wSeq (wIf (wT (wOp (rEqD false) (wVar 0) (wC (.int 2)))) (wRet (wIfE (wT (wVar 2)) (wCall sp_show_address (wCons (wVar 1) wNil)) (wCall sp_show_address (wCons (wVar 1) wNil)))) wNext)
    (wSeq (wIf (wT (wOp (rEqD false) (wVar 0) (wC (.int 3)))) (wRet (wIfE (wT (wVar 2)) (wCall sp_show_kit (wCons (wVar 1) wNil)) (wCall sp_show_kit (wCons (wVar 1) wNil)))) wNext)
    (wRet (wIfE (wT (wVar 2)) (wCall sp_show_rows (wCons (wVar 1) wNil)) (wCall sp_show_rows (wCons (wVar 1) wNil))))))))
theorem sc__law_shown : FnScope N__law_shown ["door", "thing", "named"] (defScope s__law_shown) := ⟨rfl, rfl, rfl, by decide +kernel, rfl, by decide +kernel, by decide +kernel⟩
theorem tm__law_shown {k : Nat} (B : Bl mg) {sp_show_address : DSp} (G_show_address : DF P w K mg base k "show_address" ["address"] sp_show_address) {sp_show_kit : DSp} (G_show_kit : DF P w K mg base k "show_kit" ["kit"] sp_show_kit) {sp_show_number : DSp} (G_show_number : DF P w K mg base k "show_number" ["a"] sp_show_number) {sp_show_point : DSp} (G_show_point : DF P w K mg base k "show_point" ["point"] sp_show_point) {sp_show_rows : DSp} (G_show_rows : DF P w K mg base k "show_rows" ["rows"] sp_show_rows) {f : Addr} (cdv : Value) (A : Around) (outer : List Env) (s : Shared) (H : Hp) (E : XK) (hr : Room k (A.deeper (envOfC "_law_shown" (defScope s__law_shown) s.heap.objs.size f cdv))) :
    DSs (cxOf CX0 P w K mg base N__law_shown "_law_shown" (defScope s__law_shown) f cdv A outer s H E).nox (defBody s__law_shown) (W__law_shown sp_show_address sp_show_kit sp_show_number sp_show_point sp_show_rows) :=
  (dss_cons (ds_if (dt_cmp eq_ok (dv 0) d_int (nomark _)) (dss_one (ds_ret (d_ifE (dt_val (dv 2)) (d_callK G_show_number hr (dk_cons (dv 1) dk_nil)) (d_call G_show_number hr (da_cons (dv 1) da_nil))))) dss_nil)
    (dss_cons (ds_if (dt_cmp eq_ok (dv 0) d_int (nomark _)) (dss_one (ds_ret (d_ifE (dt_val (dv 2)) (d_callK G_show_point hr (dk_cons (dv 1) dk_nil)) (d_call G_show_point hr (da_cons (dv 1) da_nil))))) dss_nil)
    (dss_cons (ds_if (dt_cmp eq_ok (dv 0) d_int (nomark _)) (dss_one (ds_ret (d_ifE (dt_val (dv 2)) (d_callK G_show_address hr (dk_cons (dv 1) dk_nil)) (d_call G_show_address hr (da_cons (dv 1) da_nil))))) dss_nil)
    (dss_cons (ds_if (dt_cmp eq_ok (dv 0) d_int (nomark _)) (dss_one (ds_ret (d_ifE (dt_val (dv 2)) (d_callK G_show_kit hr (dk_cons (dv 1) dk_nil)) (d_call G_show_kit hr (da_cons (dv 1) da_nil))))) dss_nil)
    (dss_one (ds_ret (d_ifE (dt_val (dv 2)) (d_callK G_show_rows hr (dk_cons (dv 1) dk_nil)) (d_call G_show_rows hr (da_cons (dv 1) da_nil)))))))))
theorem ok__law_shown {k : Nat} (B : Bl mg) {sp_show_address : DSp} (G_show_address : DF P w K mg base k "show_address" ["address"] sp_show_address) {sp_show_kit : DSp} (G_show_kit : DF P w K mg base k "show_kit" ["kit"] sp_show_kit) {sp_show_number : DSp} (G_show_number : DF P w K mg base k "show_number" ["a"] sp_show_number) {sp_show_point : DSp} (G_show_point : DF P w K mg base k "show_point" ["point"] sp_show_point) {sp_show_rows : DSp} (G_show_rows : DF P w K mg base k "show_rows" ["rows"] sp_show_rows) {f : Addr} {fd : FuncData} (F : FnD K mg "_law_shown" s__law_shown f fd) {sp : DSp} (len : ∀ ds S Q, sp ds S Q → ds.length = 3)
    (h : ∀ ds S Q, sp ds S Q → W__law_shown sp_show_address sp_show_kit sp_show_number sp_show_point sp_show_rows { nx := fun _ S' => Fin Q .non S', rt := Fin Q } (startD N__law_shown ds) S) : DF P w K mg base (k + 1) "_law_shown" ["door", "thing", "named"] sp :=
  fn_d F sc__law_shown (fun _ _ _ _ _ _ us hl => match us, hl with | [_, _, _], _ => rfl) (fun _ _ _ _ _ _ us hl => match us, hl with | [_, _, _], _ => rfl) len fun cdv A outer s H E hr => ⟨_, tm__law_shown B G_show_address G_show_kit G_show_number G_show_point G_show_rows cdv A outer s H E hr, h⟩

abbrev s_law : Stmt := top 27
abbrev N_law : List Str := ["script", "rows", "place", "well", "door", "thing", "said", "kept"]
def W_law (sp__law_draw : DSp) (sp__law_same : DSp) (sp__law_shown : DSp) (sp__law_thing : DSp) (sp__law_well : DSp) : DSt :=
  (wSeq (wAsg (wLstM wNil) (dgName 1))
    (wSeq (wFor (wRng1 (wCB rMaxD (wCons (wC (.int 1)) (wCons (wCB rMinD (wCons (wC (.int 8)) (wCons (wCB rLenD (wCons (wVar 0) wNil)) wNil))) wNil)))) (dgName 2) (wSeq (wAsg (wCall sp__law_well (wCons (wVar 0) (wCons (wVar 2) wNil))) (dgName 3))
    (wFor (wRng1 (wC (.int 5))) (dgName 4) (wSeq (wAsg (wCall sp__law_thing (wCons (wVar 3) (wCons (wVar 4) wNil))) (dgTup 2 (dgCons (dgName 5) (dgCons (dgName 6) dgNil))))
    (wSeq (wAsg (wCB rListD (wCons (wVar 5) wNil)) (dgName 7))
    (wSeq (wIf (wNotT (wT (wCall sp__law_same (wCons (wCall sp__law_shown (wCons (wVar 4) (wCons (wVar 5) (wCons (wOp (rEqD false) (wCall sp__law_draw (wCons (wVar 3) (wCons (wC (.int 2)) wNil))) (wC (.int 0))) wNil)))) (wCons (wVar 6) wNil))))) (wRet (wC (.bl false))) wNext)
    (wSeq (wIf (wNotT (wT (wCall sp__law_same (wCons (wCB rListD (wCons (wVar 5) wNil)) (wCons (wVar 7) wNil))))) (wRet (wC (.bl false))) wNext)
    (wDrop (wAppend (wVar 1) (wTup (wCons (wVar 4) (wCons (wVar 5) (wCons (wVar 6) wNil)))))))))))))
    (wSeq (wFor (wItS (wRev (wVar 1))) (dgTup 3 (dgCons (dgName 4) (dgCons (dgName 5) (dgCons (dgName 6) dgNil)))) (wIf (wNotT (wT (wCall sp__law_same (wCons (wCall sp__law_shown (wCons (wVar 4) (wCons (wVar 5) (wCons (wOp rLtD (wCB rLenD (wCons (wVar 6) wNil)) (wC (.int 9))) wNil)))) (wCons (wVar 6) wNil))))) (wRet (wC (.bl false))) wNext))
    (wRet (wC (.bl true))))))
theorem sc_law : FnScope N_law ["script"] (defScope s_law) := ⟨rfl, rfl, rfl, by decide +kernel, rfl, by decide +kernel, by decide +kernel⟩
theorem tm_law {k : Nat} (B : Bl mg) {sp__law_draw : DSp} (G__law_draw : DF P w K mg base k "_law_draw" ["well", "many"] sp__law_draw) {sp__law_same : DSp} (G__law_same : DF P w K mg base k "_law_same" ["told", "due"] sp__law_same) {sp__law_shown : DSp} (G__law_shown : DF P w K mg base k "_law_shown" ["door", "thing", "named"] sp__law_shown) {sp__law_thing : DSp} (G__law_thing : DF P w K mg base k "_law_thing" ["well", "door"] sp__law_thing) {sp__law_well : DSp} (G__law_well : DF P w K mg base k "_law_well" ["script", "place"] sp__law_well) {f : Addr} (cdv : Value) (A : Around) (outer : List Env) (s : Shared) (H : Hp) (E : XK) (hr : Room k (A.deeper (envOfC "law" (defScope s_law) s.heap.objs.size f cdv))) :
    DSs (cxOf CX0 P w K mg base N_law "law" (defScope s_law) f cdv A outer s H E).nox (defBody s_law) (W_law sp__law_draw sp__law_same sp__law_shown sp__law_thing sp__law_well) :=
  (dss_cons (ds_set (i := 1) sc_law.nd (d_lstM da_nil))
    (dss_cons (ds_for PassesOwn.never rfl (di_range1 B.range (d_callB (max_ok rfl) B.max bt_max (da_cons d_int (da_cons (d_callB (min_ok rfl) B.min bt_min (da_cons d_int (da_cons (d_callB len_ok B.len bt_len (da_cons (dv 0) da_nil)) da_nil))) da_nil)))) (dg_name (i := 2) sc_law.nd) (dss_cons (ds_set (i := 3) sc_law.nd (d_call G__law_well hr (da_cons (dv 0) (da_cons (dv 2) da_nil))))
    (dss_one (ds_for PassesOwn.never rfl (di_range1 B.range d_int) (dg_name (i := 4) sc_law.nd) (dss_cons (ds_asg (d_call G__law_thing hr (da_cons (dv 3) (da_cons (dv 4) da_nil))) (dg_tup rfl (dgs_cons (dg_name (i := 5) sc_law.nd) (dgs_cons (dg_name (i := 6) sc_law.nd) dgs_nil))))
    (dss_cons (ds_set (i := 7) sc_law.nd (d_callTy list_ok B.list bt_list (da_cons (dv 5) da_nil)))
    (dss_cons (ds_if (dt_not (dt_val (d_call G__law_same hr (da_cons (d_call G__law_shown hr (da_cons (dv 4) (da_cons (dv 5) (da_cons (d_cmp eq_ok (d_call G__law_draw hr (da_cons (dv 3) (da_cons d_int da_nil))) d_int (nomark _)) da_nil)))) (da_cons (dv 6) da_nil))))) (dss_one (ds_ret d_bl)) dss_nil)
    (dss_cons (ds_if (dt_not (dt_val (d_call G__law_same hr (da_cons (d_callTy list_ok B.list bt_list (da_cons (dv 5) da_nil)) (da_cons (dv 7) da_nil))))) (dss_one (ds_ret d_bl)) dss_nil)
    (dss_one (ds_expr (d_append (dv 1) (d_tup (da_cons (dv 4) (da_cons (dv 5) (da_cons (dv 6) da_nil)))))))))))))))
    (dss_cons (ds_for PassesOwn.never rfl (di_seq (d_rev (dv 1))) (dg_tup rfl (dgs_cons (dg_name (i := 4) sc_law.nd) (dgs_cons (dg_name (i := 5) sc_law.nd) (dgs_cons (dg_name (i := 6) sc_law.nd) dgs_nil)))) (dss_one (ds_if (dt_not (dt_val (d_call G__law_same hr (da_cons (d_call G__law_shown hr (da_cons (dv 4) (da_cons (dv 5) (da_cons (d_cmp lt_ok (d_callB len_ok B.len bt_len (da_cons (dv 6) da_nil)) d_int (nomark _)) da_nil)))) (da_cons (dv 6) da_nil))))) (dss_one (ds_ret d_bl)) dss_nil)))
    (dss_one (ds_ret d_bl)))))
theorem ok_law {k : Nat} (B : Bl mg) {sp__law_draw : DSp} (G__law_draw : DF P w K mg base k "_law_draw" ["well", "many"] sp__law_draw) {sp__law_same : DSp} (G__law_same : DF P w K mg base k "_law_same" ["told", "due"] sp__law_same) {sp__law_shown : DSp} (G__law_shown : DF P w K mg base k "_law_shown" ["door", "thing", "named"] sp__law_shown) {sp__law_thing : DSp} (G__law_thing : DF P w K mg base k "_law_thing" ["well", "door"] sp__law_thing) {sp__law_well : DSp} (G__law_well : DF P w K mg base k "_law_well" ["script", "place"] sp__law_well) {f : Addr} {fd : FuncData} (F : FnD K mg "law" s_law f fd) {sp : DSp} (len : ∀ ds S Q, sp ds S Q → ds.length = 1)
    (h : ∀ ds S Q, sp ds S Q → W_law sp__law_draw sp__law_same sp__law_shown sp__law_thing sp__law_well { nx := fun _ S' => Fin Q .non S', rt := Fin Q } (startD N_law ds) S) : DF P w K mg base (k + 1) "law" ["script"] sp :=
  fn_d F sc_law (fun _ _ _ _ _ _ us hl => match us, hl with | [_], _ => rfl) (fun _ _ _ _ _ _ us hl => match us, hl with | [_], _ => rfl) len fun cdv A outer s H E hr => ⟨_, tm_law B G__law_draw G__law_same G__law_shown G__law_thing G__law_well cdv A outer s H E hr, h⟩

end
end K51

namespace K51
open PySem PySem.Spec L2 PyProof.Rows DL
theorem p310 : (10 : Nat) ^ 310 < 2 ^ 1920 := by decide +kernel
/-- a number's text -/
def numT (t b : Int) : Str := if b = 1 then strI t else strI t ++ "/" ++ strI b
def Sml (t : Int) : Prop := t.natAbs < 10 ^ 310
theorem Sml.log {t : Int} (h : Sml t) : t.natAbs.log2 < 1920 := log2_lt (by decide) (Nat.lt_trans h p310)
theorem Sml.len {t : Int} (h : Sml t) : (strI t).length ≤ 311 := strI_len (by decide) h
def spNum : DSp := fun ds S Q => ∃ t b, ds = [.tup [.int t, .int b]] ∧ (Sml t ∧ Sml b) ∧ Q (.str (numT t b)) S
theorem slash_len : (Str.ofString "/").length = 1 := by decide +kernel
theorem p_show_number : ∀ ds S Q, spNum ds S Q → W_show_number { nx := fun _ S' => Fin Q .non S', rt := Fin Q } (startD N_show_number ds) S := by
  rintro ds S Q ⟨t, b, rfl, ⟨h1, h2⟩, q⟩
  have l1 := h1.len
  have l2 := h2.len
  unfold numT at q
  by_cases e : b = 1
  · subst e
    simp [W_show_number, DL.wNext, DL.wSeq, DL.wDrop, DL.wRet, DL.wRetN, DL.wIf, DL.wAsg, DL.wPar, DL.wPar3, DL.wVar, DL.wC, DL.wOp, DL.wUn, DL.wT, DL.wNotT, DL.wAndT, DL.wOrT, DL.wAndV, DL.wOrV, DL.wNotV, DL.wIfE, DL.wChain, DL.wCB, DL.wCall, DL.wCons, DL.wNil, DL.wStar, DL.wTup, DL.wLst, DL.wLstM, DL.wSl, DL.wPart, DL.wNoPart, DL.wRev, DL.wM1, DL.wIsi, DL.wAppend, DL.wFor, DL.wItS, DL.wRng1, DL.wRng2, DL.wEnum, DL.wLc, DL.dgName, DL.dgCons, DL.dgNil, DL.dgTup, DL.dgSub, DL.rAddD, DL.rSubD, DL.rMulD, DL.rFdivD, DL.rModD, DL.rPowD, DL.rNegD, DL.ints2, DL.cmpI, DL.rLtD, DL.rLeD, DL.rGtD, DL.rGeD, DL.rEqD, DL.rIsD, DL.ix_tupE, DL.ix_scrE, DL.ix_frzE, DL.ix_refE, DL.rLenD, DL.rStrD, DL.rIntD, DL.rAbsD, DL.rInt2, DL.rMaxD, DL.rMinD, DL.rTupleD, DL.rListD, DL.rBools, DL.rAllD, DL.rAnyD, DL.rSlD, DL.wSome, DL.seqOf, DL.lstOf, DL.curOf, DL.startD, DL.wipeD, DL.wYes, DL.refOk, DL.isTyB, DL.isNon, N_show_number]
    exact ⟨h1.log, .of (by simpa using q)⟩
  · rw [if_neg e] at q
    simp [W_show_number, DL.wNext, DL.wSeq, DL.wDrop, DL.wRet, DL.wRetN, DL.wIf, DL.wAsg, DL.wPar, DL.wPar3, DL.wVar, DL.wC, DL.wOp, DL.wUn, DL.wT, DL.wNotT, DL.wAndT, DL.wOrT, DL.wAndV, DL.wOrV, DL.wNotV, DL.wIfE, DL.wChain, DL.wCB, DL.wCall, DL.wCons, DL.wNil, DL.wStar, DL.wTup, DL.wLst, DL.wLstM, DL.wSl, DL.wPart, DL.wNoPart, DL.wRev, DL.wM1, DL.wIsi, DL.wAppend, DL.wFor, DL.wItS, DL.wRng1, DL.wRng2, DL.wEnum, DL.wLc, DL.dgName, DL.dgCons, DL.dgNil, DL.dgTup, DL.dgSub, DL.rAddD, DL.rSubD, DL.rMulD, DL.rFdivD, DL.rModD, DL.rPowD, DL.rNegD, DL.ints2, DL.cmpI, DL.rLtD, DL.rLeD, DL.rGtD, DL.rGeD, DL.rEqD, DL.rIsD, DL.ix_tupE, DL.ix_scrE, DL.ix_frzE, DL.ix_refE, DL.rLenD, DL.rStrD, DL.rIntD, DL.rAbsD, DL.rInt2, DL.rMaxD, DL.rMinD, DL.rTupleD, DL.rListD, DL.rBools, DL.rAllD, DL.rAnyD, DL.rSlD, DL.wSome, DL.seqOf, DL.lstOf, DL.curOf, DL.startD, DL.wipeD, DL.wYes, DL.refOk, DL.isTyB, DL.isNon, N_show_number, e, str_len_app, slash_len, sizeLine_eq]
    exact ⟨h1.log, by omega, h2.log, by omega, .of q⟩
theorem join_ok {a : Str} {y : D} {S : Store} {P : DK} (xs : List Str) (h : seqOf S y = some (xs.map D.str)) (hb : (xs.map (·.length)).sum + xs.length * a.length ≤ 16777216) (q : P (.str (Txt.join a xs)) S) : rJoinD a y S P :=
  wSome.of h (wSome.of (strsOf_map xs) ⟨hb, q⟩)
/-- words with blanks between -/
def wdsT (ns : List Int) : Str := Txt.join " " (ns.map strI)
theorem strs_ints (ns : List Int) : strsOf (ns.map fun n => D.str (strI n)) = some (ns.map strI) := by
  have e : (ns.map fun n => D.str (strI n)) = (ns.map strI).map D.str := by rw [List.map_map]; rfl
  rw [e, strsOf_map]
theorem sum_le {α : Type} (f : α → Nat) {B : Nat} : ∀ (l : List α), (∀ x ∈ l, f x ≤ B) → (l.map f).sum ≤ B * l.length
  | [], _ => by simp
  | x :: l, h => by
    have h1 := h x List.mem_cons_self
    have h2 := sum_le f l fun y hy => h y (List.mem_cons_of_mem _ hy)
    simp only [List.map_cons, List.sum_cons, List.length_cons, Nat.mul_add, Nat.mul_one]
    omega
theorem blank_len : (Str.ofString " ").length = 1 := by decide +kernel
theorem ints_len {ns : List Int} (h : ∀ n ∈ ns, Sml n) : ((ns.map strI).map (·.length)).sum ≤ 311 * ns.length := by
  rw [List.map_map]
  exact sum_le _ ns fun n hn => (h n hn).len
def spWds : DSp := fun ds S Q => ∃ ns : List Int, (ds = [.tup (ns.map .int)] ∨ ds = [.scr (ns.map .int)]) ∧ ns.length ≤ 4000 ∧ (∀ n ∈ ns, Sml n) ∧ Q (.str (wdsT ns)) S
theorem map_ints (ns : List Int) : (ns.map D.int).map (fun d => match d with | .int i => D.str (strI i) | _ => .non) = (ns.map strI).map D.str := by rw [List.map_map, List.map_map]; rfl
theorem p_worded : ∀ ds S Q, spWds ds S Q → W_worded { nx := fun _ S' => Fin Q .non S', rt := Fin Q } (startD N_worded ds) S := by
  rintro ds S Q ⟨ns, hd, hl, hs, q⟩
  have h1 := ints_len hs
  have go : lcW (dgName 1) wYes (wCB rStrD (wCons (wVar 1) wNil)) (fun _ => True) [some (ds.headD .non), none] (fun d S1 => rJoinD " " d S1 (Fin Q)) (ns.map .int) [] S := by
    refine lc_map (fun d => match d with | .int i => .str (strI i) | _ => .non) trivial _ [] (fun d hd Q' hQ => ?_) ?_
    · obtain ⟨n, hn, rfl⟩ := List.mem_map.mp hd
      simp [DL.wNext, DL.wSeq, DL.wDrop, DL.wRet, DL.wRetN, DL.wIf, DL.wAsg, DL.wPar, DL.wPar3, DL.wVar, DL.wC, DL.wOp, DL.wUn, DL.wT, DL.wNotT, DL.wAndT, DL.wOrT, DL.wAndV, DL.wOrV, DL.wNotV, DL.wIfE, DL.wChain, DL.wCB, DL.wCall, DL.wCons, DL.wNil, DL.wStar, DL.wTup, DL.wLst, DL.wLstM, DL.wSl, DL.wPart, DL.wNoPart, DL.wRev, DL.wM1, DL.wIsi, DL.wAppend, DL.wFor, DL.wItS, DL.wRng1, DL.wRng2, DL.wEnum, DL.wLc, DL.dgName, DL.dgCons, DL.dgNil, DL.dgTup, DL.dgSub, DL.rAddD, DL.rSubD, DL.rMulD, DL.rFdivD, DL.rModD, DL.rPowD, DL.rNegD, DL.ints2, DL.cmpI, DL.rLtD, DL.rLeD, DL.rGtD, DL.rGeD, DL.rEqD, DL.rIsD, DL.ix_tupE, DL.ix_scrE, DL.ix_frzE, DL.ix_refE, DL.rLenD, DL.rStrD, DL.rIntD, DL.rAbsD, DL.rInt2, DL.rMaxD, DL.rMinD, DL.rTupleD, DL.rListD, DL.rBools, DL.rAllD, DL.rAnyD, DL.rSlD, DL.wSome, DL.seqOf, DL.lstOf, DL.curOf, DL.startD, DL.wipeD, DL.wYes, DL.refOk, DL.isTyB, DL.isNon]
      exact ⟨(hs n hn).log, hQ⟩
    · rw [map_ints]
      exact join_ok _ rfl (by rw [blank_len, List.length_map]; omega) (.of q)
  rcases hd with rfl | rfl <;>
  · simp [W_worded, DL.wNext, DL.wSeq, DL.wDrop, DL.wRet, DL.wRetN, DL.wIf, DL.wAsg, DL.wPar, DL.wPar3, DL.wVar, DL.wC, DL.wOp, DL.wUn, DL.wT, DL.wNotT, DL.wAndT, DL.wOrT, DL.wAndV, DL.wOrV, DL.wNotV, DL.wIfE, DL.wChain, DL.wCB, DL.wCall, DL.wCons, DL.wNil, DL.wStar, DL.wTup, DL.wLst, DL.wLstM, DL.wSl, DL.wPart, DL.wNoPart, DL.wRev, DL.wM1, DL.wIsi, DL.wAppend, DL.wFor, DL.wItS, DL.wRng1, DL.wRng2, DL.wEnum, DL.wLc, DL.dgName, DL.dgCons, DL.dgNil, DL.dgTup, DL.dgSub, DL.rAddD, DL.rSubD, DL.rMulD, DL.rFdivD, DL.rModD, DL.rPowD, DL.rNegD, DL.ints2, DL.cmpI, DL.rLtD, DL.rLeD, DL.rGtD, DL.rGeD, DL.rEqD, DL.rIsD, DL.ix_tupE, DL.ix_scrE, DL.ix_frzE, DL.ix_refE, DL.rLenD, DL.rStrD, DL.rIntD, DL.rAbsD, DL.rInt2, DL.rMaxD, DL.rMinD, DL.rTupleD, DL.rListD, DL.rBools, DL.rAllD, DL.rAnyD, DL.rSlD, DL.wSome, DL.seqOf, DL.lstOf, DL.curOf, DL.startD, DL.wipeD, DL.wYes, DL.refOk, DL.isTyB, DL.isNon, N_worded] at go ⊢
    exact ⟨by omega, go⟩

/-! ### joins -/
theorem join_two (y x z : Str) (r : List Str) : Txt.join y (x :: z :: r) = x ++ y ++ Txt.join y (z :: r) := by
  rw [TL.join_eq, TL.join_eq]; rfl
theorem join_one (y x : Str) : Txt.join y [x] = x := by rw [TL.join_eq]; rfl
theorem join_cons (y x : Str) {r : List Str} (h : r ≠ []) : Txt.join y (x :: r) = x ++ y ++ Txt.join y r := by
  cases r with
  | nil => exact absurd rfl h
  | cons z r => exact join_two y x z r
theorem join_app (y : Str) : ∀ {xs ys : List Str}, xs ≠ [] → ys ≠ [] → Txt.join y (xs ++ ys) = Txt.join y xs ++ y ++ Txt.join y ys
  | [], _, h, _ => absurd rfl h
  | [x], ys, _, h => by rw [List.singleton_append, join_cons y x h, join_one]
  | x :: z :: r, ys, _, h => by
    rw [List.cons_append, join_cons y x (by simp), join_app y (by simp) h, join_two y x z r]
    simp only [Str.append_assoc]
theorem open_eq : (Str.ofString "( ") = Str.ofString "(" ++ Str.ofString " " := by decide +kernel
theorem close_eq : (Str.ofString " )") = Str.ofString " " ++ Str.ofString ")" := by decide +kernel
theorem join_len (y : Str) : ∀ xs : List Str, (Txt.join y xs).length ≤ (xs.map (·.length)).sum + xs.length * y.length
  | [] => by rw [TL.join_eq]; exact Nat.zero_le _
  | [x] => by rw [join_one]; simp
  | x :: z :: r => by
    have h := join_len y (z :: r)
    rw [join_two, str_len_app, str_len_app]
    simp only [List.map_cons, List.sum_cons, List.length_cons, Nat.add_mul, Nat.one_mul] at h ⊢
    omega
theorem wds_len {ns : List Int} (h : ∀ n ∈ ns, Sml n) : (wdsT ns).length ≤ 312 * ns.length := by
  have h1 := join_len " " (ns.map strI)
  have h2 := ints_len h
  rw [List.length_map, blank_len] at h1
  unfold wdsT
  omega
/-! ### points, addresses, copies -/
def spPoint : DSp := fun ds S Q => ∃ t1 b1 t2 b2, ds = [.tup [.tup [.int t1, .int b1], .tup [.int t2, .int b2]]] ∧ (Sml t1 ∧ Sml b1) ∧ (Sml t2 ∧ Sml b2) ∧ Q (.str (numT t1 b1 ++ " " ++ numT t2 b2)) S
theorem num_len {t b : Int} (h : Sml t ∧ Sml b) : (numT t b).length ≤ 623 := by
  have h1 := h.1.len
  have h2 := h.2.len
  unfold numT
  split
  · omega
  · rw [str_len_app, str_len_app, slash_len]; omega
theorem spNum_at {t b : Int} {S : Store} {Q : DK} (h : Sml t ∧ Sml b) : spNum [.tup [.int t, .int b]] S Q = Q (.str (numT t b)) S :=
  propext ⟨fun ⟨t', b', e, _, q⟩ => by simp only [List.cons.injEq, D.tup.injEq, D.int.injEq, and_true] at e; obtain ⟨rfl, rfl⟩ := e; exact q, fun q => ⟨t, b, rfl, h, q⟩⟩
theorem p_show_point : ∀ ds S Q, spPoint ds S Q → W_show_point spNum { nx := fun _ S' => Fin Q .non S', rt := Fin Q } (startD N_show_point ds) S := by
  rintro ds S Q ⟨t1, b1, t2, b2, rfl, h1, h2, q⟩
  have l1 := num_len h1
  have l2 := num_len h2
  have e : Txt.join " " [numT t1 b1, numT t2 b2] = numT t1 b1 ++ " " ++ numT t2 b2 := by rw [join_two, join_one]
  simp [W_show_point, DL.wNext, DL.wSeq, DL.wDrop, DL.wRet, DL.wRetN, DL.wIf, DL.wAsg, DL.wPar, DL.wPar3, DL.wVar, DL.wC, DL.wOp, DL.wUn, DL.wT, DL.wNotT, DL.wAndT, DL.wOrT, DL.wAndV, DL.wOrV, DL.wNotV, DL.wIfE, DL.wChain, DL.wCB, DL.wCall, DL.wCons, DL.wNil, DL.wStar, DL.wTup, DL.wLst, DL.wLstM, DL.wSl, DL.wPart, DL.wNoPart, DL.wRev, DL.wM1, DL.wIsi, DL.wAppend, DL.wFor, DL.wItS, DL.wRng1, DL.wRng2, DL.wEnum, DL.wLc, DL.dgName, DL.dgCons, DL.dgNil, DL.dgTup, DL.dgSub, DL.rAddD, DL.rSubD, DL.rMulD, DL.rFdivD, DL.rModD, DL.rPowD, DL.rNegD, DL.ints2, DL.cmpI, DL.rLtD, DL.rLeD, DL.rGtD, DL.rGeD, DL.rEqD, DL.rIsD, DL.ix_tupE, DL.ix_scrE, DL.ix_frzE, DL.ix_refE, DL.rLenD, DL.rStrD, DL.rIntD, DL.rAbsD, DL.rInt2, DL.rMaxD, DL.rMinD, DL.rTupleD, DL.rListD, DL.rBools, DL.rAllD, DL.rAnyD, DL.rSlD, DL.wSome, DL.seqOf, DL.lstOf, DL.curOf, DL.startD, DL.wipeD, DL.wYes, DL.refOk, DL.isTyB, DL.isNon, N_show_point, lcW, spNum_at h1, spNum_at h2]
  refine join_ok [numT t1 b1, numT t2 b2] rfl ?_ ?_
  · simp [blank_len]; omega
  · rw [e]; exact .of q
def adrT (a r : List Int) : Str := Txt.join " " (a.map strI ++ ["( " ++ wdsT r ++ " )"])
def spAdr : DSp := fun ds S Q => ∃ a r : List Int, ds = [.tup [.tup (a.map .int), .tup (r.map .int)]] ∧ a.length ≤ 4000 ∧ r.length ≤ 4000 ∧ (∀ n ∈ a, Sml n) ∧ (∀ n ∈ r, Sml n) ∧ Q (.str (adrT a r)) S
theorem op_len : (Str.ofString "( ").length = 2 := by decide +kernel
theorem cl_len : (Str.ofString " )").length = 2 := by decide +kernel
theorem strs_app (a : List Str) (b : Str) : strsOf (a.map D.str ++ [D.str b]) = some (a ++ [b]) := by
  have e : a.map D.str ++ [D.str b] = (a ++ [b]).map D.str := by simp
  rw [e, strsOf_map]
theorem p_show_address : ∀ ds S Q, spAdr ds S Q → W_show_address spWds { nx := fun _ S' => Fin Q .non S', rt := Fin Q } (startD N_show_address ds) S := by
  rintro ds S Q ⟨a, r, rfl, ha, hr, h1, h2, q⟩
  have l1 := ints_len h1
  have l2 := wds_len h2
  have e3 : (Str.ofString "( " ++ wdsT r ++ Str.ofString " )").length ≤ 312 * r.length + 4 := by
    rw [str_len_app, str_len_app, op_len, cl_len]; omega
  have e4 : (Str.ofString "( " ++ wdsT r).length ≤ 312 * r.length + 4 := by
    rw [str_len_app, op_len]; omega
  simp [W_show_address, DL.wNext, DL.wSeq, DL.wDrop, DL.wRet, DL.wRetN, DL.wIf, DL.wAsg, DL.wPar, DL.wPar3, DL.wVar, DL.wC, DL.wOp, DL.wUn, DL.wT, DL.wNotT, DL.wAndT, DL.wOrT, DL.wAndV, DL.wOrV, DL.wNotV, DL.wIfE, DL.wChain, DL.wCB, DL.wCall, DL.wCons, DL.wNil, DL.wStar, DL.wTup, DL.wLst, DL.wLstM, DL.wSl, DL.wPart, DL.wNoPart, DL.wRev, DL.wM1, DL.wIsi, DL.wAppend, DL.wFor, DL.wItS, DL.wRng1, DL.wRng2, DL.wEnum, DL.wLc, DL.dgName, DL.dgCons, DL.dgNil, DL.dgTup, DL.dgSub, DL.rAddD, DL.rSubD, DL.rMulD, DL.rFdivD, DL.rModD, DL.rPowD, DL.rNegD, DL.ints2, DL.cmpI, DL.rLtD, DL.rLeD, DL.rGtD, DL.rGeD, DL.rEqD, DL.rIsD, DL.ix_tupE, DL.ix_scrE, DL.ix_frzE, DL.ix_refE, DL.rLenD, DL.rStrD, DL.rIntD, DL.rAbsD, DL.rInt2, DL.rMaxD, DL.rMinD, DL.rTupleD, DL.rListD, DL.rBools, DL.rAllD, DL.rAnyD, DL.rSlD, DL.wSome, DL.seqOf, DL.lstOf, DL.curOf, DL.startD, DL.wipeD, DL.wYes, DL.refOk, DL.isTyB, DL.isNon, N_show_address, sizeLine_eq]
  refine ⟨by omega, lc_map (fun d => match d with | .int i => .str (strI i) | _ => .non) trivial _ [] (fun d hd Q' hQ => ?_) ?_⟩
  · obtain ⟨n, hn, rfl⟩ := List.mem_map.mp hd
    exact ⟨(h1 n hn).log, hQ⟩
  · rw [map_ints]
    refine ⟨r, .inl rfl, hr, h2, ?_⟩
    simp only [op_len, cl_len]
    refine ⟨by omega, by omega, ?_⟩
    simp [DL.wNext, DL.wSeq, DL.wDrop, DL.wRet, DL.wRetN, DL.wIf, DL.wAsg, DL.wPar, DL.wPar3, DL.wVar, DL.wC, DL.wOp, DL.wUn, DL.wT, DL.wNotT, DL.wAndT, DL.wOrT, DL.wAndV, DL.wOrV, DL.wNotV, DL.wIfE, DL.wChain, DL.wCB, DL.wCall, DL.wCons, DL.wNil, DL.wStar, DL.wTup, DL.wLst, DL.wLstM, DL.wSl, DL.wPart, DL.wNoPart, DL.wRev, DL.wM1, DL.wIsi, DL.wAppend, DL.wFor, DL.wItS, DL.wRng1, DL.wRng2, DL.wEnum, DL.wLc, DL.dgName, DL.dgCons, DL.dgNil, DL.dgTup, DL.dgSub, DL.rAddD, DL.rSubD, DL.rMulD, DL.rFdivD, DL.rModD, DL.rPowD, DL.rNegD, DL.ints2, DL.cmpI, DL.rLtD, DL.rLeD, DL.rGtD, DL.rGeD, DL.rEqD, DL.rIsD, DL.ix_tupE, DL.ix_scrE, DL.ix_frzE, DL.ix_refE, DL.rLenD, DL.rStrD, DL.rIntD, DL.rAbsD, DL.rInt2, DL.rMaxD, DL.rMinD, DL.rTupleD, DL.rListD, DL.rBools, DL.rAllD, DL.rAnyD, DL.rSlD, DL.wSome, DL.seqOf, DL.lstOf, DL.curOf, DL.startD, DL.wipeD, DL.wYes, DL.refOk, DL.isTyB, DL.isNon, sizeLine_eq]
    refine ⟨by omega, join_ok (a.map strI ++ ["( " ++ wdsT r ++ " )"]) (by simp [DL.wNext, DL.wSeq, DL.wDrop, DL.wRet, DL.wRetN, DL.wIf, DL.wAsg, DL.wPar, DL.wPar3, DL.wVar, DL.wC, DL.wOp, DL.wUn, DL.wT, DL.wNotT, DL.wAndT, DL.wOrT, DL.wAndV, DL.wOrV, DL.wNotV, DL.wIfE, DL.wChain, DL.wCB, DL.wCall, DL.wCons, DL.wNil, DL.wStar, DL.wTup, DL.wLst, DL.wLstM, DL.wSl, DL.wPart, DL.wNoPart, DL.wRev, DL.wM1, DL.wIsi, DL.wAppend, DL.wFor, DL.wItS, DL.wRng1, DL.wRng2, DL.wEnum, DL.wLc, DL.dgName, DL.dgCons, DL.dgNil, DL.dgTup, DL.dgSub, DL.rAddD, DL.rSubD, DL.rMulD, DL.rFdivD, DL.rModD, DL.rPowD, DL.rNegD, DL.ints2, DL.cmpI, DL.rLtD, DL.rLeD, DL.rGtD, DL.rGeD, DL.rEqD, DL.rIsD, DL.ix_tupE, DL.ix_scrE, DL.ix_frzE, DL.ix_refE, DL.rLenD, DL.rStrD, DL.rIntD, DL.rAbsD, DL.rInt2, DL.rMaxD, DL.rMinD, DL.rTupleD, DL.rListD, DL.rBools, DL.rAllD, DL.rAnyD, DL.rSlD, DL.wSome, DL.seqOf, DL.lstOf, DL.curOf, DL.startD, DL.wipeD, DL.wYes, DL.refOk, DL.isTyB, DL.isNon, Function.comp_def]) ?_ (.of q)⟩
    rw [List.map_append, List.sum_append, List.length_append, List.length_map, blank_len]
    simp only [List.map_cons, List.map_nil, List.sum_cons, List.sum_nil, List.length_cons, List.length_nil]
    have e5 : (("( " : Str) ++ wdsT r ++ (" )" : Str)).length ≤ 312 * r.length + 4 := e3
    omega
/-- the law's text of an address is the same -/
theorem adr_eq (a r : List Int) (h : r ≠ []) : adrT a r = Txt.join " " (a.map strI ++ (["("] : List Str) ++ r.map strI ++ ([")"] : List Str)) := by
  have hr : r.map strI ≠ [] := by simpa using h
  have inner : Txt.join " " ((["("] : List Str) ++ r.map strI ++ ([")"] : List Str)) = ("( " : Str) ++ wdsT r ++ " )" := by
    rw [List.append_assoc, List.singleton_append, join_cons " " _ (by simp), join_app " " hr (by simp), join_one]
    show Str.ofString "(" ++ Str.ofString " " ++ (wdsT r ++ Str.ofString " " ++ Str.ofString ")") = Str.ofString "( " ++ wdsT r ++ Str.ofString " )"
    rw [open_eq, close_eq]
    simp only [Str.append_assoc]
  unfold adrT
  by_cases ha : a.map strI = []
  · rw [ha, List.nil_append, List.nil_append, join_one, ← inner]
  · rw [join_app " " ha (by simp), join_one, ← inner, List.append_assoc, List.append_assoc, ← join_app " " ha (by simp), List.append_assoc]
/-- a copy -/
structure Cpy where
  x : Int
  y : Int
  s : Int
def Cpy.d (c : Cpy) : D := .tup [.tup [.int c.x, .int c.y], .int c.s]
def Ten (i : Int) : Prop := i.natAbs < 10 ^ 10
def Cpy.Ok (c : Cpy) : Prop := Ten c.x ∧ Ten c.y ∧ Ten c.s
theorem Ten.sml {i : Int} (h : Ten i) : Sml i := Nat.lt_trans h (by decide +kernel)
theorem Ten.len {i : Int} (h : Ten i) : (strI i).length ≤ 11 := strI_len (by decide) h
def cpyT (c : Cpy) : Str := strI c.x ++ " " ++ strI c.y ++ " " ++ strI c.s
theorem cpy_len {c : Cpy} (h : c.Ok) : (cpyT c).length ≤ 35 := by
  have h1 := h.1.len
  have h2 := h.2.1.len
  have h3 := h.2.2.len
  unfold cpyT
  rw [str_len_app, str_len_app, str_len_app, str_len_app, blank_len]
  omega
def spCpy : DSp := fun ds S Q => ∃ c : Cpy, ds = [c.d] ∧ c.Ok ∧ Q (.str (cpyT c)) S
theorem p_show_copy : ∀ ds S Q, spCpy ds S Q → W_show_copy spWds { nx := fun _ S' => Fin Q .non S', rt := Fin Q } (startD N_show_copy ds) S := by
  rintro ds S Q ⟨⟨x, y, s⟩, rfl, ⟨h1, h2, h3⟩, q⟩
  simp [W_show_copy, DL.wNext, DL.wSeq, DL.wDrop, DL.wRet, DL.wRetN, DL.wIf, DL.wAsg, DL.wPar, DL.wPar3, DL.wVar, DL.wC, DL.wOp, DL.wUn, DL.wT, DL.wNotT, DL.wAndT, DL.wOrT, DL.wAndV, DL.wOrV, DL.wNotV, DL.wIfE, DL.wChain, DL.wCB, DL.wCall, DL.wCons, DL.wNil, DL.wStar, DL.wTup, DL.wLst, DL.wLstM, DL.wSl, DL.wPart, DL.wNoPart, DL.wRev, DL.wM1, DL.wIsi, DL.wAppend, DL.wFor, DL.wItS, DL.wRng1, DL.wRng2, DL.wEnum, DL.wLc, DL.dgName, DL.dgCons, DL.dgNil, DL.dgTup, DL.dgSub, DL.rAddD, DL.rSubD, DL.rMulD, DL.rFdivD, DL.rModD, DL.rPowD, DL.rNegD, DL.ints2, DL.cmpI, DL.rLtD, DL.rLeD, DL.rGtD, DL.rGeD, DL.rEqD, DL.rIsD, DL.ix_tupE, DL.ix_scrE, DL.ix_frzE, DL.ix_refE, DL.rLenD, DL.rStrD, DL.rIntD, DL.rAbsD, DL.rInt2, DL.rMaxD, DL.rMinD, DL.rTupleD, DL.rListD, DL.rBools, DL.rAllD, DL.rAnyD, DL.rSlD, DL.wSome, DL.seqOf, DL.lstOf, DL.curOf, DL.startD, DL.wipeD, DL.wYes, DL.refOk, DL.isTyB, DL.isNon, N_show_copy, Cpy.d]
  refine ⟨[x, y, s], .inr rfl, by simp, by simpa using ⟨h1.sml, h2.sml, h3.sml⟩, ?_⟩
  have e : wdsT [x, y, s] = cpyT ⟨x, y, s⟩ := by
    unfold wdsT cpyT
    simp only [List.map_cons, List.map_nil]
    rw [join_two, join_two, join_one]
    simp only [Str.append_assoc]
  rw [e]
  exact .of q
theorem spCpy_at {c : Cpy} {S : Store} {Q : DK} (h : c.Ok) (q : Q (.str (cpyT c)) S) : spCpy [c.d] S Q := ⟨c, rfl, h, q⟩
/-! ### kits -/
structure Kit where
  a : Int
  b : Int
  c : Int
  d : Int
  st : List (List Cpy)
def cpsD (cs : List Cpy) : D := .tup (cs.map Cpy.d)
def Kit.table (k : Kit) : D := .tup [.tup [.int k.a, .int k.b], .tup [.int k.c, .int k.d]]
def Kit.dt (k : Kit) : D := .tup [k.table, .tup (k.st.map cpsD)]
structure Kit.Ok (k : Kit) : Prop where
  a : Sml k.a
  b : Sml k.b
  c : Sml k.c
  d : Sml k.d
  n : k.st.length ≤ 40
  m : ∀ cs ∈ k.st, cs.length ≤ 900 ∧ ∀ c ∈ cs, c.Ok
def cpsT (cs : List Cpy) : Str := Txt.join ", " (cs.map cpyT)
def lineT (p : List Cpy × Nat) : Str := strI p.2 ++ " : " ++ cpsT p.1
def Kit.tx (k : Kit) : Str := Txt.join "\n" (("table " ++ wdsT [k.a, k.b, k.c, k.d]) :: k.st.zipIdx.map lineT)
theorem comma_len : (Str.ofString ", ").length = 2 := by decide +kernel
theorem colon_len : (Str.ofString " : ").length = 3 := by decide +kernel
theorem table_len : (Str.ofString "table ").length = 6 := by decide +kernel
theorem nl_len : (Str.ofString "\n").length = 1 := by decide +kernel
theorem cpys_len {cs : List Cpy} (h : ∀ c ∈ cs, c.Ok) : ((cs.map cpyT).map (·.length)).sum ≤ 35 * cs.length := by
  rw [List.map_map]
  exact sum_le _ cs fun c hc => cpy_len (h c hc)
theorem cps_len {cs : List Cpy} (h : ∀ c ∈ cs, c.Ok) : (cpsT cs).length ≤ 37 * cs.length := by
  have h1 := join_len ", " (cs.map cpyT)
  have h2 := cpys_len h
  rw [comma_len, List.length_map] at h1
  unfold cpsT
  omega
theorem small_nat {n : Nat} (h : n ≤ 10000) : Ten (n : Int) := by
  unfold Ten
  rw [Int.natAbs_natCast]
  exact Nat.lt_of_le_of_lt h (by decide)
theorem line_len {cs : List Cpy} {n : Nat} (h : cs.length ≤ 900 ∧ ∀ c ∈ cs, c.Ok) (hn : n ≤ 10000) : (lineT (cs, n)).length ≤ 33314 := by
  have h1 := cps_len h.2
  have h2 := (small_nat hn).len
  show (strI (n : Int) ++ " : " ++ cpsT cs).length ≤ 33314
  rw [str_len_app, str_len_app, colon_len]
  omega
def spKit : DSp := fun ds S Q => ∃ k : Kit, ds = [k.dt] ∧ k.Ok ∧ Q (.str k.tx) S
theorem p_show_kit : ∀ ds S Q, spKit ds S Q → W_show_kit spCpy spWds { nx := fun _ S' => Fin Q .non S', rt := Fin Q } (startD N_show_kit ds) S := by
  rintro ds S Q ⟨k, rfl, hk, q⟩
  have ht : ∀ n ∈ [k.a, k.b, k.c, k.d], Sml n := by simpa using ⟨hk.a, hk.b, hk.c, hk.d⟩
  have l0 := wds_len ht
  have hn := hk.n
  simp [W_show_kit, DL.wNext, DL.wSeq, DL.wDrop, DL.wRet, DL.wRetN, DL.wIf, DL.wAsg, DL.wPar, DL.wPar3, DL.wVar, DL.wC, DL.wOp, DL.wUn, DL.wT, DL.wNotT, DL.wAndT, DL.wOrT, DL.wAndV, DL.wOrV, DL.wNotV, DL.wIfE, DL.wChain, DL.wCB, DL.wCall, DL.wCons, DL.wNil, DL.wStar, DL.wTup, DL.wLst, DL.wLstM, DL.wSl, DL.wPart, DL.wNoPart, DL.wRev, DL.wM1, DL.wIsi, DL.wAppend, DL.wFor, DL.wItS, DL.wRng1, DL.wRng2, DL.wEnum, DL.wLc, DL.dgName, DL.dgCons, DL.dgNil, DL.dgTup, DL.dgSub, DL.rAddD, DL.rSubD, DL.rMulD, DL.rFdivD, DL.rModD, DL.rPowD, DL.rNegD, DL.ints2, DL.cmpI, DL.rLtD, DL.rLeD, DL.rGtD, DL.rGeD, DL.rEqD, DL.rIsD, DL.ix_tupE, DL.ix_scrE, DL.ix_frzE, DL.ix_refE, DL.rLenD, DL.rStrD, DL.rIntD, DL.rAbsD, DL.rInt2, DL.rMaxD, DL.rMinD, DL.rTupleD, DL.rListD, DL.rBools, DL.rAllD, DL.rAnyD, DL.rSlD, DL.wSome, DL.seqOf, DL.lstOf, DL.curOf, DL.startD, DL.wipeD, DL.wYes, DL.refOk, DL.isTyB, DL.isNon, N_show_kit, Kit.dt, Kit.table, wLc2, lcW2, lcI, enumD]
  refine ⟨[k.a, k.b, k.c, k.d], .inr rfl, by simp, ht, ?_⟩
  simp only [table_len, sizeLine_eq]
  refine ⟨by simp at l0; omega, fun p hp => ?_⟩
  refine loop_on (fun rest ρ S' => ∃ (st : List (List Cpy)) (n : Nat) (done : List Str) (i1 i2 : Option D), rest = ((st.map cpsD).zipIdx n).map (fun p => D.tup [D.int (p.2 : Nat), p.1]) ∧
      done ++ (st.zipIdx n).map lineT = ("table " ++ wdsT [k.a, k.b, k.c, k.d]) :: k.st.zipIdx.map lineT ∧ S' = S.set p (.lst (done.map .str)) ∧
      ρ = [some (D.tup [D.tup [D.tup [D.int k.a, D.int k.b], D.tup [D.int k.c, D.int k.d]], D.tup (List.map cpsD k.st)]), some (D.tup [D.tup [D.int k.a, D.int k.b], D.tup [D.int k.c, D.int k.d]]), some (D.tup (List.map cpsD k.st)), some (D.ref p), i1, i2, none, none, none] ∧
      (∀ cs ∈ st, cs.length ≤ 900 ∧ ∀ c ∈ cs, c.Ok) ∧ n + st.length ≤ 40 ∧ done.length = n + 1 ∧ ∀ x ∈ done, x.length ≤ 33314) ?_ ?_ _ _ _
      ⟨k.st, 0, ["table " ++ wdsT [k.a, k.b, k.c, k.d]], none, none, rfl, rfl, rfl, rfl, hk.m, by omega, rfl, fun x hx => ?_⟩
  · rintro ρ S' ⟨st, n, done, i1, i2, e1, e2, rfl, rfl, h1, h2, h3, h4⟩
    have hst : st = [] := by
      cases st with
      | nil => rfl
      | cons a b => simp at e1
    subst hst
    simp at e2
    refine ⟨trivial, ?_⟩
    simp [DL.wNext, DL.wSeq, DL.wDrop, DL.wRet, DL.wRetN, DL.wIf, DL.wAsg, DL.wPar, DL.wPar3, DL.wVar, DL.wC, DL.wOp, DL.wUn, DL.wT, DL.wNotT, DL.wAndT, DL.wOrT, DL.wAndV, DL.wOrV, DL.wNotV, DL.wIfE, DL.wChain, DL.wCB, DL.wCall, DL.wCons, DL.wNil, DL.wStar, DL.wTup, DL.wLst, DL.wLstM, DL.wSl, DL.wPart, DL.wNoPart, DL.wRev, DL.wM1, DL.wIsi, DL.wAppend, DL.wFor, DL.wItS, DL.wRng1, DL.wRng2, DL.wEnum, DL.wLc, DL.dgName, DL.dgCons, DL.dgNil, DL.dgTup, DL.dgSub, DL.rAddD, DL.rSubD, DL.rMulD, DL.rFdivD, DL.rModD, DL.rPowD, DL.rNegD, DL.ints2, DL.cmpI, DL.rLtD, DL.rLeD, DL.rGtD, DL.rGeD, DL.rEqD, DL.rIsD, DL.ix_tupE, DL.ix_scrE, DL.ix_frzE, DL.ix_refE, DL.rLenD, DL.rStrD, DL.rIntD, DL.rAbsD, DL.rInt2, DL.rMaxD, DL.rMinD, DL.rTupleD, DL.rListD, DL.rBools, DL.rAllD, DL.rAnyD, DL.rSlD, DL.wSome, DL.seqOf, DL.lstOf, DL.curOf, DL.startD, DL.wipeD, DL.wYes, DL.refOk, DL.isTyB, DL.isNon]
    have hs := sum_le (fun x : Str => x.length) done h4
    refine join_ok done (by simp [DL.wNext, DL.wSeq, DL.wDrop, DL.wRet, DL.wRetN, DL.wIf, DL.wAsg, DL.wPar, DL.wPar3, DL.wVar, DL.wC, DL.wOp, DL.wUn, DL.wT, DL.wNotT, DL.wAndT, DL.wOrT, DL.wAndV, DL.wOrV, DL.wNotV, DL.wIfE, DL.wChain, DL.wCB, DL.wCall, DL.wCons, DL.wNil, DL.wStar, DL.wTup, DL.wLst, DL.wLstM, DL.wSl, DL.wPart, DL.wNoPart, DL.wRev, DL.wM1, DL.wIsi, DL.wAppend, DL.wFor, DL.wItS, DL.wRng1, DL.wRng2, DL.wEnum, DL.wLc, DL.dgName, DL.dgCons, DL.dgNil, DL.dgTup, DL.dgSub, DL.rAddD, DL.rSubD, DL.rMulD, DL.rFdivD, DL.rModD, DL.rPowD, DL.rNegD, DL.ints2, DL.cmpI, DL.rLtD, DL.rLeD, DL.rGtD, DL.rGeD, DL.rEqD, DL.rIsD, DL.ix_tupE, DL.ix_scrE, DL.ix_frzE, DL.ix_refE, DL.rLenD, DL.rStrD, DL.rIntD, DL.rAbsD, DL.rInt2, DL.rMaxD, DL.rMinD, DL.rTupleD, DL.rListD, DL.rBools, DL.rAllD, DL.rAnyD, DL.rSlD, DL.wSome, DL.seqOf, DL.lstOf, DL.curOf, DL.startD, DL.wipeD, DL.wYes, DL.refOk, DL.isTyB, DL.isNon, Store.set_same]) (by rw [nl_len]; omega) (.sub (Sub.set hp) ?_)
    rw [e2]
    exact q
  · rintro d r ρ S' Kc ⟨st, n, done, i1, i2, e1, e2, rfl, rfl, h1, h2, h3, h4⟩ hK
    refine ⟨trivial, ?_⟩
    cases st with
    | nil => simp at e1
    | cons cs st =>
      simp only [List.map_cons, List.zipIdx_cons, List.cons.injEq] at e1
      obtain ⟨rfl, rfl⟩ := e1
      have hcs := h1 cs List.mem_cons_self
      have hn' : n ≤ 10000 := by simp at h2; omega
      have ln := (small_nat hn').len
      have lc := cps_len hcs.2
      have ll := line_len (cs := cs) (n := n) hcs hn'
      simp [DL.wNext, DL.wSeq, DL.wDrop, DL.wRet, DL.wRetN, DL.wIf, DL.wAsg, DL.wPar, DL.wPar3, DL.wVar, DL.wC, DL.wOp, DL.wUn, DL.wT, DL.wNotT, DL.wAndT, DL.wOrT, DL.wAndV, DL.wOrV, DL.wNotV, DL.wIfE, DL.wChain, DL.wCB, DL.wCall, DL.wCons, DL.wNil, DL.wStar, DL.wTup, DL.wLst, DL.wLstM, DL.wSl, DL.wPart, DL.wNoPart, DL.wRev, DL.wM1, DL.wIsi, DL.wAppend, DL.wFor, DL.wItS, DL.wRng1, DL.wRng2, DL.wEnum, DL.wLc, DL.dgName, DL.dgCons, DL.dgNil, DL.dgTup, DL.dgSub, DL.rAddD, DL.rSubD, DL.rMulD, DL.rFdivD, DL.rModD, DL.rPowD, DL.rNegD, DL.ints2, DL.cmpI, DL.rLtD, DL.rLeD, DL.rGtD, DL.rGeD, DL.rEqD, DL.rIsD, DL.ix_tupE, DL.ix_scrE, DL.ix_frzE, DL.ix_refE, DL.rLenD, DL.rStrD, DL.rIntD, DL.rAbsD, DL.rInt2, DL.rMaxD, DL.rMinD, DL.rTupleD, DL.rListD, DL.rBools, DL.rAllD, DL.rAnyD, DL.rSlD, DL.wSome, DL.seqOf, DL.lstOf, DL.curOf, DL.startD, DL.wipeD, DL.wYes, DL.refOk, DL.isTyB, DL.isNon, Store.set_same, cpsD, sizeLine_eq, colon_len]
      refine ⟨(small_nat hn').sml.log, by omega, by omega, lc_map (fun d => match d with | .tup [.tup [.int x, .int y], .int s] => .str (cpyT ⟨x, y, s⟩) | _ => .non) trivial _ [] (fun d hd Q' hQ => ?_) ?_⟩
      · obtain ⟨c, hc, rfl⟩ := List.mem_map.mp hd
        simp [DL.wNext, DL.wSeq, DL.wDrop, DL.wRet, DL.wRetN, DL.wIf, DL.wAsg, DL.wPar, DL.wPar3, DL.wVar, DL.wC, DL.wOp, DL.wUn, DL.wT, DL.wNotT, DL.wAndT, DL.wOrT, DL.wAndV, DL.wOrV, DL.wNotV, DL.wIfE, DL.wChain, DL.wCB, DL.wCall, DL.wCons, DL.wNil, DL.wStar, DL.wTup, DL.wLst, DL.wLstM, DL.wSl, DL.wPart, DL.wNoPart, DL.wRev, DL.wM1, DL.wIsi, DL.wAppend, DL.wFor, DL.wItS, DL.wRng1, DL.wRng2, DL.wEnum, DL.wLc, DL.dgName, DL.dgCons, DL.dgNil, DL.dgTup, DL.dgSub, DL.rAddD, DL.rSubD, DL.rMulD, DL.rFdivD, DL.rModD, DL.rPowD, DL.rNegD, DL.ints2, DL.cmpI, DL.rLtD, DL.rLeD, DL.rGtD, DL.rGeD, DL.rEqD, DL.rIsD, DL.ix_tupE, DL.ix_scrE, DL.ix_frzE, DL.ix_refE, DL.rLenD, DL.rStrD, DL.rIntD, DL.rAbsD, DL.rInt2, DL.rMaxD, DL.rMinD, DL.rTupleD, DL.rListD, DL.rBools, DL.rAllD, DL.rAnyD, DL.rSlD, DL.wSome, DL.seqOf, DL.lstOf, DL.curOf, DL.startD, DL.wipeD, DL.wYes, DL.refOk, DL.isTyB, DL.isNon]
        exact spCpy_at (hcs.2 c hc) hQ
      · refine join_ok (cs.map cpyT) (by simp [DL.wNext, DL.wSeq, DL.wDrop, DL.wRet, DL.wRetN, DL.wIf, DL.wAsg, DL.wPar, DL.wPar3, DL.wVar, DL.wC, DL.wOp, DL.wUn, DL.wT, DL.wNotT, DL.wAndT, DL.wOrT, DL.wAndV, DL.wOrV, DL.wNotV, DL.wIfE, DL.wChain, DL.wCB, DL.wCall, DL.wCons, DL.wNil, DL.wStar, DL.wTup, DL.wLst, DL.wLstM, DL.wSl, DL.wPart, DL.wNoPart, DL.wRev, DL.wM1, DL.wIsi, DL.wAppend, DL.wFor, DL.wItS, DL.wRng1, DL.wRng2, DL.wEnum, DL.wLc, DL.dgName, DL.dgCons, DL.dgNil, DL.dgTup, DL.dgSub, DL.rAddD, DL.rSubD, DL.rMulD, DL.rFdivD, DL.rModD, DL.rPowD, DL.rNegD, DL.ints2, DL.cmpI, DL.rLtD, DL.rLeD, DL.rGtD, DL.rGeD, DL.rEqD, DL.rIsD, DL.ix_tupE, DL.ix_scrE, DL.ix_frzE, DL.ix_refE, DL.rLenD, DL.rStrD, DL.rIntD, DL.rAbsD, DL.rInt2, DL.rMaxD, DL.rMinD, DL.rTupleD, DL.rListD, DL.rBools, DL.rAllD, DL.rAnyD, DL.rSlD, DL.wSome, DL.seqOf, DL.lstOf, DL.curOf, DL.startD, DL.wipeD, DL.wYes, DL.refOk, DL.isTyB, DL.isNon, Function.comp_def, Cpy.d]) ?_ ?_
        · have := cpys_len hcs.2
          rw [comma_len, List.length_map]
          omega
        · show (Str.length _ + Str.length (cpsT cs) ≤ _) ∧ _
          rw [str_len_app, colon_len]
          refine ⟨by omega, ?_⟩
          simp only [Store.set_same]
          refine ⟨by simp; omega, hK _ _ ⟨st, n + 1, done ++ [lineT (cs, n)], _, _, rfl, ?_, ?_, rfl, fun c hc => h1 c (List.mem_cons_of_mem _ hc), by simp at h2; omega, by simp [h3], fun x hx => ?_⟩⟩
          · rw [← e2]; simp
          · rw [Store.set_set]; simp [lineT]; rfl
          · rcases List.mem_append.mp hx with z | z
            · exact h4 x z
            · rw [List.mem_singleton.mp z]; exact ll
  · rw [List.mem_singleton.mp hx]
    show (Str.ofString "table " ++ wdsT [k.a, k.b, k.c, k.d]).length ≤ 33314
    rw [str_len_app, table_len]
    simp at l0
    omega
end K51

namespace K51
open PySem PySem.Spec L2 PyProof.Rows DL
/-! ### the well -/
def Wl (S : Store) (p : Addr) (n : Nat) : Prop := ∃ a b c : Int, S p = some (.lst [.int a, .int b, .int c]) ∧ 0 ≤ b ∧ b < 10 ^ 26 ∧ 0 ≤ c ∧ c ≤ (n : Int)
def Off (p : Addr) (S S' : Store) : Prop := ∀ q, q ≠ p → S' q = S q
theorem Off.refl (p : Addr) (S : Store) : Off p S S := fun _ _ => rfl
theorem Off.trans {p : Addr} {S S1 S2 : Store} (a : Off p S S1) (b : Off p S1 S2) : Off p S S2 := fun q h => (b q h).trans (a q h)
theorem Off.set (p : Addr) (S : Store) (o : SO) : Off p S (S.set p o) := fun _ h => Store.set_ne h
theorem Wl.mono {S : Store} {p : Addr} {n m : Nat} (h : Wl S p n) (l : n ≤ m) : Wl S p m := by
  obtain ⟨a, b, c, h1, h2, h3, h4, h5⟩ := h
  exact ⟨a, b, c, h1, h2, h3, h4, by omega⟩
theorem bits_le {i : Int} {k : Nat} (hk : 0 < k) (h : i.natAbs < 2 ^ k) : Builtin.Int.intBits i ≤ k := by
  unfold Builtin.Int.intBits
  split
  · exact Nat.zero_le _
  · exact log2_lt hk h
theorem bits_pos {i : Int} {k : Nat} (hk : 0 < k) (h0 : 0 ≤ i) (h : i < ((2 ^ k : Nat) : Int)) : Builtin.Int.intBits i ≤ k := bits_le hk (by omega)
theorem bits_ten : Builtin.Int.intBits 10 = 4 := by decide +kernel
theorem mul_l {i j : Int} (h : i.natAbs < 2 ^ 64) : IntMulOk i j := .of_left (bits_le (by decide) h)
theorem mul_r {i j : Int} (h : j.natAbs < 2 ^ 64) : IntMulOk i j := .of_right (bits_le (by decide) h)
theorem fmod_in (i : Int) {j : Int} (h : 0 < j) : 0 ≤ i.fmod j ∧ i.fmod j < j := ⟨Int.fmod_nonneg_of_pos i h, Int.fmod_lt_of_pos i h⟩
def spDraw : DSp := fun ds S Q => ∃ p many n, ds = [.ref p, .int many] ∧ 1 ≤ many ∧ many.natAbs.log2 < 9000 ∧ Wl S p n ∧ n < 1000000000 ∧ ∀ i S', 0 ≤ i → i < many → Wl S' p (n + 1) → Off p S S' → Q (.int i) S'
theorem at0 {α : Type} {x : α} {r : List α} : atI (x :: r) 0 = some x := by
  unfold atI ixN; simp
theorem at1 {α : Type} {x y : α} {r : List α} : atI (x :: y :: r) 1 = some y := by
  unfold atI ixN
  have : (1 : Int) < ((x :: y :: r).length : Int) := by simp; omega
  rw [if_pos (by decide), if_pos this]; rfl
theorem at2 {α : Type} {x y z : α} {r : List α} : atI (x :: y :: z :: r) 2 = some z := by
  unfold atI ixN
  have : (2 : Int) < ((x :: y :: z :: r).length : Int) := by simp; omega
  rw [if_pos (by decide), if_pos this]; rfl
theorem p__law_draw : ∀ ds S Q, spDraw ds S Q → W__law_draw { nx := fun _ S' => Fin Q .non S', rt := Fin Q } (startD N__law_draw ds) S := by
  rintro ds S Q ⟨p, many, n, rfl, h1, h2, ⟨a, b, c, hS, hb0, hb, hc0, hc⟩, hn, q⟩
  have hm : many ≠ 0 := by omega
  have hm0 : 0 < many := by omega
  by_cases ha : a > 0
  · have hr := fmod_in a hm0
    simp [W__law_draw, DL.wNext, DL.wSeq, DL.wDrop, DL.wRet, DL.wRetN, DL.wIf, DL.wAsg, DL.wPar, DL.wPar3, DL.wVar, DL.wC, DL.wOp, DL.wUn, DL.wT, DL.wNotT, DL.wAndT, DL.wOrT, DL.wAndV, DL.wOrV, DL.wNotV, DL.wIfE, DL.wChain, DL.wCB, DL.wCall, DL.wCons, DL.wNil, DL.wStar, DL.wTup, DL.wLst, DL.wLstM, DL.wSl, DL.wPart, DL.wNoPart, DL.wRev, DL.wM1, DL.wIsi, DL.wAppend, DL.wFor, DL.wItS, DL.wRng1, DL.wRng2, DL.wEnum, DL.wLc, DL.dgName, DL.dgCons, DL.dgNil, DL.dgTup, DL.dgSub, DL.rAddD, DL.rSubD, DL.rMulD, DL.rFdivD, DL.rModD, DL.rPowD, DL.rNegD, DL.ints2, DL.cmpI, DL.rLtD, DL.rLeD, DL.rGtD, DL.rGeD, DL.rEqD, DL.rIsD, DL.ix_tupE, DL.ix_scrE, DL.ix_frzE, DL.ix_refE, DL.rLenD, DL.rStrD, DL.rIntD, DL.rAbsD, DL.rInt2, DL.rMaxD, DL.rMinD, DL.rTupleD, DL.rListD, DL.rBools, DL.rAllD, DL.rAnyD, DL.rSlD, DL.wSome, DL.seqOf, DL.lstOf, DL.curOf, DL.startD, DL.wipeD, DL.wYes, DL.refOk, DL.isTyB, DL.isNon, N__law_draw, hS, at0, ha, ixN, hm]
    exact ⟨h2, .of (q _ _ hr.1 hr.2 ⟨_, b, c, Store.set_same, hb0, hb, hc0, by omega⟩ (Off.set _ _ _))⟩
  · simp [W__law_draw, DL.wNext, DL.wSeq, DL.wDrop, DL.wRet, DL.wRetN, DL.wIf, DL.wAsg, DL.wPar, DL.wPar3, DL.wVar, DL.wC, DL.wOp, DL.wUn, DL.wT, DL.wNotT, DL.wAndT, DL.wOrT, DL.wAndV, DL.wOrV, DL.wNotV, DL.wIfE, DL.wChain, DL.wCB, DL.wCall, DL.wCons, DL.wNil, DL.wStar, DL.wTup, DL.wLst, DL.wLstM, DL.wSl, DL.wPart, DL.wNoPart, DL.wRev, DL.wM1, DL.wIsi, DL.wAppend, DL.wFor, DL.wItS, DL.wRng1, DL.wRng2, DL.wEnum, DL.wLc, DL.dgName, DL.dgCons, DL.dgNil, DL.dgTup, DL.dgSub, DL.rAddD, DL.rSubD, DL.rMulD, DL.rFdivD, DL.rModD, DL.rPowD, DL.rNegD, DL.ints2, DL.cmpI, DL.rLtD, DL.rLeD, DL.rGtD, DL.rGeD, DL.rEqD, DL.rIsD, DL.ix_tupE, DL.ix_scrE, DL.ix_frzE, DL.ix_refE, DL.rLenD, DL.rStrD, DL.rIntD, DL.rAbsD, DL.rInt2, DL.rMaxD, DL.rMinD, DL.rTupleD, DL.rListD, DL.rBools, DL.rAllD, DL.rAnyD, DL.rSlD, DL.wSome, DL.seqOf, DL.lstOf, DL.curOf, DL.startD, DL.wipeD, DL.wYes, DL.refOk, DL.isTyB, DL.isNon, N__law_draw, hS, at0, at1, at2, ha, ixN, hm, Store.set_same]
    have hx := bits_pos (i := b + 49979693 * (c + 1)) (k := 100) (by decide) (by omega) (by
      have : ((2 ^ 100 : Nat) : Int) = 1267650600228229401496703205376 := by decide +kernel
      rw [this]; omega)
    have f1 := fmod_in ((b + 49979693 * (c + 1)) ^ 3) (j := 100000000000000000000000000319) (by decide)
    have hy := bits_pos (i := ((b + 49979693 * (c + 1)) ^ 3).fmod 100000000000000000000000000319 + 2038074751) (k := 100) (by decide) (by omega) (by
      have : ((2 ^ 100 : Nat) : Int) = 1267650600228229401496703205376 := by decide +kernel
      rw [this]; omega)
    have hr := fmod_in (((((((b + 49979693 * (c + 1)) ^ 3).fmod 100000000000000000000000000319 + 2038074751) ^ 3).fmod 1000000000000000000000000000000033).fdiv 1000000)) hm0
    rw [bits_ten]
    refine ⟨mul_l (by decide), by omega, by decide, by omega, by decide, by decide, by decide +kernel, .of (q _ _ hr.1 hr.2 ⟨a, b, c + 1, Store.set_same, hb0, hb, by omega, by omega⟩ (Off.set _ _ _))⟩
def spWell : DSp := fun ds S Q => ∃ (ns : List Int) (n : Nat), ds = [.frz (ns.map .int), .int n] ∧ n < 100 ∧ ns.length ≤ 63 ∧ ∀ p S', S p = none → Wl S' p 0 → Off p S S' → Q (.ref p) S'
theorem p__law_well : ∀ ds S Q, spWell ds S Q → W__law_well { nx := fun _ S' => Fin Q .non S', rt := Fin Q } (startD N__law_well ds) S := by
  rintro ds S Q ⟨ns, n, rfl, hn, hl, q⟩
  have go : ∀ x c : Int, ∀ p, S p = none → Fin Q (.ref p) (S.set p (.lst [.int x, .int ((c * 86028157 + (n : Int) * 179424691 + 7919).fmod 10000000000000000000000013), .int 0])) := fun x c p hp => by
    have h := fmod_in (c * 86028157 + (n : Int) * 179424691 + 7919) (j := 10000000000000000000000013) (by decide)
    exact .of (q p _ hp ⟨_, _, 0, Store.set_same, h.1, by omega, by omega, by omega⟩ (Off.set _ _ _))
  by_cases hlt : n < ns.length
  · simp [W__law_well, DL.wNext, DL.wSeq, DL.wDrop, DL.wRet, DL.wRetN, DL.wIf, DL.wAsg, DL.wPar, DL.wPar3, DL.wVar, DL.wC, DL.wOp, DL.wUn, DL.wT, DL.wNotT, DL.wAndT, DL.wOrT, DL.wAndV, DL.wOrV, DL.wNotV, DL.wIfE, DL.wChain, DL.wCB, DL.wCall, DL.wCons, DL.wNil, DL.wStar, DL.wTup, DL.wLst, DL.wLstM, DL.wSl, DL.wPart, DL.wNoPart, DL.wRev, DL.wM1, DL.wIsi, DL.wAppend, DL.wFor, DL.wItS, DL.wRng1, DL.wRng2, DL.wEnum, DL.wLc, DL.dgName, DL.dgCons, DL.dgNil, DL.dgTup, DL.dgSub, DL.rAddD, DL.rSubD, DL.rMulD, DL.rFdivD, DL.rModD, DL.rPowD, DL.rNegD, DL.ints2, DL.cmpI, DL.rLtD, DL.rLeD, DL.rGtD, DL.rGeD, DL.rEqD, DL.rIsD, DL.ix_tupE, DL.ix_scrE, DL.ix_frzE, DL.ix_refE, DL.rLenD, DL.rStrD, DL.rIntD, DL.rAbsD, DL.rInt2, DL.rMaxD, DL.rMinD, DL.rTupleD, DL.rListD, DL.rBools, DL.rAllD, DL.rAnyD, DL.rSlD, DL.wSome, DL.seqOf, DL.lstOf, DL.curOf, DL.startD, DL.wipeD, DL.wYes, DL.refOk, DL.isTyB, DL.isNon, N__law_well, hlt, ixN, atI, bits_ten]
    exact ⟨mul_r (by decide), mul_r (by decide), fun p hp => go _ _ p hp⟩
  · simp [W__law_well, DL.wNext, DL.wSeq, DL.wDrop, DL.wRet, DL.wRetN, DL.wIf, DL.wAsg, DL.wPar, DL.wPar3, DL.wVar, DL.wC, DL.wOp, DL.wUn, DL.wT, DL.wNotT, DL.wAndT, DL.wOrT, DL.wAndV, DL.wOrV, DL.wNotV, DL.wIfE, DL.wChain, DL.wCB, DL.wCall, DL.wCons, DL.wNil, DL.wStar, DL.wTup, DL.wLst, DL.wLstM, DL.wSl, DL.wPart, DL.wNoPart, DL.wRev, DL.wM1, DL.wIsi, DL.wAppend, DL.wFor, DL.wItS, DL.wRng1, DL.wRng2, DL.wEnum, DL.wLc, DL.dgName, DL.dgCons, DL.dgNil, DL.dgTup, DL.dgSub, DL.rAddD, DL.rSubD, DL.rMulD, DL.rFdivD, DL.rModD, DL.rPowD, DL.rNegD, DL.ints2, DL.cmpI, DL.rLtD, DL.rLeD, DL.rGtD, DL.rGeD, DL.rEqD, DL.rIsD, DL.ix_tupE, DL.ix_scrE, DL.ix_frzE, DL.ix_refE, DL.rLenD, DL.rStrD, DL.rIntD, DL.rAbsD, DL.rInt2, DL.rMaxD, DL.rMinD, DL.rTupleD, DL.rListD, DL.rBools, DL.rAllD, DL.rAnyD, DL.rSlD, DL.wSome, DL.seqOf, DL.lstOf, DL.curOf, DL.startD, DL.wipeD, DL.wYes, DL.refOk, DL.isTyB, DL.isNon, N__law_well, hlt, ixN, bits_ten]
    exact ⟨mul_r (by decide), mul_r (by decide), mul_r (by decide), mul_r (by decide), fun p hp => go _ _ p hp⟩
/-! ### _law_same -/
def Tr : Nat → D → Prop
  | _, .int _ => True
  | _, .str _ => True
  | n + 1, .tup ds => ds.length ≤ 1000000 ∧ ∀ d ∈ ds, Tr n d
  | n + 1, .scr ds => ds.length ≤ 1000000 ∧ ∀ d ∈ ds, Tr n d
  | _, _ => False
def spSame (n : Nat) : DSp := fun ds S Q => ∃ d, ds = [d, d] ∧ Tr n d ∧ Q (.bl true) S
def spNo : DSp := fun _ _ _ => False
theorem at_nat {α : Type} {xs : List α} {k : Nat} (h : k < xs.length) : atI xs (k : Int) = some xs[k] := by
  unfold atI ixN
  have : (k : Int) < (xs.length : Int) := by omega
  rw [if_pos (by omega), if_pos this]
  simp [h]
theorem same_items {xs : List D} {m : Nat} {S : Store} {d : D} {Q : DK} (hd : seqOf S d = some xs) (hs : ∀ z, d ≠ .str z) (h : ∀ x ∈ xs, Tr m x) (hl : xs.length ≤ 1000000) (q : Q (.bl true) S) :
    wLc (wRng1 (wCB rLenD (wCons (wVar 1) wNil))) (dgName 2) wYes (wCall (spSame m) (wCons (wOp rIxD (wVar 0) (wVar 2)) (wCons (wOp rIxD (wVar 1) (wVar 2)) wNil))) [2] [some d, some d, none] S (fun d1 S1 => rAllD [d1] S1 Q) := by
  have hlen : ∀ P : DK, P (.int xs.length) S → DL.rLenD [d] S P := fun P hp => by
    unfold DL.rLenD
    cases d with
    | str z => exact absurd rfl (hs z)
    | _ => exact wSome.of hd hp
  have hix : ∀ (k : Nat) (hk : k < xs.length) (P : DK), P xs[k] S → rIxD d (.int k) S P := fun k hk P hp => by
    unfold DL.rIxD
    cases d with
    | str z => exact absurd rfl (hs z)
    | _ => exact wSome.of hd (wSome.of (at_nat hk) hp)
  show DL.rLenD [d] S _
  refine hlen _ ?_
  refine ⟨⟨by omega, by omega⟩, by simp [rngD]; omega, ?_⟩
  refine lc_map (fun _ => .bl true) trivial _ [] (fun e he Q' hQ => ?_) ?_
  · obtain ⟨k, hk, rfl⟩ := List.mem_map.mp he
    have hk' : k < xs.length := by simpa using hk
    simp only [Int.zero_add]
    show rIxD d (.int k) S _
    refine hix k hk' _ ?_
    show rIxD d (.int k) S _
    refine hix k hk' _ ?_
    exact ⟨xs[k], rfl, h _ (List.getElem_mem hk'), hQ⟩
  · have gen : ∀ l : List D, l.map (fun _ => D.bl true) = (List.replicate l.length true).map D.bl := fun l => by
      induction l with
      | nil => rfl
      | cons x l ih => rw [List.map_cons, ih, List.length_cons, List.replicate_succ, List.map_cons]
    have e : (rngD 0 ((xs.length : Int).toNat)).map (fun _ => D.bl true) = (List.replicate xs.length true).map D.bl := by
      rw [gen]
      simp [rngD]
    show wSome (blsOf ([] ++ _)) _
    rw [List.nil_append, e]
    refine wSome.of (blsOf_map _) ?_
    have : (List.replicate xs.length true).all id = true := by simp
    show Q (.bl ((List.replicate xs.length true).all id)) S
    rw [this]
    exact q
theorem p__law_same (n : Nat) (sp : DSp) (hsp : ∀ m, n = m + 1 → sp = spSame m) : ∀ ds S Q, spSame n ds S Q → W__law_same sp { nx := fun _ S' => Fin Q .non S', rt := Fin Q } (startD N__law_same ds) S := by
  rintro ds S Q ⟨d, rfl, hd, q⟩
  have go : ∀ xs m, n = m + 1 → seqOf S d = some xs → (∀ z, d ≠ .str z) → (∀ x ∈ xs, Tr m x) → xs.length ≤ 1000000 → wLc (wRng1 (wCB rLenD (wCons (wVar 1) wNil))) (dgName 2) wYes (wCall sp (wCons (wOp rIxD (wVar 0) (wVar 2)) (wCons (wOp rIxD (wVar 1) (wVar 2)) wNil))) [2] [some d, some d, none] S (fun d1 S1 => rAllD [d1] S1 (Fin Q)) := fun xs m e h1 h2 h3 h4 => by
    rw [hsp m e]
    exact same_items h1 h2 h3 h4 (.of q)
  cases d with
  | int i =>
    simp [W__law_same, DL.wNext, DL.wSeq, DL.wDrop, DL.wRet, DL.wRetN, DL.wIf, DL.wAsg, DL.wPar, DL.wPar3, DL.wVar, DL.wC, DL.wOp, DL.wUn, DL.wT, DL.wNotT, DL.wAndT, DL.wOrT, DL.wAndV, DL.wOrV, DL.wNotV, DL.wIfE, DL.wChain, DL.wCB, DL.wCall, DL.wCons, DL.wNil, DL.wStar, DL.wTup, DL.wLst, DL.wLstM, DL.wSl, DL.wPart, DL.wNoPart, DL.wRev, DL.wM1, DL.wIsi, DL.wAppend, DL.wFor, DL.wItS, DL.wRng1, DL.wRng2, DL.wEnum, DL.wLc, DL.dgName, DL.dgCons, DL.dgNil, DL.dgTup, DL.dgSub, DL.rAddD, DL.rSubD, DL.rMulD, DL.rFdivD, DL.rModD, DL.rPowD, DL.rNegD, DL.ints2, DL.cmpI, DL.rLtD, DL.rLeD, DL.rGtD, DL.rGeD, DL.rEqD, DL.rIsD, DL.ix_tupE, DL.ix_scrE, DL.ix_frzE, DL.ix_refE, DL.rLenD, DL.rStrD, DL.rIntD, DL.rAbsD, DL.rInt2, DL.rMaxD, DL.rMinD, DL.rTupleD, DL.rListD, DL.rBools, DL.rAllD, DL.rAnyD, DL.rSlD, DL.wSome, DL.seqOf, DL.lstOf, DL.curOf, DL.startD, DL.wipeD, DL.wYes, DL.refOk, DL.isTyB, DL.isNon, N__law_same]
    exact .of q
  | str z =>
    simp [W__law_same, DL.wNext, DL.wSeq, DL.wDrop, DL.wRet, DL.wRetN, DL.wIf, DL.wAsg, DL.wPar, DL.wPar3, DL.wVar, DL.wC, DL.wOp, DL.wUn, DL.wT, DL.wNotT, DL.wAndT, DL.wOrT, DL.wAndV, DL.wOrV, DL.wNotV, DL.wIfE, DL.wChain, DL.wCB, DL.wCall, DL.wCons, DL.wNil, DL.wStar, DL.wTup, DL.wLst, DL.wLstM, DL.wSl, DL.wPart, DL.wNoPart, DL.wRev, DL.wM1, DL.wIsi, DL.wAppend, DL.wFor, DL.wItS, DL.wRng1, DL.wRng2, DL.wEnum, DL.wLc, DL.dgName, DL.dgCons, DL.dgNil, DL.dgTup, DL.dgSub, DL.rAddD, DL.rSubD, DL.rMulD, DL.rFdivD, DL.rModD, DL.rPowD, DL.rNegD, DL.ints2, DL.cmpI, DL.rLtD, DL.rLeD, DL.rGtD, DL.rGeD, DL.rEqD, DL.rIsD, DL.ix_tupE, DL.ix_scrE, DL.ix_frzE, DL.ix_refE, DL.rLenD, DL.rStrD, DL.rIntD, DL.rAbsD, DL.rInt2, DL.rMaxD, DL.rMinD, DL.rTupleD, DL.rListD, DL.rBools, DL.rAllD, DL.rAnyD, DL.rSlD, DL.wSome, DL.seqOf, DL.lstOf, DL.curOf, DL.startD, DL.wipeD, DL.wYes, DL.refOk, DL.isTyB, DL.isNon, N__law_same]
    exact .of q
  | tup xs =>
    cases n with
    | zero => exact (show False from hd).elim
    | succ m =>
      have g := go xs m rfl rfl (fun z e => nomatch e) hd.2 hd.1
      simp [W__law_same, DL.wNext, DL.wSeq, DL.wDrop, DL.wRet, DL.wRetN, DL.wIf, DL.wAsg, DL.wPar, DL.wPar3, DL.wVar, DL.wC, DL.wOp, DL.wUn, DL.wT, DL.wNotT, DL.wAndT, DL.wOrT, DL.wAndV, DL.wOrV, DL.wNotV, DL.wIfE, DL.wChain, DL.wCB, DL.wCall, DL.wCons, DL.wNil, DL.wStar, DL.wTup, DL.wLst, DL.wLstM, DL.wSl, DL.wPart, DL.wNoPart, DL.wRev, DL.wM1, DL.wIsi, DL.wAppend, DL.wFor, DL.wItS, DL.wRng1, DL.wRng2, DL.wEnum, DL.wLc, DL.dgName, DL.dgCons, DL.dgNil, DL.dgTup, DL.dgSub, DL.rAddD, DL.rSubD, DL.rMulD, DL.rFdivD, DL.rModD, DL.rPowD, DL.rNegD, DL.ints2, DL.cmpI, DL.rLtD, DL.rLeD, DL.rGtD, DL.rGeD, DL.rEqD, DL.rIsD, DL.ix_tupE, DL.ix_scrE, DL.ix_frzE, DL.ix_refE, DL.rLenD, DL.rStrD, DL.rIntD, DL.rAbsD, DL.rInt2, DL.rMaxD, DL.rMinD, DL.rTupleD, DL.rListD, DL.rBools, DL.rAllD, DL.rAnyD, DL.rSlD, DL.wSome, DL.seqOf, DL.lstOf, DL.curOf, DL.startD, DL.wipeD, DL.wYes, DL.refOk, DL.isTyB, DL.isNon, N__law_same] at g ⊢
      exact g
  | scr xs =>
    cases n with
    | zero => exact (show False from hd).elim
    | succ m =>
      have g := go xs m rfl rfl (fun z e => nomatch e) hd.2 hd.1
      simp [W__law_same, DL.wNext, DL.wSeq, DL.wDrop, DL.wRet, DL.wRetN, DL.wIf, DL.wAsg, DL.wPar, DL.wPar3, DL.wVar, DL.wC, DL.wOp, DL.wUn, DL.wT, DL.wNotT, DL.wAndT, DL.wOrT, DL.wAndV, DL.wOrV, DL.wNotV, DL.wIfE, DL.wChain, DL.wCB, DL.wCall, DL.wCons, DL.wNil, DL.wStar, DL.wTup, DL.wLst, DL.wLstM, DL.wSl, DL.wPart, DL.wNoPart, DL.wRev, DL.wM1, DL.wIsi, DL.wAppend, DL.wFor, DL.wItS, DL.wRng1, DL.wRng2, DL.wEnum, DL.wLc, DL.dgName, DL.dgCons, DL.dgNil, DL.dgTup, DL.dgSub, DL.rAddD, DL.rSubD, DL.rMulD, DL.rFdivD, DL.rModD, DL.rPowD, DL.rNegD, DL.ints2, DL.cmpI, DL.rLtD, DL.rLeD, DL.rGtD, DL.rGeD, DL.rEqD, DL.rIsD, DL.ix_tupE, DL.ix_scrE, DL.ix_frzE, DL.ix_refE, DL.rLenD, DL.rStrD, DL.rIntD, DL.rAbsD, DL.rInt2, DL.rMaxD, DL.rMinD, DL.rTupleD, DL.rListD, DL.rBools, DL.rAllD, DL.rAnyD, DL.rSlD, DL.wSome, DL.seqOf, DL.lstOf, DL.curOf, DL.startD, DL.wipeD, DL.wYes, DL.refOk, DL.isTyB, DL.isNon, N__law_same] at g ⊢
      exact g
  | _ => exact (show False by cases n <;> exact hd).elim
end K51

namespace K51
open PySem PySem.Spec L2 PyProof.Rows DL
/-! ### numbers -/
theorem fdiv_le (t : Int) {o : Int} (h : 0 < o) : (t.fdiv o).natAbs ≤ t.natAbs := by
  rw [Int.fdiv_eq_ediv_of_nonneg t (by omega)]
  exact Int.natAbs_ediv_le_natAbs t o
def spLow : DSp := fun ds S Q => ∃ t b, ds = [.int t, .int b] ∧ 1 ≤ b ∧ Sml t ∧ Sml b ∧ ∀ t' b', Sml t' → Sml b' → Q (.tup [.int t', .int b']) S
theorem log_9 {i : Int} (h : Sml i) : i.natAbs.log2 < 9000 := Nat.lt_trans h.log (by decide)
theorem p__law_lowest : ∀ ds S Q, spLow ds S Q → W__law_lowest { nx := fun _ S' => Fin Q .non S', rt := Fin Q } (startD N__law_lowest ds) S := by
  rintro ds S Q ⟨t, b, rfl, h1, h2, h3, q⟩
  simp [W__law_lowest, DL.wNext, DL.wSeq, DL.wDrop, DL.wRet, DL.wRetN, DL.wIf, DL.wAsg, DL.wPar, DL.wPar3, DL.wVar, DL.wC, DL.wOp, DL.wUn, DL.wT, DL.wNotT, DL.wAndT, DL.wOrT, DL.wAndV, DL.wOrV, DL.wNotV, DL.wIfE, DL.wChain, DL.wCB, DL.wCall, DL.wCons, DL.wNil, DL.wStar, DL.wTup, DL.wLst, DL.wLstM, DL.wSl, DL.wPart, DL.wNoPart, DL.wRev, DL.wM1, DL.wIsi, DL.wAppend, DL.wFor, DL.wItS, DL.wRng1, DL.wRng2, DL.wEnum, DL.wLc, DL.dgName, DL.dgCons, DL.dgNil, DL.dgTup, DL.dgSub, DL.rAddD, DL.rSubD, DL.rMulD, DL.rFdivD, DL.rModD, DL.rPowD, DL.rNegD, DL.ints2, DL.cmpI, DL.rLtD, DL.rLeD, DL.rGtD, DL.rGeD, DL.rEqD, DL.rIsD, DL.ix_tupE, DL.ix_scrE, DL.ix_frzE, DL.ix_refE, DL.rLenD, DL.rStrD, DL.rIntD, DL.rAbsD, DL.rInt2, DL.rMaxD, DL.rMinD, DL.rTupleD, DL.rListD, DL.rBools, DL.rAllD, DL.rAnyD, DL.rSlD, DL.wSome, DL.seqOf, DL.lstOf, DL.curOf, DL.startD, DL.wipeD, DL.wYes, DL.refOk, DL.isTyB, DL.isNon, N__law_lowest]
  refine while_d (fun ρ S' => S' = S ∧ ∃ one two : Int, ρ = [some (.int t), some (.int b), some (.int one), some (.int two)] ∧ 0 ≤ one ∧ 0 ≤ two ∧ (0 < one ∨ 0 < two) ∧ Sml one ∧ Sml two)
    (fun ρ _ => match ρ with | [_, _, _, some (.int two)] => two.toNat | _ => 0) ⟨rfl, (t.natAbs : Int), b, rfl, by omega, by omega, by omega, Nat.lt_of_le_of_lt (by omega) h2, h3⟩ ?_
  rintro ρ S' ⟨rfl, one, two, rfl, a1, a2, a3, a4, a5⟩
  by_cases e : two = 0
  · subst e
    have ho : 0 < one := by omega
    have hne : one ≠ 0 := by omega
    simp [DL.wNext, DL.wSeq, DL.wDrop, DL.wRet, DL.wRetN, DL.wIf, DL.wAsg, DL.wPar, DL.wPar3, DL.wVar, DL.wC, DL.wOp, DL.wUn, DL.wT, DL.wNotT, DL.wAndT, DL.wOrT, DL.wAndV, DL.wOrV, DL.wNotV, DL.wIfE, DL.wChain, DL.wCB, DL.wCall, DL.wCons, DL.wNil, DL.wStar, DL.wTup, DL.wLst, DL.wLstM, DL.wSl, DL.wPart, DL.wNoPart, DL.wRev, DL.wM1, DL.wIsi, DL.wAppend, DL.wFor, DL.wItS, DL.wRng1, DL.wRng2, DL.wEnum, DL.wLc, DL.dgName, DL.dgCons, DL.dgNil, DL.dgTup, DL.dgSub, DL.rAddD, DL.rSubD, DL.rMulD, DL.rFdivD, DL.rModD, DL.rPowD, DL.rNegD, DL.ints2, DL.cmpI, DL.rLtD, DL.rLeD, DL.rGtD, DL.rGeD, DL.rEqD, DL.rIsD, DL.ix_tupE, DL.ix_scrE, DL.ix_frzE, DL.ix_refE, DL.rLenD, DL.rStrD, DL.rIntD, DL.rAbsD, DL.rInt2, DL.rMaxD, DL.rMinD, DL.rTupleD, DL.rListD, DL.rBools, DL.rAllD, DL.rAnyD, DL.rSlD, DL.wSome, DL.seqOf, DL.lstOf, DL.curOf, DL.startD, DL.wipeD, DL.wYes, DL.refOk, DL.isTyB, DL.isNon, hne]
    exact ⟨log_9 a4, .of (q _ _ (Nat.lt_of_le_of_lt (fdiv_le t ho) h2) (Nat.lt_of_le_of_lt (fdiv_le b ho) h3))⟩
  · have hp : 0 < two := by omega
    have hf := fmod_in one hp
    simp [DL.wNext, DL.wSeq, DL.wDrop, DL.wRet, DL.wRetN, DL.wIf, DL.wAsg, DL.wPar, DL.wPar3, DL.wVar, DL.wC, DL.wOp, DL.wUn, DL.wT, DL.wNotT, DL.wAndT, DL.wOrT, DL.wAndV, DL.wOrV, DL.wNotV, DL.wIfE, DL.wChain, DL.wCB, DL.wCall, DL.wCons, DL.wNil, DL.wStar, DL.wTup, DL.wLst, DL.wLstM, DL.wSl, DL.wPart, DL.wNoPart, DL.wRev, DL.wM1, DL.wIsi, DL.wAppend, DL.wFor, DL.wItS, DL.wRng1, DL.wRng2, DL.wEnum, DL.wLc, DL.dgName, DL.dgCons, DL.dgNil, DL.dgTup, DL.dgSub, DL.rAddD, DL.rSubD, DL.rMulD, DL.rFdivD, DL.rModD, DL.rPowD, DL.rNegD, DL.ints2, DL.cmpI, DL.rLtD, DL.rLeD, DL.rGtD, DL.rGeD, DL.rEqD, DL.rIsD, DL.ix_tupE, DL.ix_scrE, DL.ix_frzE, DL.ix_refE, DL.rLenD, DL.rStrD, DL.rIntD, DL.rAbsD, DL.rInt2, DL.rMaxD, DL.rMinD, DL.rTupleD, DL.rListD, DL.rBools, DL.rAllD, DL.rAnyD, DL.rSlD, DL.wSome, DL.seqOf, DL.lstOf, DL.curOf, DL.startD, DL.wipeD, DL.wYes, DL.refOk, DL.isTyB, DL.isNon, e]
    exact ⟨(one.fmod two).toNat, by omega, rfl, two, one.fmod two, ⟨rfl, rfl⟩, by omega, hf.1, .inl hp, a5, Nat.lt_of_le_of_lt (by omega) a5⟩
def spPow : DSp := fun ds S Q => ∃ n : Nat, ds = [.int n] ∧ n ≤ 300 ∧ Q (.int (10 ^ n : Nat)) S
theorem p__law_power : ∀ ds S Q, spPow ds S Q → W__law_power { nx := fun _ S' => Fin Q .non S', rt := Fin Q } (startD N__law_power ds) S := by
  rintro ds S Q ⟨n, rfl, hn, q⟩
  simp [W__law_power, DL.wNext, DL.wSeq, DL.wDrop, DL.wRet, DL.wRetN, DL.wIf, DL.wAsg, DL.wPar, DL.wPar3, DL.wVar, DL.wC, DL.wOp, DL.wUn, DL.wT, DL.wNotT, DL.wAndT, DL.wOrT, DL.wAndV, DL.wOrV, DL.wNotV, DL.wIfE, DL.wChain, DL.wCB, DL.wCall, DL.wCons, DL.wNil, DL.wStar, DL.wTup, DL.wLst, DL.wLstM, DL.wSl, DL.wPart, DL.wNoPart, DL.wRev, DL.wM1, DL.wIsi, DL.wAppend, DL.wFor, DL.wItS, DL.wRng1, DL.wRng2, DL.wEnum, DL.wLc, DL.dgName, DL.dgCons, DL.dgNil, DL.dgTup, DL.dgSub, DL.rAddD, DL.rSubD, DL.rMulD, DL.rFdivD, DL.rModD, DL.rPowD, DL.rNegD, DL.ints2, DL.cmpI, DL.rLtD, DL.rLeD, DL.rGtD, DL.rGeD, DL.rEqD, DL.rIsD, DL.ix_tupE, DL.ix_scrE, DL.ix_frzE, DL.ix_refE, DL.rLenD, DL.rStrD, DL.rIntD, DL.rAbsD, DL.rInt2, DL.rMaxD, DL.rMinD, DL.rTupleD, DL.rListD, DL.rBools, DL.rAllD, DL.rAnyD, DL.rSlD, DL.wSome, DL.seqOf, DL.lstOf, DL.curOf, DL.startD, DL.wipeD, DL.wYes, DL.refOk, DL.isTyB, DL.isNon, N__law_power]
  refine ⟨by omega, loop_on (fun rest ρ S' => S' = S ∧ ∃ k t, k + rest.length = n ∧ ρ = [some (.int n), some (.int (10 ^ k : Nat)), t]) ?_ ?_ _ _ _ ⟨rfl, 0, none, by simp [rngD], rfl⟩⟩
  · rintro ρ S' ⟨rfl, k, t, e, rfl⟩
    simp at e
    subst e
    simp [DL.wNext, DL.wSeq, DL.wDrop, DL.wRet, DL.wRetN, DL.wIf, DL.wAsg, DL.wPar, DL.wPar3, DL.wVar, DL.wC, DL.wOp, DL.wUn, DL.wT, DL.wNotT, DL.wAndT, DL.wOrT, DL.wAndV, DL.wOrV, DL.wNotV, DL.wIfE, DL.wChain, DL.wCB, DL.wCall, DL.wCons, DL.wNil, DL.wStar, DL.wTup, DL.wLst, DL.wLstM, DL.wSl, DL.wPart, DL.wNoPart, DL.wRev, DL.wM1, DL.wIsi, DL.wAppend, DL.wFor, DL.wItS, DL.wRng1, DL.wRng2, DL.wEnum, DL.wLc, DL.dgName, DL.dgCons, DL.dgNil, DL.dgTup, DL.dgSub, DL.rAddD, DL.rSubD, DL.rMulD, DL.rFdivD, DL.rModD, DL.rPowD, DL.rNegD, DL.ints2, DL.cmpI, DL.rLtD, DL.rLeD, DL.rGtD, DL.rGeD, DL.rEqD, DL.rIsD, DL.ix_tupE, DL.ix_scrE, DL.ix_frzE, DL.ix_refE, DL.rLenD, DL.rStrD, DL.rIntD, DL.rAbsD, DL.rInt2, DL.rMaxD, DL.rMinD, DL.rTupleD, DL.rListD, DL.rBools, DL.rAllD, DL.rAnyD, DL.rSlD, DL.wSome, DL.seqOf, DL.lstOf, DL.curOf, DL.startD, DL.wipeD, DL.wYes, DL.refOk, DL.isTyB, DL.isNon]
    exact .of (by simpa using q)
  · rintro d r ρ S' Kc ⟨rfl, k, t, e, rfl⟩ hK
    simp at e
    simp [DL.wNext, DL.wSeq, DL.wDrop, DL.wRet, DL.wRetN, DL.wIf, DL.wAsg, DL.wPar, DL.wPar3, DL.wVar, DL.wC, DL.wOp, DL.wUn, DL.wT, DL.wNotT, DL.wAndT, DL.wOrT, DL.wAndV, DL.wOrV, DL.wNotV, DL.wIfE, DL.wChain, DL.wCB, DL.wCall, DL.wCons, DL.wNil, DL.wStar, DL.wTup, DL.wLst, DL.wLstM, DL.wSl, DL.wPart, DL.wNoPart, DL.wRev, DL.wM1, DL.wIsi, DL.wAppend, DL.wFor, DL.wItS, DL.wRng1, DL.wRng2, DL.wEnum, DL.wLc, DL.dgName, DL.dgCons, DL.dgNil, DL.dgTup, DL.dgSub, DL.rAddD, DL.rSubD, DL.rMulD, DL.rFdivD, DL.rModD, DL.rPowD, DL.rNegD, DL.ints2, DL.cmpI, DL.rLtD, DL.rLeD, DL.rGtD, DL.rGeD, DL.rEqD, DL.rIsD, DL.ix_tupE, DL.ix_scrE, DL.ix_frzE, DL.ix_refE, DL.rLenD, DL.rStrD, DL.rIntD, DL.rAbsD, DL.rInt2, DL.rMaxD, DL.rMinD, DL.rTupleD, DL.rListD, DL.rBools, DL.rAllD, DL.rAnyD, DL.rSlD, DL.wSome, DL.seqOf, DL.lstOf, DL.curOf, DL.startD, DL.wipeD, DL.wYes, DL.refOk, DL.isTyB, DL.isNon]
    refine ⟨mul_l (by decide), hK _ _ ⟨rfl, k + 1, some d, by omega, ?_⟩⟩
    simp [Nat.pow_succ, Int.pow_succ, Int.mul_comm]
/-- a told thing of a well: what it is, how many draws it took at most -/
def Res (p : Addr) (n c : Nat) (S : Store) (post : D → Prop) (Q : DK) : Prop := Wl S p n ∧ n + c ≤ 100000000 ∧ ∀ d S', post d → Wl S' p (n + c) → Off p S S' → Q d S'
def IsNum (d : D) : Prop := ∃ t b, d = .tup [.int t, .int b] ∧ Sml t ∧ Sml b
def spNumber : DSp := fun ds S Q => ∃ (p : Addr) (n m : Nat), ds = [.ref p, .int m] ∧ 2 ≤ m ∧ m ≤ 300 ∧ Res p n 8 S IsNum Q
theorem draw_of {p : Addr} {many : Int} {n : Nat} {S : Store} {Q : DK} (h : Wl S p n) (hn : n < 1000000000) (h1 : 1 ≤ many) (h2 : many.natAbs.log2 < 9000) (q : ∀ i S', 0 ≤ i → i < many → Wl S' p (n + 1) → Off p S S' → Q (.int i) S') : spDraw [.ref p, .int many] S Q :=
  ⟨p, many, n, rfl, h1, h2, h, hn, q⟩
theorem pow_sml {n : Nat} (h : n ≤ 300) : ((10 ^ n : Nat) : Int).natAbs ≤ 10 ^ 300 := by
  rw [Int.natAbs_natCast]
  exact Nat.pow_le_pow_right (by decide) h
theorem e300 : (10 : Nat) ^ 310 = 10 ^ 300 * 10000000000 := by decide +kernel
theorem sml_of {i : Int} {k : Nat} (h : i.natAbs ≤ k) (hk : k < 10 ^ 310) : Sml i := Nat.lt_of_le_of_lt h hk
theorem one_mul {s : Int} {x : Int} (hs : s.natAbs ≤ 1) : (s * x).natAbs ≤ x.natAbs := by
  rw [Int.natAbs_mul]
  exact Nat.le_trans (Nat.mul_le_mul_right _ hs) (by omega)
theorem mul_one' {s : Int} {x : Int} (hs : s.natAbs ≤ 1) : (x * s).natAbs ≤ x.natAbs := by
  rw [Int.mul_comm]; exact one_mul hs
theorem sml_one : Sml 1 := by unfold Sml; decide +kernel
def P300 : Nat := 10 ^ 300
theorem p300_log : P300.log2 < 9000 := by decide +kernel
theorem sml_p {i : Int} (h : i.natAbs ≤ P300 + 1000) : Sml i := sml_of h (by decide +kernel)
theorem p300_ge : 100 ≤ P300 := by decide +kernel
/-- 10 ** n, its size -/
theorem pow_le {n : Nat} (h : n ≤ 300) : 10 ^ n ≤ P300 := Nat.pow_le_pow_right (by decide) h
theorem log_le {a b : Nat} (h : a ≤ b) (hb : b.log2 < 9000) : a.log2 < 9000 := by
  by_cases z : a = 0
  · rw [z]; decide
  · refine (Nat.log2_lt z).mpr (Nat.lt_of_le_of_lt h ?_)
    by_cases y : b = 0
    · omega
    · exact (Nat.log2_lt y).mp hb
theorem p__law_number : ∀ ds S Q, spNumber ds S Q → W__law_number spDraw spLow spPow { nx := fun _ S' => Fin Q .non S', rt := Fin Q } (startD N__law_number ds) S := by
  rintro ds S Q ⟨p, n, m, rfl, hm1, hm2, hW, hn, q⟩
  have fin : ∀ {t b : Int} {S' : Store}, Sml t → Sml b → Wl S' p (n + 8) → Off p S S' → Fin Q (.tup [.int t, .int b]) S' := fun h1 h2 h3 h4 => .of (q _ _ ⟨_, _, rfl, h1, h2⟩ h3 h4)
  have pp := p300_ge
  simp [W__law_number, DL.wNext, DL.wSeq, DL.wDrop, DL.wRet, DL.wRetN, DL.wIf, DL.wAsg, DL.wPar, DL.wPar3, DL.wVar, DL.wC, DL.wOp, DL.wUn, DL.wT, DL.wNotT, DL.wAndT, DL.wOrT, DL.wAndV, DL.wOrV, DL.wNotV, DL.wIfE, DL.wChain, DL.wCB, DL.wCall, DL.wCons, DL.wNil, DL.wStar, DL.wTup, DL.wLst, DL.wLstM, DL.wSl, DL.wPart, DL.wNoPart, DL.wRev, DL.wM1, DL.wIsi, DL.wAppend, DL.wFor, DL.wItS, DL.wRng1, DL.wRng2, DL.wEnum, DL.wLc, DL.dgName, DL.dgCons, DL.dgNil, DL.dgTup, DL.dgSub, DL.rAddD, DL.rSubD, DL.rMulD, DL.rFdivD, DL.rModD, DL.rPowD, DL.rNegD, DL.ints2, DL.cmpI, DL.rLtD, DL.rLeD, DL.rGtD, DL.rGeD, DL.rEqD, DL.rIsD, DL.ix_tupE, DL.ix_scrE, DL.ix_frzE, DL.ix_refE, DL.rLenD, DL.rStrD, DL.rIntD, DL.rAbsD, DL.rInt2, DL.rMaxD, DL.rMinD, DL.rTupleD, DL.rListD, DL.rBools, DL.rAllD, DL.rAnyD, DL.rSlD, DL.wSome, DL.seqOf, DL.lstOf, DL.curOf, DL.startD, DL.wipeD, DL.wYes, DL.refOk, DL.isTyB, DL.isNon, N__law_number]
  refine draw_of hW (by omega) (by decide) (by decide +kernel) fun kind S1 k0 k1 W1 O1 => ?_
  refine draw_of W1 (by omega) (by decide) (by decide +kernel) fun side S2 s0 s1 W2 O2 => ?_
  have O := O1.trans O2
  have hs : (1 - 2 * side).natAbs ≤ 1 := by omega
  have hs64 : (1 - 2 * side).natAbs < 2 ^ 64 := Nat.lt_of_le_of_lt hs (by decide)
  refine ⟨mul_l (by decide), ?_⟩
  by_cases c1 : kind < 3
  · simp [c1]
    refine draw_of W2 (by omega) (by decide) (by decide +kernel) fun i S3 i0 i1 W3 O3 => ⟨mul_r hs64, fin ?_ sml_one (W3.mono (by omega)) (O.trans O3)⟩
    exact sml_p (Nat.le_trans (mul_one' hs) (by omega))
  · simp [c1]
    by_cases c2 : kind < 5
    · simp [c2]
      refine draw_of W2 (by omega) (by decide) (by decide +kernel) fun i S3 i0 i1 W3 O3 => ⟨mul_l hs64, ?_⟩
      refine draw_of W3 (by omega) (by decide) (by decide +kernel) fun j S4 j0 j1 W4 O4 => ?_
      refine ⟨_, _, rfl, by omega, sml_p (Nat.le_trans (one_mul hs) (by omega)), sml_p (by omega), fun t' b' h1 h2 => fin h1 h2 (W4.mono (by omega)) ((O.trans O3).trans O4)⟩
    · simp [c2]
      by_cases c3 : kind = 5
      · subst c3
        simp
        refine ⟨m, rfl, hm2, ?_⟩
        have hp1 : 10 ^ 2 ≤ 10 ^ m := Nat.pow_le_pow_right (by decide) hm1
        have hp2 := pow_le hm2
        generalize 10 ^ m = X at hp1 hp2 ⊢
        refine draw_of W2 (by omega) (by decide) (by decide +kernel) fun i S3 i0 i1 W3 O3 => ⟨mul_l hs64, ?_⟩
        refine draw_of W3 (by omega) (by decide) (by decide +kernel) fun j S4 j0 j1 W4 O4 => ?_
        refine ⟨_, _, rfl, by omega, sml_p (Nat.le_trans (one_mul hs) (by omega)), sml_p (by omega), fun t' b' h1 h2 => fin h1 h2 (W4.mono (by omega)) ((O.trans O3).trans O4)⟩
      · simp [c3]
        by_cases c4 : kind = 6
        · subst c4
          simp
          refine draw_of W2 (by omega) (by omega) (log_le (b := 300) (by omega) (by decide +kernel)) fun i S3 i0 i1 W3 O3 => ?_
          refine ⟨i.toNat, by simp; omega, by omega, ?_⟩
          have hp2 := pow_le (n := i.toNat) (by omega)
          generalize 10 ^ i.toNat = X at hp2 ⊢
          refine draw_of W3 (by omega) (by decide) (by decide +kernel) fun j S4 j0 j1 W4 O4 => ⟨mul_l hs64, ?_⟩
          exact fin (sml_p (Nat.le_trans (one_mul hs) (by omega))) sml_one (W4.mono (by omega)) ((O.trans O3).trans O4)
        · simp [c4]
          refine draw_of W2 (by omega) (by omega) (log_le (b := 300) (by omega) (by decide +kernel)) fun i S3 i0 i1 W3 O3 => ?_
          refine ⟨i.toNat, by simp; omega, by omega, ?_⟩
          have hp2 := pow_le (n := i.toNat) (by omega)
          have hp3 : 0 < 10 ^ i.toNat := Nat.pow_pos (by decide)
          generalize 10 ^ i.toNat = X at hp2 hp3 ⊢
          refine draw_of W3 (by omega) (by omega) (log_le (b := P300) (by omega) p300_log) fun j S4 j0 j1 W4 O4 => ?_
          refine ⟨m, rfl, hm2, ?_⟩
          have hp4 := pow_le hm2
          have hp5 : 0 < 10 ^ m := Nat.pow_pos (by decide)
          generalize 10 ^ m = Y at hp4 hp5 ⊢
          refine draw_of W4 (by omega) (by omega) (log_le (b := P300) (by omega) p300_log) fun k S5 k0 k1 W5 O5 => ⟨mul_l hs64, ?_⟩
          refine ⟨_, _, rfl, by omega, sml_p (Nat.le_trans (one_mul hs) (by omega)), sml_p (by omega), fun t' b' h1 h2 => fin h1 h2 (W5.mono (by omega)) (((O.trans O3).trans O4).trans O5)⟩
end K51

namespace K51
open PySem PySem.Spec L2 PyProof.Rows DL
/-! ### tables -/
def tabD (a b c d : Int) : D := .tup [.tup [.int a, .int b], .tup [.int c, .int d]]
def Bd (n : Nat) (i : Int) : Prop := i.natAbs ≤ n
def spGrows : DSp := fun ds S Q => ∃ a b c d, ds = [tabD a b c d] ∧ Bd 3 a ∧ Bd 3 b ∧ Bd 3 c ∧ Bd 3 d ∧ ∀ k : Bool, Q (.bl k) S
theorem bd_mul {n : Nat} {i j : Int} (h : Bd n i) (hn : n < 2 ^ 64) : IntMulOk i j := mul_l (Nat.lt_of_le_of_lt h hn)
theorem no_third {b : Bool} (h1 : D.bl b = D.bl true → False) (h2 : D.bl b = D.bl false → False) : False := by
  cases b
  · exact h2 rfl
  · exact h1 rfl
theorem p__law_grows : ∀ ds S Q, spGrows ds S Q → W__law_grows { nx := fun _ S' => Fin Q .non S', rt := Fin Q } (startD N__law_grows ds) S := by
  rintro ds S Q ⟨a, b, c, d, rfl, ha, hb, hc, hd, q⟩
  have f : ∀ k : Bool, Fin Q (.bl k) S := fun k => .of (q k)
  simp [W__law_grows, DL.wNext, DL.wSeq, DL.wDrop, DL.wRet, DL.wRetN, DL.wIf, DL.wAsg, DL.wPar, DL.wPar3, DL.wVar, DL.wC, DL.wOp, DL.wUn, DL.wT, DL.wNotT, DL.wAndT, DL.wOrT, DL.wAndV, DL.wOrV, DL.wNotV, DL.wIfE, DL.wChain, DL.wCB, DL.wCall, DL.wCons, DL.wNil, DL.wStar, DL.wTup, DL.wLst, DL.wLstM, DL.wSl, DL.wPart, DL.wNoPart, DL.wRev, DL.wM1, DL.wIsi, DL.wAppend, DL.wFor, DL.wItS, DL.wRng1, DL.wRng2, DL.wEnum, DL.wLc, DL.dgName, DL.dgCons, DL.dgNil, DL.dgTup, DL.dgSub, DL.rAddD, DL.rSubD, DL.rMulD, DL.rFdivD, DL.rModD, DL.rPowD, DL.rNegD, DL.ints2, DL.cmpI, DL.rLtD, DL.rLeD, DL.rGtD, DL.rGeD, DL.rEqD, DL.rIsD, DL.ix_tupE, DL.ix_scrE, DL.ix_frzE, DL.ix_refE, DL.rLenD, DL.rStrD, DL.rIntD, DL.rAbsD, DL.rInt2, DL.rMaxD, DL.rMinD, DL.rTupleD, DL.rListD, DL.rBools, DL.rAllD, DL.rAnyD, DL.rSlD, DL.wSome, DL.seqOf, DL.lstOf, DL.curOf, DL.startD, DL.wipeD, DL.wYes, DL.refOk, DL.isTyB, DL.isNon, N__law_grows, tabD, at0, at1]
  refine ⟨bd_mul ha (by decide), bd_mul hb (by decide), ?_⟩
  repeat' split
  all_goals first | exact f _ | (rename_i x1 x2; exact no_third x1 x2)
def IsTab (n : Nat) (x : D) : Prop := ∃ a b c d, x = tabD a b c d ∧ Bd n a ∧ Bd n b ∧ Bd n c ∧ Bd n d
def spTable : DSp := fun ds S Q => ∃ (p : Addr) (n : Nat), ds = [.ref p] ∧ Res p n 13 S (IsTab 3) Q
theorem at_mem {α : Type} {xs : List α} {i : Int} (h0 : 0 ≤ i) (h1 : i < xs.length) : ∃ x ∈ xs, atI xs i = some x := by
  have hk : i.toNat < xs.length := by omega
  have e : i = (i.toNat : Int) := by omega
  rw [e]
  exact ⟨xs[i.toNat], List.getElem_mem hk, at_nat hk⟩
theorem ix_scr {xs : List D} {i : Int} {x : D} {S : Store} {P : DK} (e : atI xs i = some x) (q : P x S) : DL.rIxD (.scr xs) (.int i) S P := by
  simp [DL.rIxD, seqOf, wSome, e]
  exact q
def tabs : List D := [tabD 2 0 0 2, tabD 1 (-1) 1 1, tabD 0 2 1 0, tabD (-2) 0 0 3, tabD 2 1 0 2, tabD 1 2 (-2) 1, tabD 0 (-3) 1 0, tabD 0 1 (-2) 0, tabD 2 (-3) 0 (-3), tabD 1 1 (-1) 2]
theorem tabs_ok : ∀ x ∈ tabs, IsTab 3 x := by
  intro x hx
  simp only [tabs, List.mem_cons, List.not_mem_nil, or_false] at hx
  rcases hx with rfl | rfl | rfl | rfl | rfl | rfl | rfl | rfl | rfl | rfl <;> exact ⟨_, _, _, _, rfl, by unfold Bd; decide, by unfold Bd; decide, by unfold Bd; decide, by unfold Bd; decide⟩
theorem rng4 : rngD 0 4 = [.int 0, .int 1, .int 2, .int 3] := rfl
theorem p__law_table : ∀ ds S Q, spTable ds S Q → W__law_table spDraw spGrows { nx := fun _ S' => Fin Q .non S', rt := Fin Q } (startD N__law_table ds) S := by
  rintro ds S Q ⟨p, n, rfl, hW, hn, q⟩
  simp [W__law_table, DL.wNext, DL.wSeq, DL.wDrop, DL.wRet, DL.wRetN, DL.wIf, DL.wAsg, DL.wPar, DL.wPar3, DL.wVar, DL.wC, DL.wOp, DL.wUn, DL.wT, DL.wNotT, DL.wAndT, DL.wOrT, DL.wAndV, DL.wOrV, DL.wNotV, DL.wIfE, DL.wChain, DL.wCB, DL.wCall, DL.wCons, DL.wNil, DL.wStar, DL.wTup, DL.wLst, DL.wLstM, DL.wSl, DL.wPart, DL.wNoPart, DL.wRev, DL.wM1, DL.wIsi, DL.wAppend, DL.wFor, DL.wItS, DL.wRng1, DL.wRng2, DL.wEnum, DL.wLc, DL.dgName, DL.dgCons, DL.dgNil, DL.dgTup, DL.dgSub, DL.rAddD, DL.rSubD, DL.rMulD, DL.rFdivD, DL.rModD, DL.rPowD, DL.rNegD, DL.ints2, DL.cmpI, DL.rLtD, DL.rLeD, DL.rGtD, DL.rGeD, DL.rEqD, DL.rIsD, DL.ix_tupE, DL.ix_scrE, DL.ix_frzE, DL.ix_refE, DL.rLenD, DL.rStrD, DL.rIntD, DL.rAbsD, DL.rInt2, DL.rMaxD, DL.rMinD, DL.rTupleD, DL.rListD, DL.rBools, DL.rAllD, DL.rAnyD, DL.rSlD, DL.wSome, DL.seqOf, DL.lstOf, DL.curOf, DL.startD, DL.wipeD, DL.wYes, DL.refOk, DL.isTyB, DL.isNon, N__law_table, sizeLine_eq]
  refine loop_on (fun rest ρ S' => ∃ (k : Nat) (t a b c d : Option D), k + rest.length = 3 ∧ Wl S' p (n + 4 * k) ∧ Off p S S' ∧ ρ = [some (.ref p), some (.scr tabs), t, a, b, c, d, none]) ?_ ?_ _ _ _ ⟨0, none, none, none, none, none, by simp [rngD], hW, Off.refl _ _, rfl⟩
  · rintro ρ S' ⟨k, t, a, b, c, d, e, W0, O0, rfl⟩
    simp at e
    subst e
    simp [DL.wNext, DL.wSeq, DL.wDrop, DL.wRet, DL.wRetN, DL.wIf, DL.wAsg, DL.wPar, DL.wPar3, DL.wVar, DL.wC, DL.wOp, DL.wUn, DL.wT, DL.wNotT, DL.wAndT, DL.wOrT, DL.wAndV, DL.wOrV, DL.wNotV, DL.wIfE, DL.wChain, DL.wCB, DL.wCall, DL.wCons, DL.wNil, DL.wStar, DL.wTup, DL.wLst, DL.wLstM, DL.wSl, DL.wPart, DL.wNoPart, DL.wRev, DL.wM1, DL.wIsi, DL.wAppend, DL.wFor, DL.wItS, DL.wRng1, DL.wRng2, DL.wEnum, DL.wLc, DL.dgName, DL.dgCons, DL.dgNil, DL.dgTup, DL.dgSub, DL.rAddD, DL.rSubD, DL.rMulD, DL.rFdivD, DL.rModD, DL.rPowD, DL.rNegD, DL.ints2, DL.cmpI, DL.rLtD, DL.rLeD, DL.rGtD, DL.rGeD, DL.rEqD, DL.rIsD, DL.ix_tupE, DL.ix_scrE, DL.ix_frzE, DL.ix_refE, DL.rLenD, DL.rStrD, DL.rIntD, DL.rAbsD, DL.rInt2, DL.rMaxD, DL.rMinD, DL.rTupleD, DL.rListD, DL.rBools, DL.rAllD, DL.rAnyD, DL.rSlD, DL.wSome, DL.seqOf, DL.lstOf, DL.curOf, DL.startD, DL.wipeD, DL.wYes, DL.refOk, DL.isTyB, DL.isNon]
    refine draw_of W0 (by omega) (by decide) (by decide +kernel) fun i S1 i0 i1 W1 O1 => ?_
    obtain ⟨x, hx, e⟩ := at_mem (xs := tabs) i0 (by show i < 10; exact i1)
    exact ix_scr e (.of (q _ _ (tabs_ok x hx) (W1.mono (by omega)) (O0.trans O1)))
  · rintro x r ρ S' Kc ⟨k, t, a, b, c, d, e, W0, O0, rfl⟩ hK
    simp at e
    simp [DL.wNext, DL.wSeq, DL.wDrop, DL.wRet, DL.wRetN, DL.wIf, DL.wAsg, DL.wPar, DL.wPar3, DL.wVar, DL.wC, DL.wOp, DL.wUn, DL.wT, DL.wNotT, DL.wAndT, DL.wOrT, DL.wAndV, DL.wOrV, DL.wNotV, DL.wIfE, DL.wChain, DL.wCB, DL.wCall, DL.wCons, DL.wNil, DL.wStar, DL.wTup, DL.wLst, DL.wLstM, DL.wSl, DL.wPart, DL.wNoPart, DL.wRev, DL.wM1, DL.wIsi, DL.wAppend, DL.wFor, DL.wItS, DL.wRng1, DL.wRng2, DL.wEnum, DL.wLc, DL.dgName, DL.dgCons, DL.dgNil, DL.dgTup, DL.dgSub, DL.rAddD, DL.rSubD, DL.rMulD, DL.rFdivD, DL.rModD, DL.rPowD, DL.rNegD, DL.ints2, DL.cmpI, DL.rLtD, DL.rLeD, DL.rGtD, DL.rGeD, DL.rEqD, DL.rIsD, DL.ix_tupE, DL.ix_scrE, DL.ix_frzE, DL.ix_refE, DL.rLenD, DL.rStrD, DL.rIntD, DL.rAbsD, DL.rInt2, DL.rMaxD, DL.rMinD, DL.rTupleD, DL.rListD, DL.rBools, DL.rAllD, DL.rAnyD, DL.rSlD, DL.wSome, DL.seqOf, DL.lstOf, DL.curOf, DL.startD, DL.wipeD, DL.wYes, DL.refOk, DL.isTyB, DL.isNon, rng4, lcW]
    refine draw_of W0 (by omega) (by decide) (by decide +kernel) fun a S1 a0 a1 W1 O1 => ?_
    refine draw_of W1 (by omega) (by decide) (by decide +kernel) fun b S2 b0 b1 W2 O2 => ?_
    refine draw_of W2 (by omega) (by decide) (by decide +kernel) fun c S3 c0 c1 W3 O3 => ?_
    refine draw_of W3 (by omega) (by decide) (by decide +kernel) fun d S4 d0 d1 W4 O4 => ?_
    have O := (((O0.trans O1).trans O2).trans O3).trans O4
    have ba : Bd 3 (a - 3) := by unfold Bd; omega
    have bb : Bd 3 (b - 3) := by unfold Bd; omega
    have bc : Bd 3 (c - 3) := by unfold Bd; omega
    have bd : Bd 3 (d - 3) := by unfold Bd; omega
    have next : ∀ (t a b c d : Option D), Kc [some (.ref p), some (.scr tabs), t, a, b, c, d, none] S4 := fun t a b c d => hK _ _ ⟨k + 1, t, a, b, c, d, by omega, W4.mono (by omega), O, rfl⟩
    simp [DL.wNext, DL.wSeq, DL.wDrop, DL.wRet, DL.wRetN, DL.wIf, DL.wAsg, DL.wPar, DL.wPar3, DL.wVar, DL.wC, DL.wOp, DL.wUn, DL.wT, DL.wNotT, DL.wAndT, DL.wOrT, DL.wAndV, DL.wOrV, DL.wNotV, DL.wIfE, DL.wChain, DL.wCB, DL.wCall, DL.wCons, DL.wNil, DL.wStar, DL.wTup, DL.wLst, DL.wLstM, DL.wSl, DL.wPart, DL.wNoPart, DL.wRev, DL.wM1, DL.wIsi, DL.wAppend, DL.wFor, DL.wItS, DL.wRng1, DL.wRng2, DL.wEnum, DL.wLc, DL.dgName, DL.dgCons, DL.dgNil, DL.dgTup, DL.dgSub, DL.rAddD, DL.rSubD, DL.rMulD, DL.rFdivD, DL.rModD, DL.rPowD, DL.rNegD, DL.ints2, DL.cmpI, DL.rLtD, DL.rLeD, DL.rGtD, DL.rGeD, DL.rEqD, DL.rIsD, DL.ix_tupE, DL.ix_scrE, DL.ix_frzE, DL.ix_refE, DL.rLenD, DL.rStrD, DL.rIntD, DL.rAbsD, DL.rInt2, DL.rMaxD, DL.rMinD, DL.rTupleD, DL.rListD, DL.rBools, DL.rAllD, DL.rAnyD, DL.rSlD, DL.wSome, DL.seqOf, DL.lstOf, DL.curOf, DL.startD, DL.wipeD, DL.wYes, DL.refOk, DL.isTyB, DL.isNon]
    refine ⟨_, _, _, _, rfl, ba, bb, bc, bd, fun g => ?_⟩
    cases g with
    | false => simp; exact next _ _ _ _ _
    | true =>
      simp
      refine ⟨bd_mul ba (by decide), bd_mul bb (by decide), ?_⟩
      split
      · exact .of (q _ _ ⟨_, _, _, _, rfl, ba, bb, bc, bd⟩ (W4.mono (by omega)) O)
      · exact next _ _ _ _ _
end K51

namespace K51
open PySem PySem.Spec L2 PyProof.Rows DL
/-! ### copies -/
def IsCps (x : D) : Prop := ∃ cs : List Cpy, x = cpsD cs ∧ cs.length ≤ 900 ∧ ∀ c ∈ cs, c.Ok
def spCopies : DSp := fun ds S Q => ∃ (p : Addr) (n many : Nat) (wide states : Int), ds = [.ref p, .int many, .int wide, .int states] ∧ many ≤ 900 ∧ 1 ≤ wide ∧ wide ≤ 999999999 ∧ 1 ≤ states ∧ states ≤ 40 ∧ Res p n (3 * many) S IsCps Q
theorem wl_ne {S : Store} {p f : Addr} {n : Nat} (h : Wl S p n) (hf : S f = none) : f ≠ p := by
  obtain ⟨a, b, c, e, _⟩ := h
  rintro rfl
  rw [hf] at e
  cases e
theorem Wl.same {S S' : Store} {p : Addr} {n : Nat} (h : Wl S p n) (e : S' p = S p) : Wl S' p n := by
  obtain ⟨a, b, c, h1, h2⟩ := h
  exact ⟨a, b, c, by rw [e]; exact h1, h2⟩
/-- S' is S but for the well and a list of its own -/
def Off2 (p f : Addr) (S S' : Store) : Prop := ∀ q, q ≠ p → q ≠ f → S' q = S q
theorem Off2.step {p f : Addr} {S S1 S2 : Store} (a : Off2 p f S S1) (b : Off p S1 S2) : Off2 p f S S2 := fun q h1 h2 => (b q h1).trans (a q h1 h2)
theorem Off2.put {p f : Addr} {S S1 : Store} (a : Off2 p f S S1) (o : SO) : Off2 p f S (S1.set f o) := fun q h1 h2 => (Store.set_ne h2).trans (a q h1 h2)
theorem Off2.out {p f : Addr} {S S1 : Store} (a : Off2 p f S S1) (hf : S f = none) : Off p S (S1.del f) := fun q h => by
  by_cases e : q = f
  · subst e; rw [Store.del_same, hf]
  · rw [Store.del_ne e]; exact a q h e
theorem cps_of {ys : List D} {cs : List Cpy} (h : ∀ y ∈ ys, y ∈ cs.map Cpy.d) : ∃ cs' : List Cpy, ys = cs'.map Cpy.d ∧ ∀ c ∈ cs', c ∈ cs := by
  induction ys with
  | nil => exact ⟨[], rfl, fun c hc => (by cases hc)⟩
  | cons y ys ih =>
    obtain ⟨cs', e, hs⟩ := ih fun z hz => h z (List.mem_cons_of_mem _ hz)
    obtain ⟨c, hc, ec⟩ := List.mem_map.mp (h y List.mem_cons_self)
    refine ⟨c :: cs', by rw [e, ← ec]; rfl, fun z hz => ?_⟩
    rcases List.mem_cons.mp hz with rfl | hz
    · exact hc
    · exact hs z hz
theorem p__law_copies : ∀ ds S Q, spCopies ds S Q → W__law_copies spDraw { nx := fun _ S' => Fin Q .non S', rt := Fin Q } (startD N__law_copies ds) S := by
  rintro ds S Q ⟨p, n, many, wide, states, rfl, hm, hw1, hw2, hs1, hs2, hW, hn, q⟩
  simp [W__law_copies, DL.wNext, DL.wSeq, DL.wDrop, DL.wRet, DL.wRetN, DL.wIf, DL.wAsg, DL.wPar, DL.wPar3, DL.wVar, DL.wC, DL.wOp, DL.wUn, DL.wT, DL.wNotT, DL.wAndT, DL.wOrT, DL.wAndV, DL.wOrV, DL.wNotV, DL.wIfE, DL.wChain, DL.wCB, DL.wCall, DL.wCons, DL.wNil, DL.wStar, DL.wTup, DL.wLst, DL.wLstM, DL.wSl, DL.wPart, DL.wNoPart, DL.wRev, DL.wM1, DL.wIsi, DL.wAppend, DL.wFor, DL.wItS, DL.wRng1, DL.wRng2, DL.wEnum, DL.wLc, DL.dgName, DL.dgCons, DL.dgNil, DL.dgTup, DL.dgSub, DL.rAddD, DL.rSubD, DL.rMulD, DL.rFdivD, DL.rModD, DL.rPowD, DL.rNegD, DL.ints2, DL.cmpI, DL.rLtD, DL.rLeD, DL.rGtD, DL.rGeD, DL.rEqD, DL.rIsD, DL.ix_tupE, DL.ix_scrE, DL.ix_frzE, DL.ix_refE, DL.rLenD, DL.rStrD, DL.rIntD, DL.rAbsD, DL.rInt2, DL.rMaxD, DL.rMinD, DL.rTupleD, DL.rListD, DL.rBools, DL.rAllD, DL.rAnyD, DL.rSlD, DL.wSome, DL.seqOf, DL.lstOf, DL.curOf, DL.startD, DL.wipeD, DL.wYes, DL.refOk, DL.isTyB, DL.isNon, N__law_copies]
  intro f hf
  have hfp := wl_ne hW hf
  refine ⟨by omega, loop_on (fun rest ρ S' => ∃ (k : Nat) (t u : Option D) (cs : List Cpy), k + rest.length = many ∧ Wl S' p (n + 3 * k) ∧ Off2 p f S S' ∧ S' f = some (.lst (cs.map Cpy.d)) ∧ cs.length = k ∧ (∀ c ∈ cs, c.Ok) ∧ ρ = [some (.ref p), some (.int many), some (.int wide), some (.int states), some (.ref f), t, u]) ?_ ?_ _ _ _
    ⟨0, none, none, [], by simp [rngD], hW.same (Store.set_ne (Ne.symm hfp)), (fun q _ h => Store.set_ne h), Store.set_same, rfl, fun c hc => (by cases hc), rfl⟩⟩
  · rintro ρ S' ⟨k, t, u, cs, e, W0, O0, hS, hc, ho, rfl⟩
    simp at e
    subst e
    simp [DL.wNext, DL.wSeq, DL.wDrop, DL.wRet, DL.wRetN, DL.wIf, DL.wAsg, DL.wPar, DL.wPar3, DL.wVar, DL.wC, DL.wOp, DL.wUn, DL.wT, DL.wNotT, DL.wAndT, DL.wOrT, DL.wAndV, DL.wOrV, DL.wNotV, DL.wIfE, DL.wChain, DL.wCB, DL.wCall, DL.wCons, DL.wNil, DL.wStar, DL.wTup, DL.wLst, DL.wLstM, DL.wSl, DL.wPart, DL.wNoPart, DL.wRev, DL.wM1, DL.wIsi, DL.wAppend, DL.wFor, DL.wItS, DL.wRng1, DL.wRng2, DL.wEnum, DL.wLc, DL.dgName, DL.dgCons, DL.dgNil, DL.dgTup, DL.dgSub, DL.rAddD, DL.rSubD, DL.rMulD, DL.rFdivD, DL.rModD, DL.rPowD, DL.rNegD, DL.ints2, DL.cmpI, DL.rLtD, DL.rLeD, DL.rGtD, DL.rGeD, DL.rEqD, DL.rIsD, DL.ix_tupE, DL.ix_scrE, DL.ix_frzE, DL.ix_refE, DL.rLenD, DL.rStrD, DL.rIntD, DL.rAbsD, DL.rInt2, DL.rMaxD, DL.rMinD, DL.rTupleD, DL.rListD, DL.rBools, DL.rAllD, DL.rAnyD, DL.rSlD, DL.wSome, DL.seqOf, DL.lstOf, DL.curOf, DL.startD, DL.wipeD, DL.wYes, DL.refOk, DL.isTyB, DL.isNon, wSortSet, hS]
    refine ⟨⟨by omega, fun x hx y hy => ?_, fun x hx => ?_⟩, fun ys hl _ hm' _ => ?_⟩
    · simp [DT.likeD, DT.likeDs, Cpy.d]
    · exact ⟨⟨_, _, rfl⟩, by simp [DT.depD, DT.depDs, Cpy.d]⟩
    · obtain ⟨cs', e, sub⟩ := cps_of (ys := ys) (cs := cs) fun y hy => by simpa using (hm' y).1 hy
      refine .sub (S1 := S'.del f) Sub.del (q _ _ ⟨cs', by rw [e]; rfl, ?_, fun c h => ho c (sub c h)⟩ (W0.same (Store.del_ne (Ne.symm hfp))) (O0.out hf))
      rw [e, List.length_map] at hl
      omega
  · rintro x r ρ S' Kc ⟨k, t, u, cs, e, W0, O0, hS, hc, ho, rfl⟩ hK
    simp at e
    have hlog : (2 * wide + 1).natAbs.log2 < 9000 := log_le (b := 2000000000) (by omega) (by decide +kernel)
    simp [DL.wNext, DL.wSeq, DL.wDrop, DL.wRet, DL.wRetN, DL.wIf, DL.wAsg, DL.wPar, DL.wPar3, DL.wVar, DL.wC, DL.wOp, DL.wUn, DL.wT, DL.wNotT, DL.wAndT, DL.wOrT, DL.wAndV, DL.wOrV, DL.wNotV, DL.wIfE, DL.wChain, DL.wCB, DL.wCall, DL.wCons, DL.wNil, DL.wStar, DL.wTup, DL.wLst, DL.wLstM, DL.wSl, DL.wPart, DL.wNoPart, DL.wRev, DL.wM1, DL.wIsi, DL.wAppend, DL.wFor, DL.wItS, DL.wRng1, DL.wRng2, DL.wEnum, DL.wLc, DL.dgName, DL.dgCons, DL.dgNil, DL.dgTup, DL.dgSub, DL.rAddD, DL.rSubD, DL.rMulD, DL.rFdivD, DL.rModD, DL.rPowD, DL.rNegD, DL.ints2, DL.cmpI, DL.rLtD, DL.rLeD, DL.rGtD, DL.rGeD, DL.rEqD, DL.rIsD, DL.ix_tupE, DL.ix_scrE, DL.ix_frzE, DL.ix_refE, DL.rLenD, DL.rStrD, DL.rIntD, DL.rAbsD, DL.rInt2, DL.rMaxD, DL.rMinD, DL.rTupleD, DL.rListD, DL.rBools, DL.rAllD, DL.rAnyD, DL.rSlD, DL.wSome, DL.seqOf, DL.lstOf, DL.curOf, DL.startD, DL.wipeD, DL.wYes, DL.refOk, DL.isTyB, DL.isNon]
    refine ⟨mul_l (by decide), draw_of W0 (by omega) (by omega) hlog fun a S1 a0 a1 W1 O1 => ?_⟩
    refine ⟨mul_l (by decide), draw_of W1 (by omega) (by omega) hlog fun b S2 b0 b1 W2 O2 => ?_⟩
    have g2 : S2 f = some (.lst (cs.map Cpy.d)) := ((O2 f hfp).trans (O1 f hfp)).trans hS
    refine ⟨⟨_, g2⟩, draw_of W2 (by omega) hs1 (log_le (b := 40) (by omega) (by decide +kernel)) fun c S3 c0 c1 W3 O3 => ?_⟩
    have g3 : S3 f = some (.lst (cs.map Cpy.d)) := (O3 f hfp).trans g2
    simp only [g3]
    refine ⟨by simp; omega, hK _ _ ⟨k + 1, _, _, cs ++ [⟨a - wide, b - wide, c⟩], by omega, (W3.mono (by omega)).same (Store.set_ne (Ne.symm hfp)), (((O0.step O1).step O2).step O3).put _, ?_, by simp [hc], fun z hz => ?_, rfl⟩⟩
    · rw [Store.set_same]
      simp [Cpy.d]
    · rcases List.mem_append.mp hz with z1 | z1
      · exact ho z z1
      · rw [List.mem_singleton.mp z1]
        refine ⟨?_, ?_, ?_⟩ <;> unfold Ten <;> simp only <;> omega
/-! ### products -/
def spProd : DSp := fun ds S Q => ∃ a b c d a' b' c' d' n, ds = [tabD a b c d, tabD a' b' c' d'] ∧ (Bd 3 a ∧ Bd 3 b ∧ Bd 3 c ∧ Bd 3 d) ∧ (Bd n a' ∧ Bd n b' ∧ Bd n c' ∧ Bd n d') ∧ ∀ x, IsTab (6 * n) x → Q x S
theorem bd_sum {n : Nat} {i j x y : Int} (hi : Bd 3 i) (hj : Bd 3 j) (hx : Bd n x) (hy : Bd n y) : Bd (6 * n) (i * x + j * y) := by
  unfold Bd at *
  have h1 : (i * x).natAbs ≤ 3 * n := by rw [Int.natAbs_mul]; exact Nat.mul_le_mul hi hx
  have h2 : (j * y).natAbs ≤ 3 * n := by rw [Int.natAbs_mul]; exact Nat.mul_le_mul hj hy
  omega
theorem rng2 : rngD 0 2 = [.int 0, .int 1] := rfl
theorem p__law_product : ∀ ds S Q, spProd ds S Q → W__law_product { nx := fun _ S' => Fin Q .non S', rt := Fin Q } (startD N__law_product ds) S := by
  rintro ds S Q ⟨a, b, c, d, a', b', c', d', n, rfl, ⟨ha, hb, hc, hd⟩, ⟨h1, h2, h3, h4⟩, q⟩
  simp [W__law_product, DL.wNext, DL.wSeq, DL.wDrop, DL.wRet, DL.wRetN, DL.wIf, DL.wAsg, DL.wPar, DL.wPar3, DL.wVar, DL.wC, DL.wOp, DL.wUn, DL.wT, DL.wNotT, DL.wAndT, DL.wOrT, DL.wAndV, DL.wOrV, DL.wNotV, DL.wIfE, DL.wChain, DL.wCB, DL.wCall, DL.wCons, DL.wNil, DL.wStar, DL.wTup, DL.wLst, DL.wLstM, DL.wSl, DL.wPart, DL.wNoPart, DL.wRev, DL.wM1, DL.wIsi, DL.wAppend, DL.wFor, DL.wItS, DL.wRng1, DL.wRng2, DL.wEnum, DL.wLc, DL.dgName, DL.dgCons, DL.dgNil, DL.dgTup, DL.dgSub, DL.rAddD, DL.rSubD, DL.rMulD, DL.rFdivD, DL.rModD, DL.rPowD, DL.rNegD, DL.ints2, DL.cmpI, DL.rLtD, DL.rLeD, DL.rGtD, DL.rGeD, DL.rEqD, DL.rIsD, DL.ix_tupE, DL.ix_scrE, DL.ix_frzE, DL.ix_refE, DL.rLenD, DL.rStrD, DL.rIntD, DL.rAbsD, DL.rInt2, DL.rMaxD, DL.rMinD, DL.rTupleD, DL.rListD, DL.rBools, DL.rAllD, DL.rAnyD, DL.rSlD, DL.wSome, DL.seqOf, DL.lstOf, DL.curOf, DL.startD, DL.wipeD, DL.wYes, DL.refOk, DL.isTyB, DL.isNon, N__law_product, tabD, loopW, rng2, lcW, at0, at1, Store.set_same, Store.set_set]
  intro f hf
  refine ⟨bd_mul ha (by decide), bd_mul hb (by decide), bd_mul ha (by decide), bd_mul hb (by decide), bd_mul hc (by decide), bd_mul hd (by decide), bd_mul hc (by decide), bd_mul hd (by decide), .sub (Sub.set hf) (q _ ⟨_, _, _, _, rfl, bd_sum ha hb h1 h3, bd_sum ha hb h2 h4, bd_sum hc hd h1 h3, bd_sum hc hd h2 h4⟩)⟩
/-! ### kits, addresses -/
def IsKit (x : D) : Prop := ∃ k : Kit, x = k.dt ∧ k.Ok
def spKitW : DSp := fun ds S Q => ∃ (p : Addr) (n : Nat), ds = [.ref p] ∧ Res p n 120000 S IsKit Q
theorem at_ints {P : Int → Prop} {xs : List Int} {i : Int} (h0 : 0 ≤ i) (h1 : i < xs.length) (hx : ∀ x ∈ xs, P x) {S : Store} {Q : DK} (q : ∀ x, P x → Q (.int x) S) : DL.rIxD (.scr (xs.map .int)) (.int i) S Q := by
  obtain ⟨y, hy, e⟩ := at_mem (xs := xs.map D.int) h0 (by simpa using h1)
  obtain ⟨x, hx', rfl⟩ := List.mem_map.mp hy
  exact ix_scr e (q x (hx x hx'))
theorem bd_log {n : Nat} {i : Int} (h : Bd n i) (hn : n < 10 ^ 300) : Sml i := sml_p (Nat.le_trans h (by unfold P300; omega))
def kitBody : DSt := (wSeq (wAsg (wIfE (wT (wOp rLtD (wVar 4) (wC (.int 7)))) (wOp DL.rIxD (wLst (wCons (wC (.int 1)) (wCons (wC (.int 4)) (wCons (wC (.int 4)) (wCons (wC (.int 999999999)) wNil))))) (wCall spDraw (wCons (wVar 0) (wCons (wC (.int 4)) wNil)))) (wC (.int 40))) (dgName 7))
    (wDrop (wAppend (wVar 5) (wCall spCopies (wCons (wVar 0) (wCons (wOp rAddD (wC (.int 1)) (wCall spDraw (wCons (wVar 0) (wCons (wVar 4) wNil)))) (wCons (wVar 7) (wCons (wVar 1) wNil))))))))
def kitTail : DSt := (wSeq (wFor (wRng1 (wOp DL.rIxD (wLst (wCons (wC (.int 0)) (wCons (wC (.int 0)) (wCons (wC (.int 0)) (wCons (wC (.int 1)) (wCons (wC (.int 3)) (wCons (wC (.int 8)) wNil))))))) (wCall spDraw (wCons (wVar 0) (wCons (wC (.int 6)) wNil))))) (dgName 6) (wAsg (wCall spProd (wCons (wVar 2) (wCons (wVar 3) wNil))) (dgName 3)))
    (wRet (wTup (wCons (wVar 3) (wCons (wCB rTupleD (wCons (wVar 5) wNil)) wNil)))))
theorem pow6 {k : Nat} (h : k ≤ 8) : 3 * 6 ^ k ≤ 5038848 := by
  have := Nat.pow_le_pow_right (show 0 < 6 by decide) h
  have e : 6 ^ 8 = 1679616 := by decide
  omega
theorem p300_big : 5038848 ≤ P300 := by decide +kernel
theorem sml6 {k : Nat} {i : Int} (hk : k ≤ 8) (h : Bd (3 * 6 ^ k) i) : Sml i := sml_p (Nat.le_trans h (Nat.le_trans (pow6 hk) (Nat.le_trans p300_big (Nat.le_add_right _ _))))
theorem kit_tail {S S1 : Store} {Q : DK} {p f : Addr} {n n1 : Nat} {a b c d most : Int} {states : Int} {t u : Option D} {st : List (List Cpy)} (hf : S f = none) (hfp : f ≠ p) (hW : Wl S1 p n1) (hO : Off2 p f S S1) (hS : S1 f = some (.lst (st.map cpsD)))
    (hn : n1 + 10 ≤ n) (hn2 : n ≤ 100000000) (hl : st.length ≤ 40) (hst : ∀ cs ∈ st, cs.length ≤ 900 ∧ ∀ c ∈ cs, c.Ok) (hb : Bd 3 a ∧ Bd 3 b ∧ Bd 3 c ∧ Bd 3 d)
    (q : ∀ x S', IsKit x → Wl S' p n → Off p S S' → Q x S') :
    kitTail { nx := fun _ S' => Fin Q .non S', rt := Fin Q } [some (.ref p), some (.int states), some (tabD a b c d), some (tabD a b c d), some (.int most), some (.ref f), t, u] S1 := by
  simp [kitTail, DL.wNext, DL.wSeq, DL.wDrop, DL.wRet, DL.wRetN, DL.wIf, DL.wAsg, DL.wPar, DL.wPar3, DL.wVar, DL.wC, DL.wOp, DL.wUn, DL.wT, DL.wNotT, DL.wAndT, DL.wOrT, DL.wAndV, DL.wOrV, DL.wNotV, DL.wIfE, DL.wChain, DL.wCB, DL.wCall, DL.wCons, DL.wNil, DL.wStar, DL.wTup, DL.wLst, DL.wLstM, DL.wSl, DL.wPart, DL.wNoPart, DL.wRev, DL.wM1, DL.wIsi, DL.wAppend, DL.wFor, DL.wItS, DL.wRng1, DL.wRng2, DL.wEnum, DL.wLc, DL.dgName, DL.dgCons, DL.dgNil, DL.dgTup, DL.dgSub, DL.rAddD, DL.rSubD, DL.rMulD, DL.rFdivD, DL.rModD, DL.rPowD, DL.rNegD, DL.ints2, DL.cmpI, DL.rLtD, DL.rLeD, DL.rGtD, DL.rGeD, DL.rEqD, DL.rIsD, DL.ix_tupE, DL.ix_scrE, DL.ix_frzE, DL.ix_refE, DL.rLenD, DL.rStrD, DL.rIntD, DL.rAbsD, DL.rInt2, DL.rMaxD, DL.rMinD, DL.rTupleD, DL.rListD, DL.rBools, DL.rAllD, DL.rAnyD, DL.rSlD, DL.wSome, DL.seqOf, DL.lstOf, DL.curOf, DL.startD, DL.wipeD, DL.wYes, DL.refOk, DL.isTyB, DL.isNon]
  refine draw_of hW (by omega) (by decide) (by decide +kernel) fun i S2 i0 i1 W2 O2 => ?_
  refine at_ints (xs := [0, 0, 0, 1, 3, 8]) (P := fun x => 0 ≤ x ∧ x ≤ 8) i0 i1 (by decide) fun m hm => ?_
  refine ⟨by omega, loop_on (fun rest ρ S' => S' = S2 ∧ ∃ (k : Nat) (v : Option D) (a' b' c' d' : Int), k + rest.length = m.toNat ∧ (Bd (3 * 6 ^ k) a' ∧ Bd (3 * 6 ^ k) b' ∧ Bd (3 * 6 ^ k) c' ∧ Bd (3 * 6 ^ k) d') ∧ ρ = [some (.ref p), some (.int states), some (tabD a b c d), some (tabD a' b' c' d'), some (.int most), some (.ref f), v, u]) ?_ ?_ _ _ _
    ⟨rfl, 0, t, a, b, c, d, by simp [rngD], by simpa using hb, rfl⟩⟩
  · rintro ρ S' ⟨rfl, k, v, a', b', c', d', e, ⟨h1, h2, h3, h4⟩, rfl⟩
    simp at e
    have hk : k ≤ 8 := by omega
    have g : S' f = some (.lst (st.map cpsD)) := (O2 f hfp).trans hS
    simp [DL.wNext, DL.wSeq, DL.wDrop, DL.wRet, DL.wRetN, DL.wIf, DL.wAsg, DL.wPar, DL.wPar3, DL.wVar, DL.wC, DL.wOp, DL.wUn, DL.wT, DL.wNotT, DL.wAndT, DL.wOrT, DL.wAndV, DL.wOrV, DL.wNotV, DL.wIfE, DL.wChain, DL.wCB, DL.wCall, DL.wCons, DL.wNil, DL.wStar, DL.wTup, DL.wLst, DL.wLstM, DL.wSl, DL.wPart, DL.wNoPart, DL.wRev, DL.wM1, DL.wIsi, DL.wAppend, DL.wFor, DL.wItS, DL.wRng1, DL.wRng2, DL.wEnum, DL.wLc, DL.dgName, DL.dgCons, DL.dgNil, DL.dgTup, DL.dgSub, DL.rAddD, DL.rSubD, DL.rMulD, DL.rFdivD, DL.rModD, DL.rPowD, DL.rNegD, DL.ints2, DL.cmpI, DL.rLtD, DL.rLeD, DL.rGtD, DL.rGeD, DL.rEqD, DL.rIsD, DL.ix_tupE, DL.ix_scrE, DL.ix_frzE, DL.ix_refE, DL.rLenD, DL.rStrD, DL.rIntD, DL.rAbsD, DL.rInt2, DL.rMaxD, DL.rMinD, DL.rTupleD, DL.rListD, DL.rBools, DL.rAllD, DL.rAnyD, DL.rSlD, DL.wSome, DL.seqOf, DL.lstOf, DL.curOf, DL.startD, DL.wipeD, DL.wYes, DL.refOk, DL.isTyB, DL.isNon, g]
    exact .sub (S1 := S'.del f) Sub.del (q _ _ ⟨⟨a', b', c', d', st⟩, rfl, sml6 hk h1, sml6 hk h2, sml6 hk h3, sml6 hk h4, hl, hst⟩ ((W2.mono (by omega)).same (Store.del_ne (Ne.symm hfp))) ((hO.step O2).out hf))
  · rintro x r ρ S' Kc ⟨rfl, k, v, a', b', c', d', e, h, rfl⟩ hK
    simp at e
    simp [DL.wNext, DL.wSeq, DL.wDrop, DL.wRet, DL.wRetN, DL.wIf, DL.wAsg, DL.wPar, DL.wPar3, DL.wVar, DL.wC, DL.wOp, DL.wUn, DL.wT, DL.wNotT, DL.wAndT, DL.wOrT, DL.wAndV, DL.wOrV, DL.wNotV, DL.wIfE, DL.wChain, DL.wCB, DL.wCall, DL.wCons, DL.wNil, DL.wStar, DL.wTup, DL.wLst, DL.wLstM, DL.wSl, DL.wPart, DL.wNoPart, DL.wRev, DL.wM1, DL.wIsi, DL.wAppend, DL.wFor, DL.wItS, DL.wRng1, DL.wRng2, DL.wEnum, DL.wLc, DL.dgName, DL.dgCons, DL.dgNil, DL.dgTup, DL.dgSub, DL.rAddD, DL.rSubD, DL.rMulD, DL.rFdivD, DL.rModD, DL.rPowD, DL.rNegD, DL.ints2, DL.cmpI, DL.rLtD, DL.rLeD, DL.rGtD, DL.rGeD, DL.rEqD, DL.rIsD, DL.ix_tupE, DL.ix_scrE, DL.ix_frzE, DL.ix_refE, DL.rLenD, DL.rStrD, DL.rIntD, DL.rAbsD, DL.rInt2, DL.rMaxD, DL.rMinD, DL.rTupleD, DL.rListD, DL.rBools, DL.rAllD, DL.rAnyD, DL.rSlD, DL.wSome, DL.seqOf, DL.lstOf, DL.curOf, DL.startD, DL.wipeD, DL.wYes, DL.refOk, DL.isTyB, DL.isNon]
    refine ⟨a, b, c, d, a', b', c', d', 3 * 6 ^ k, rfl, hb, h, fun y ⟨a2, b2, c2, d2, e2, h1, h2, h3, h4⟩ => ?_⟩
    subst e2
    have e6 : 6 * (3 * 6 ^ k) = 3 * 6 ^ (k + 1) := by rw [Nat.pow_succ]; omega
    rw [e6] at h1 h2 h3 h4
    exact hK _ _ ⟨rfl, k + 1, some x, a2, b2, c2, d2, by omega, ⟨h1, h2, h3, h4⟩, rfl⟩
theorem kit_go {S S1 : Store} {Q : DK} {p f : Addr} {n n1 : Nat} {a b c d most : Int} {states : Int} (hf : S f = none) (hfp : f ≠ p) (hW : Wl S1 p n1) (hO : Off2 p f S S1) (hS : S1 f = some (.lst []))
    (hn : n1 + 110000 ≤ n) (hn2 : n ≤ 100000000) (hm1 : 1 ≤ most) (hm2 : most ≤ 900) (hs1 : 1 ≤ states) (hs2 : states ≤ 40) (hb : Bd 3 a ∧ Bd 3 b ∧ Bd 3 c ∧ Bd 3 d)
    (q : ∀ x S', IsKit x → Wl S' p n → Off p S S' → Q x S') :
    loopW (dgName 6) kitBody (fun _ => True) { nx := kitTail { nx := fun _ S' => Fin Q .non S', rt := Fin Q }, rt := Fin Q } (rngD 0 states.toNat)
      [some (.ref p), some (.int states), some (tabD a b c d), some (tabD a b c d), some (.int most), some (.ref f), none, none] S1 := by
  refine loop_on (fun rest ρ S' => ∃ (k : Nat) (t u : Option D) (st : List (List Cpy)), k + rest.length = states.toNat ∧ Wl S' p (n1 + 2705 * k) ∧ Off2 p f S S' ∧ S' f = some (.lst (st.map cpsD)) ∧ st.length = k ∧ (∀ cs ∈ st, cs.length ≤ 900 ∧ ∀ c ∈ cs, c.Ok) ∧
      ρ = [some (.ref p), some (.int states), some (tabD a b c d), some (tabD a b c d), some (.int most), some (.ref f), t, u]) ?_ ?_ _ _ _
    ⟨0, none, none, [], by simp [rngD], hW, hO, hS, rfl, fun c hc => (by cases hc), rfl⟩
  · rintro ρ S' ⟨k, t, u, st, e, W0, O0, g, hk, ho, rfl⟩
    simp at e
    exact ⟨trivial, kit_tail hf hfp W0 O0 g (by omega) hn2 (by omega) ho hb q⟩
  · rintro x r ρ S' Kc ⟨k, t, u, st, e, W0, O0, g, hk, ho, rfl⟩ hK
    simp at e
    refine ⟨trivial, ?_⟩
    have step : ∀ (wide : Int) S2, 1 ≤ wide → wide ≤ 999999999 → Wl S2 p (n1 + 2705 * k + 1) → Off p S' S2 → wAppend (wVar 5) (wCall spCopies (wCons (wVar 0) (wCons (wOp rAddD (wC (.int 1)) (wCall spDraw (wCons (wVar 0) (wCons (wVar 4) wNil)))) (wCons (wVar 7) (wCons (wVar 1) wNil)))))
        [some (.ref p), some (.int states), some (tabD a b c d), some (tabD a b c d), some (.int most), some (.ref f), some x, some (.int wide)] S2 (fun _ S1 => Kc [some (.ref p), some (.int states), some (tabD a b c d), some (tabD a b c d), some (.int most), some (.ref f), some x, some (.int wide)] S1) := fun wide S2 w1 w2 W2 O2 => by
      have g2 : S2 f = some (.lst (st.map cpsD)) := (O2 f hfp).trans g
      simp [DL.wNext, DL.wSeq, DL.wDrop, DL.wRet, DL.wRetN, DL.wIf, DL.wAsg, DL.wPar, DL.wPar3, DL.wVar, DL.wC, DL.wOp, DL.wUn, DL.wT, DL.wNotT, DL.wAndT, DL.wOrT, DL.wAndV, DL.wOrV, DL.wNotV, DL.wIfE, DL.wChain, DL.wCB, DL.wCall, DL.wCons, DL.wNil, DL.wStar, DL.wTup, DL.wLst, DL.wLstM, DL.wSl, DL.wPart, DL.wNoPart, DL.wRev, DL.wM1, DL.wIsi, DL.wAppend, DL.wFor, DL.wItS, DL.wRng1, DL.wRng2, DL.wEnum, DL.wLc, DL.dgName, DL.dgCons, DL.dgNil, DL.dgTup, DL.dgSub, DL.rAddD, DL.rSubD, DL.rMulD, DL.rFdivD, DL.rModD, DL.rPowD, DL.rNegD, DL.ints2, DL.cmpI, DL.rLtD, DL.rLeD, DL.rGtD, DL.rGeD, DL.rEqD, DL.rIsD, DL.ix_tupE, DL.ix_scrE, DL.ix_frzE, DL.ix_refE, DL.rLenD, DL.rStrD, DL.rIntD, DL.rAbsD, DL.rInt2, DL.rMaxD, DL.rMinD, DL.rTupleD, DL.rListD, DL.rBools, DL.rAllD, DL.rAnyD, DL.rSlD, DL.wSome, DL.seqOf, DL.lstOf, DL.curOf, DL.startD, DL.wipeD, DL.wYes, DL.refOk, DL.isTyB, DL.isNon, g2]
      refine draw_of W2 (by omega) hm1 (log_le (b := 900) (by omega) (by decide +kernel)) fun i S3 i0 i1 W3 O3 => ?_
      refine ⟨p, n1 + 2705 * k + 1 + 1, (1 + i).toNat, wide, states, by simp; omega, by omega, w1, w2, hs1, hs2, W3, by omega, fun y S4 ⟨cs, ey, hc1, hc2⟩ W4 O4 => ?_⟩
      subst ey
      have g4 : S4 f = some (.lst (st.map cpsD)) := ((O4 f hfp).trans (O3 f hfp)).trans g2
      simp only [g4]
      refine ⟨by simp; omega, hK _ _ ⟨k + 1, some x, _, st ++ [cs], by omega, (W4.mono (by omega)).same (Store.set_ne (Ne.symm hfp)), (((O0.step O2).step O3).step O4).put _, ?_, by simp [hk], fun z hz => ?_, rfl⟩⟩
      · rw [Store.set_same]; simp
      · rcases List.mem_append.mp hz with z1 | z1
        · exact ho z z1
        · rw [List.mem_singleton.mp z1]; exact ⟨hc1, hc2⟩
    by_cases h7 : most < 7
    · simp only [kitBody]
      show wSeq _ _ _ _ _
      simp [DL.wSeq, DL.wAsg, DL.wDrop, DL.wIfE, DL.wT, DL.wOp, DL.rLtD, DL.cmpI, DL.wVar, DL.wC, DL.dgName, h7, DL.wLst, DL.wCons, DL.wNil, DL.wCall]
      refine draw_of W0 (by omega) (by decide) (by decide +kernel) fun i S2 i0 i1 W2 O2 => ?_
      refine at_ints (xs := [1, 4, 4, 999999999]) (P := fun x => 1 ≤ x ∧ x ≤ 999999999) i0 i1 (by decide) fun wide hw => ?_
      exact step wide S2 hw.1 hw.2 W2 O2
    · simp only [kitBody]
      show wSeq _ _ _ _ _
      simp [DL.wSeq, DL.wAsg, DL.wDrop, DL.wIfE, DL.wT, DL.wOp, DL.rLtD, DL.cmpI, DL.wVar, DL.wC, DL.dgName, h7]
      exact step 40 S' (by decide) (by decide) (W0.mono (by omega)) (Off.refl _ _)
theorem p__law_kit : ∀ ds S Q, spKitW ds S Q → W__law_kit spCopies spDraw spProd spTable { nx := fun _ S' => Fin Q .non S', rt := Fin Q } (startD N__law_kit ds) S := by
  rintro ds S Q ⟨p, n, rfl, hW, hn, q⟩
  simp [W__law_kit, DL.wNext, DL.wSeq, DL.wDrop, DL.wRet, DL.wRetN, DL.wIf, DL.wAsg, DL.wPar, DL.wPar3, DL.wVar, DL.wC, DL.wOp, DL.wUn, DL.wT, DL.wNotT, DL.wAndT, DL.wOrT, DL.wAndV, DL.wOrV, DL.wNotV, DL.wIfE, DL.wChain, DL.wCB, DL.wCall, DL.wCons, DL.wNil, DL.wStar, DL.wTup, DL.wLst, DL.wLstM, DL.wSl, DL.wPart, DL.wNoPart, DL.wRev, DL.wM1, DL.wIsi, DL.wAppend, DL.wFor, DL.wItS, DL.wRng1, DL.wRng2, DL.wEnum, DL.wLc, DL.dgName, DL.dgCons, DL.dgNil, DL.dgTup, DL.dgSub, DL.rAddD, DL.rSubD, DL.rMulD, DL.rFdivD, DL.rModD, DL.rPowD, DL.rNegD, DL.ints2, DL.cmpI, DL.rLtD, DL.rLeD, DL.rGtD, DL.rGeD, DL.rEqD, DL.rIsD, DL.ix_tupE, DL.ix_scrE, DL.ix_frzE, DL.ix_refE, DL.rLenD, DL.rStrD, DL.rIntD, DL.rAbsD, DL.rInt2, DL.rMaxD, DL.rMinD, DL.rTupleD, DL.rListD, DL.rBools, DL.rAllD, DL.rAnyD, DL.rSlD, DL.wSome, DL.seqOf, DL.lstOf, DL.curOf, DL.startD, DL.wipeD, DL.wYes, DL.refOk, DL.isTyB, DL.isNon, N__law_kit]
  refine draw_of hW (by omega) (by decide) (by decide +kernel) fun i S1 i0 i1 W1 O1 => ?_
  refine at_ints (xs := [1, 2, 3, 4, 4, 12, 40]) (P := fun x => 1 ≤ x ∧ x ≤ 40) i0 i1 (by decide) fun states hst => ?_
  refine ⟨p, n + 1, rfl, W1, by omega, fun x S2 ⟨a, b, c, d, ex, ba, bb, bc, bd⟩ W2 O2 => ?_⟩
  subst ex
  refine draw_of W2 (by omega) (by decide) (by decide +kernel) fun j S3 j0 j1 W3 O3 => ?_
  refine at_ints (xs := [6, 6, 20]) (P := fun x => 1 ≤ x ∧ x ≤ 20) j0 j1 (by decide) fun most hmo => ?_
  intro f hf
  have hf0 : S f = none := by
    have hfp := wl_ne W3 hf
    rw [← O1 f hfp, ← O2 f hfp, ← O3 f hfp]; exact hf
  have hfp := wl_ne W3 hf
  have O4 : Off2 p f S (S3.set f (.lst [])) := Off2.put (fun q h _ => ((O3 q h).trans (O2 q h)).trans (O1 q h)) _
  have W4 : Wl (S3.set f (.lst [])) p (n + 1 + 13 + 1) := W3.same (Store.set_ne (Ne.symm hfp))
  have hst1 := hst.1
  have hst2 := hst.2
  by_cases h5 : states < 5
  · have hne : states ≠ 0 := by omega
    have hl9 : states.natAbs.log2 < 9000 := log_le (b := 40) (by omega) (by decide +kernel)
    simp [h5, DL.cmpI, DL.ints2, hne, hl9]
    refine draw_of W4 (by omega) (by decide) (by decide +kernel) fun l S5 l0 l1 W5 O5 => ?_
    refine at_ints (xs := [6, 6, 6, 40, 216, (900 : Int).fdiv states]) (P := fun x => 1 ≤ x ∧ x ≤ 900) l0 l1 ?_ fun mo hm => ?_
    · have h4 : states = 1 ∨ states = 2 ∨ states = 3 ∨ states = 4 := by omega
      rcases h4 with rfl | rfl | rfl | rfl <;> decide +kernel
    · refine ⟨by omega, ?_⟩
      exact kit_go hf0 hfp W5 (O4.step O5) ((O5 f hfp).trans Store.set_same) (by omega) (by omega) hm.1 hm.2 hst1 hst2 ⟨ba, bb, bc, bd⟩ q
  · simp [h5, DL.cmpI]
    refine ⟨by omega, ?_⟩
    exact kit_go hf0 hfp W4 O4 Store.set_same (by omega) (by omega) hmo.1 (by omega) hst1 hst2 ⟨ba, bb, bc, bd⟩ q
end K51

namespace K51
open PySem PySem.Spec L2 PyProof.Rows DL
/-! ### addresses -/
def IsAdr (x : D) : Prop := ∃ a r : List Int, x = .tup [.tup (a.map .int), .tup (r.map .int)] ∧ a.length ≤ 40 ∧ r.length ≤ 3000 ∧ r ≠ [] ∧ (∀ n ∈ a, Ten n) ∧ ∀ n ∈ r, Ten n
def spAdrW : DSp := fun ds S Q => ∃ (p : Addr) (n : Nat), ds = [.ref p] ∧ Res p n 4000 S IsAdr Q
/-- so many draws -/
theorem draws_lc {S : Store} {p : Addr} {m n : Nat} {wide : Int} {ρ : Env'} {i : Nat} {Q : DK} (hi : i < ρ.length) (hp : ρ[0]? = some (some (.ref p))) (hw : ρ[2]? = some (some (.int wide))) (h0 : i ≠ 0) (h2 : i ≠ 2) (hW : Wl S p n) (hn : n + m ≤ 100000000) (w1 : 1 ≤ wide) (w2 : wide ≤ 100000000)
    (q : ∀ (ns : List Int) S', ns.length = m → (∀ k ∈ ns, Ten k) → Wl S' p (n + m) → Off p S S' → Q (.scr (ns.map .int)) S') :
    lcW (dgName i) wYes (wCall spDraw (wCons (wVar 0) (wCons (wVar 2) wNil))) (fun _ => True) ρ Q (rngD 0 m) [] S := by
  refine lc_on (fun rest acc S' => ∃ (k : Nat) (ns : List Int), k + rest.length = m ∧ acc = ns.map .int ∧ ns.length = k ∧ (∀ k ∈ ns, Ten k) ∧ Wl S' p (n + k) ∧ Off p S S') ?_ ?_ _ _ _ ⟨0, [], by simp [rngD], rfl, rfl, fun k hk => (by cases hk), hW, Off.refl _ _⟩
  · rintro acc S' ⟨k, ns, e, rfl, hl, ho, W0, O0⟩
    simp at e
    subst e
    exact ⟨trivial, q ns S' hl ho W0 O0⟩
  · rintro d r acc S' Kc ⟨k, ns, e, rfl, hl, ho, W0, O0⟩ hK
    simp at e
    refine ⟨trivial, ?_⟩
    have g0 : (ρ.set i (some d))[0]? = some (some (.ref p)) := by rw [List.getElem?_set_ne h0]; exact hp
    have g2 : (ρ.set i (some d))[2]? = some (some (.int wide)) := by rw [List.getElem?_set_ne h2]; exact hw
    simp only [DL.dgName, DL.wYes, if_true, DL.wCall, DL.wCons, DL.wNil, DL.wVar, g0, g2]
    refine draw_of W0 (by omega) w1 (log_le (b := 100000000) (by omega) (by decide +kernel)) fun x S1 x0 x1 W1 O1 => hK _ _ ⟨k + 1, ns ++ [x], by omega, by simp, by simp [hl], fun z hz => ?_, W1, O0.trans O1⟩
    rcases List.mem_append.mp hz with z1 | z1
    · exact ho z z1
    · rw [List.mem_singleton.mp z1]; unfold Ten; omega
theorem p__law_address : ∀ ds S Q, spAdrW ds S Q → W__law_address spDraw { nx := fun _ S' => Fin Q .non S', rt := Fin Q } (startD N__law_address ds) S := by
  rintro ds S Q ⟨p, n, rfl, hW, hn, q⟩
  simp [W__law_address, DL.wNext, DL.wSeq, DL.wDrop, DL.wRet, DL.wRetN, DL.wIf, DL.wAsg, DL.wPar, DL.wPar3, DL.wVar, DL.wC, DL.wOp, DL.wUn, DL.wT, DL.wNotT, DL.wAndT, DL.wOrT, DL.wAndV, DL.wOrV, DL.wNotV, DL.wIfE, DL.wChain, DL.wCB, DL.wCall, DL.wCons, DL.wNil, DL.wStar, DL.wTup, DL.wLst, DL.wLstM, DL.wSl, DL.wPart, DL.wNoPart, DL.wRev, DL.wM1, DL.wIsi, DL.wAppend, DL.wFor, DL.wItS, DL.wRng1, DL.wRng2, DL.wEnum, DL.wLc, DL.dgName, DL.dgCons, DL.dgNil, DL.dgTup, DL.dgSub, DL.rAddD, DL.rSubD, DL.rMulD, DL.rFdivD, DL.rModD, DL.rPowD, DL.rNegD, DL.ints2, DL.cmpI, DL.rLtD, DL.rLeD, DL.rGtD, DL.rGeD, DL.rEqD, DL.rIsD, DL.ix_tupE, DL.ix_scrE, DL.ix_frzE, DL.ix_refE, DL.rLenD, DL.rStrD, DL.rIntD, DL.rAbsD, DL.rInt2, DL.rMaxD, DL.rMinD, DL.rTupleD, DL.rListD, DL.rBools, DL.rAllD, DL.rAnyD, DL.rSlD, DL.wSome, DL.seqOf, DL.lstOf, DL.curOf, DL.startD, DL.wipeD, DL.wYes, DL.refOk, DL.isTyB, DL.isNon, N__law_address]
  refine draw_of hW (by omega) (by decide) (by decide +kernel) fun i S1 i0 i1 W1 O1 => ?_
  refine at_ints (xs := [0, 1, 2, 7, 40]) (P := fun x => 0 ≤ x ∧ x ≤ 40) i0 i1 (by decide) fun s1 hs1 => ?_
  refine draw_of W1 (by omega) (by decide) (by decide +kernel) fun i S2 i0 i1 W2 O2 => ?_
  refine at_ints (xs := [1, 1, 2, 3, 9, 96, 3000]) (P := fun x => 1 ≤ x ∧ x ≤ 3000) i0 i1 (by decide) fun s2 hs2 => ?_
  refine draw_of W2 (by omega) (by decide) (by decide +kernel) fun i S3 i0 i1 W3 O3 => ?_
  refine at_ints (xs := [2, 6, 36, 100000000]) (P := fun x => 1 ≤ x ∧ x ≤ 100000000) i0 i1 (by decide) fun wide hw => ?_
  simp [lcW, DL.wNext, DL.wSeq, DL.wDrop, DL.wRet, DL.wRetN, DL.wIf, DL.wAsg, DL.wPar, DL.wPar3, DL.wVar, DL.wC, DL.wOp, DL.wUn, DL.wT, DL.wNotT, DL.wAndT, DL.wOrT, DL.wAndV, DL.wOrV, DL.wNotV, DL.wIfE, DL.wChain, DL.wCB, DL.wCall, DL.wCons, DL.wNil, DL.wStar, DL.wTup, DL.wLst, DL.wLstM, DL.wSl, DL.wPart, DL.wNoPart, DL.wRev, DL.wM1, DL.wIsi, DL.wAppend, DL.wFor, DL.wItS, DL.wRng1, DL.wRng2, DL.wEnum, DL.wLc, DL.dgName, DL.dgCons, DL.dgNil, DL.dgTup, DL.dgSub, DL.rAddD, DL.rSubD, DL.rMulD, DL.rFdivD, DL.rModD, DL.rPowD, DL.rNegD, DL.ints2, DL.cmpI, DL.rLtD, DL.rLeD, DL.rGtD, DL.rGeD, DL.rEqD, DL.rIsD, DL.ix_tupE, DL.ix_scrE, DL.ix_frzE, DL.ix_refE, DL.rLenD, DL.rStrD, DL.rIntD, DL.rAbsD, DL.rInt2, DL.rMaxD, DL.rMinD, DL.rTupleD, DL.rListD, DL.rBools, DL.rAllD, DL.rAnyD, DL.rSlD, DL.wSome, DL.seqOf, DL.lstOf, DL.curOf, DL.startD, DL.wipeD, DL.wYes, DL.refOk, DL.isTyB, DL.isNon]
  refine ⟨by omega, by simp [rngD]; omega, ?_⟩
  refine draws_lc (p := p) (m := s1.toNat) (n := n + 1 + 1 + 1) (wide := wide) (by simp) rfl rfl (by decide) (by decide) W3 (by omega) hw.1 hw.2 fun a S4 ha1 ha2 W4 O4 => ?_
  refine ⟨by omega, by simp [rngD]; omega, ?_⟩
  refine draws_lc (p := p) (m := s2.toNat) (n := n + 1 + 1 + 1 + s1.toNat) (wide := wide) (by simp) rfl rfl (by decide) (by decide) W4 (by omega) hw.1 hw.2 fun r S5 hr1 hr2 W5 O5 => ?_
  refine .of (q _ _ ⟨a, r, rfl, by omega, by omega, fun e => ?_, ha2, hr2⟩ (W5.mono (by omega)) ((((O1.trans O2).trans O3).trans O4).trans O5))
  subst e
  simp at hr1
  omega
/-! ### the law's own texts -/
theorem p__law_said_number : ∀ ds S Q, spNum ds S Q → W__law_said_number { nx := fun _ S' => Fin Q .non S', rt := Fin Q } (startD N__law_said_number ds) S := by
  rintro ds S Q ⟨t, b, rfl, ⟨h1, h2⟩, q⟩
  have l1 := h1.len
  have l2 := h2.len
  unfold numT at q
  by_cases e : b = 1
  · subst e
    simp [W__law_said_number, DL.wNext, DL.wSeq, DL.wDrop, DL.wRet, DL.wRetN, DL.wIf, DL.wAsg, DL.wPar, DL.wPar3, DL.wVar, DL.wC, DL.wOp, DL.wUn, DL.wT, DL.wNotT, DL.wAndT, DL.wOrT, DL.wAndV, DL.wOrV, DL.wNotV, DL.wIfE, DL.wChain, DL.wCB, DL.wCall, DL.wCons, DL.wNil, DL.wStar, DL.wTup, DL.wLst, DL.wLstM, DL.wSl, DL.wPart, DL.wNoPart, DL.wRev, DL.wM1, DL.wIsi, DL.wAppend, DL.wFor, DL.wItS, DL.wRng1, DL.wRng2, DL.wEnum, DL.wLc, DL.dgName, DL.dgCons, DL.dgNil, DL.dgTup, DL.dgSub, DL.rAddD, DL.rSubD, DL.rMulD, DL.rFdivD, DL.rModD, DL.rPowD, DL.rNegD, DL.ints2, DL.cmpI, DL.rLtD, DL.rLeD, DL.rGtD, DL.rGeD, DL.rEqD, DL.rIsD, DL.ix_tupE, DL.ix_scrE, DL.ix_frzE, DL.ix_refE, DL.rLenD, DL.rStrD, DL.rIntD, DL.rAbsD, DL.rInt2, DL.rMaxD, DL.rMinD, DL.rTupleD, DL.rListD, DL.rBools, DL.rAllD, DL.rAnyD, DL.rSlD, DL.wSome, DL.seqOf, DL.lstOf, DL.curOf, DL.startD, DL.wipeD, DL.wYes, DL.refOk, DL.isTyB, DL.isNon, N__law_said_number, at0, at1]
    exact ⟨h1.log, .of (by simpa using q)⟩
  · rw [if_neg e] at q
    simp [W__law_said_number, DL.wNext, DL.wSeq, DL.wDrop, DL.wRet, DL.wRetN, DL.wIf, DL.wAsg, DL.wPar, DL.wPar3, DL.wVar, DL.wC, DL.wOp, DL.wUn, DL.wT, DL.wNotT, DL.wAndT, DL.wOrT, DL.wAndV, DL.wOrV, DL.wNotV, DL.wIfE, DL.wChain, DL.wCB, DL.wCall, DL.wCons, DL.wNil, DL.wStar, DL.wTup, DL.wLst, DL.wLstM, DL.wSl, DL.wPart, DL.wNoPart, DL.wRev, DL.wM1, DL.wIsi, DL.wAppend, DL.wFor, DL.wItS, DL.wRng1, DL.wRng2, DL.wEnum, DL.wLc, DL.dgName, DL.dgCons, DL.dgNil, DL.dgTup, DL.dgSub, DL.rAddD, DL.rSubD, DL.rMulD, DL.rFdivD, DL.rModD, DL.rPowD, DL.rNegD, DL.ints2, DL.cmpI, DL.rLtD, DL.rLeD, DL.rGtD, DL.rGeD, DL.rEqD, DL.rIsD, DL.ix_tupE, DL.ix_scrE, DL.ix_frzE, DL.ix_refE, DL.rLenD, DL.rStrD, DL.rIntD, DL.rAbsD, DL.rInt2, DL.rMaxD, DL.rMinD, DL.rTupleD, DL.rListD, DL.rBools, DL.rAllD, DL.rAnyD, DL.rSlD, DL.wSome, DL.seqOf, DL.lstOf, DL.curOf, DL.startD, DL.wipeD, DL.wYes, DL.refOk, DL.isTyB, DL.isNon, N__law_said_number, at0, at1, e, str_len_app, slash_len, sizeLine_eq]
    exact ⟨h1.log, by omega, h2.log, by omega, .of q⟩
def spSaidAdr : DSp := fun ds S Q => ∃ a r : List Int, ds = [.tup [.tup (a.map .int), .tup (r.map .int)]] ∧ a.length ≤ 40 ∧ r.length ≤ 3000 ∧ r ≠ [] ∧ (∀ n ∈ a, Ten n) ∧ (∀ n ∈ r, Ten n) ∧ Q (.str (adrT a r)) S
theorem tens_len {ns : List Int} (h : ∀ n ∈ ns, Ten n) : ((ns.map strI).map (·.length)).sum ≤ 11 * ns.length := by
  rw [List.map_map]
  exact sum_le _ ns fun n hn => (h n hn).len
def sD : D → D
  | .int i => .str (strI i)
  | _ => .non
theorem map_sD (ns : List Int) : (ns.map D.int).map sD = (ns.map strI).map D.str := by rw [List.map_map, List.map_map]; rfl
theorem p__law_said_address : ∀ ds S Q, spSaidAdr ds S Q → W__law_said_address { nx := fun _ S' => Fin Q .non S', rt := Fin Q } (startD N__law_said_address ds) S := by
  rintro ds S Q ⟨a, r, rfl, ha, hr, hne, h1, h2, q⟩
  have l1 := tens_len h1
  have l2 := tens_len h2
  have one : ∀ (ns : List Int), (∀ n ∈ ns, Ten n) → ∀ d ∈ ns.map D.int, ∀ (ρ : Env') (Q' : DK), 2 < ρ.length → Q' (sD d) S → dgName 2 d ρ S fun ρ2 S2 => wCB rStrD (wCons (wVar 2) wNil) ρ2 S2 Q' := fun ns hs d hd ρ Q' hρ hQ => by
    obtain ⟨n, hn, rfl⟩ := List.mem_map.mp hd
    simp [DL.wNext, DL.wSeq, DL.wDrop, DL.wRet, DL.wRetN, DL.wIf, DL.wAsg, DL.wPar, DL.wPar3, DL.wVar, DL.wC, DL.wOp, DL.wUn, DL.wT, DL.wNotT, DL.wAndT, DL.wOrT, DL.wAndV, DL.wOrV, DL.wNotV, DL.wIfE, DL.wChain, DL.wCB, DL.wCall, DL.wCons, DL.wNil, DL.wStar, DL.wTup, DL.wLst, DL.wLstM, DL.wSl, DL.wPart, DL.wNoPart, DL.wRev, DL.wM1, DL.wIsi, DL.wAppend, DL.wFor, DL.wItS, DL.wRng1, DL.wRng2, DL.wEnum, DL.wLc, DL.dgName, DL.dgCons, DL.dgNil, DL.dgTup, DL.dgSub, DL.rAddD, DL.rSubD, DL.rMulD, DL.rFdivD, DL.rModD, DL.rPowD, DL.rNegD, DL.ints2, DL.cmpI, DL.rLtD, DL.rLeD, DL.rGtD, DL.rGeD, DL.rEqD, DL.rIsD, DL.ix_tupE, DL.ix_scrE, DL.ix_frzE, DL.ix_refE, DL.rLenD, DL.rStrD, DL.rIntD, DL.rAbsD, DL.rInt2, DL.rMaxD, DL.rMinD, DL.rTupleD, DL.rListD, DL.rBools, DL.rAllD, DL.rAnyD, DL.rSlD, DL.wSome, DL.seqOf, DL.lstOf, DL.curOf, DL.startD, DL.wipeD, DL.wYes, DL.refOk, DL.isTyB, DL.isNon, hρ]
    exact ⟨(hs n hn).sml.log, hQ⟩
  simp [W__law_said_address, DL.wNext, DL.wSeq, DL.wDrop, DL.wRet, DL.wRetN, DL.wIf, DL.wAsg, DL.wPar, DL.wPar3, DL.wVar, DL.wC, DL.wOp, DL.wUn, DL.wT, DL.wNotT, DL.wAndT, DL.wOrT, DL.wAndV, DL.wOrV, DL.wNotV, DL.wIfE, DL.wChain, DL.wCB, DL.wCall, DL.wCons, DL.wNil, DL.wStar, DL.wTup, DL.wLst, DL.wLstM, DL.wSl, DL.wPart, DL.wNoPart, DL.wRev, DL.wM1, DL.wIsi, DL.wAppend, DL.wFor, DL.wItS, DL.wRng1, DL.wRng2, DL.wEnum, DL.wLc, DL.dgName, DL.dgCons, DL.dgNil, DL.dgTup, DL.dgSub, DL.rAddD, DL.rSubD, DL.rMulD, DL.rFdivD, DL.rModD, DL.rPowD, DL.rNegD, DL.ints2, DL.cmpI, DL.rLtD, DL.rLeD, DL.rGtD, DL.rGeD, DL.rEqD, DL.rIsD, DL.ix_tupE, DL.ix_scrE, DL.ix_frzE, DL.ix_refE, DL.rLenD, DL.rStrD, DL.rIntD, DL.rAbsD, DL.rInt2, DL.rMaxD, DL.rMinD, DL.rTupleD, DL.rListD, DL.rBools, DL.rAllD, DL.rAnyD, DL.rSlD, DL.wSome, DL.seqOf, DL.lstOf, DL.curOf, DL.startD, DL.wipeD, DL.wYes, DL.refOk, DL.isTyB, DL.isNon, N__law_said_address, at0, at1]
  refine ⟨by omega, lc_map sD trivial _ [] (fun d hd Q' hQ => one a h1 d hd _ Q' (by simp) hQ) ?_⟩
  rw [map_sD]
  simp [DL.wNext, DL.wSeq, DL.wDrop, DL.wRet, DL.wRetN, DL.wIf, DL.wAsg, DL.wPar, DL.wPar3, DL.wVar, DL.wC, DL.wOp, DL.wUn, DL.wT, DL.wNotT, DL.wAndT, DL.wOrT, DL.wAndV, DL.wOrV, DL.wNotV, DL.wIfE, DL.wChain, DL.wCB, DL.wCall, DL.wCons, DL.wNil, DL.wStar, DL.wTup, DL.wLst, DL.wLstM, DL.wSl, DL.wPart, DL.wNoPart, DL.wRev, DL.wM1, DL.wIsi, DL.wAppend, DL.wFor, DL.wItS, DL.wRng1, DL.wRng2, DL.wEnum, DL.wLc, DL.dgName, DL.dgCons, DL.dgNil, DL.dgTup, DL.dgSub, DL.rAddD, DL.rSubD, DL.rMulD, DL.rFdivD, DL.rModD, DL.rPowD, DL.rNegD, DL.ints2, DL.cmpI, DL.rLtD, DL.rLeD, DL.rGtD, DL.rGeD, DL.rEqD, DL.rIsD, DL.ix_tupE, DL.ix_scrE, DL.ix_frzE, DL.ix_refE, DL.rLenD, DL.rStrD, DL.rIntD, DL.rAbsD, DL.rInt2, DL.rMaxD, DL.rMinD, DL.rTupleD, DL.rListD, DL.rBools, DL.rAllD, DL.rAnyD, DL.rSlD, DL.wSome, DL.seqOf, DL.lstOf, DL.curOf, DL.startD, DL.wipeD, DL.wYes, DL.refOk, DL.isTyB, DL.isNon, sizeLine_eq]
  refine ⟨by omega, by omega, lc_map sD trivial _ [] (fun d hd Q' hQ => one r h2 d hd _ Q' (by simp) hQ) ?_⟩
  rw [map_sD]
  simp [DL.wNext, DL.wSeq, DL.wDrop, DL.wRet, DL.wRetN, DL.wIf, DL.wAsg, DL.wPar, DL.wPar3, DL.wVar, DL.wC, DL.wOp, DL.wUn, DL.wT, DL.wNotT, DL.wAndT, DL.wOrT, DL.wAndV, DL.wOrV, DL.wNotV, DL.wIfE, DL.wChain, DL.wCB, DL.wCall, DL.wCons, DL.wNil, DL.wStar, DL.wTup, DL.wLst, DL.wLstM, DL.wSl, DL.wPart, DL.wNoPart, DL.wRev, DL.wM1, DL.wIsi, DL.wAppend, DL.wFor, DL.wItS, DL.wRng1, DL.wRng2, DL.wEnum, DL.wLc, DL.dgName, DL.dgCons, DL.dgNil, DL.dgTup, DL.dgSub, DL.rAddD, DL.rSubD, DL.rMulD, DL.rFdivD, DL.rModD, DL.rPowD, DL.rNegD, DL.ints2, DL.cmpI, DL.rLtD, DL.rLeD, DL.rGtD, DL.rGeD, DL.rEqD, DL.rIsD, DL.ix_tupE, DL.ix_scrE, DL.ix_frzE, DL.ix_refE, DL.rLenD, DL.rStrD, DL.rIntD, DL.rAbsD, DL.rInt2, DL.rMaxD, DL.rMinD, DL.rTupleD, DL.rListD, DL.rBools, DL.rAllD, DL.rAnyD, DL.rSlD, DL.wSome, DL.seqOf, DL.lstOf, DL.curOf, DL.startD, DL.wipeD, DL.wYes, DL.refOk, DL.isTyB, DL.isNon, sizeLine_eq]
  refine ⟨by omega, by omega, ?_⟩
  have e := adr_eq a r hne
  refine join_ok (a.map strI ++ (["("] : List Str) ++ r.map strI ++ ([")"] : List Str)) (by simp [DL.wNext, DL.wSeq, DL.wDrop, DL.wRet, DL.wRetN, DL.wIf, DL.wAsg, DL.wPar, DL.wPar3, DL.wVar, DL.wC, DL.wOp, DL.wUn, DL.wT, DL.wNotT, DL.wAndT, DL.wOrT, DL.wAndV, DL.wOrV, DL.wNotV, DL.wIfE, DL.wChain, DL.wCB, DL.wCall, DL.wCons, DL.wNil, DL.wStar, DL.wTup, DL.wLst, DL.wLstM, DL.wSl, DL.wPart, DL.wNoPart, DL.wRev, DL.wM1, DL.wIsi, DL.wAppend, DL.wFor, DL.wItS, DL.wRng1, DL.wRng2, DL.wEnum, DL.wLc, DL.dgName, DL.dgCons, DL.dgNil, DL.dgTup, DL.dgSub, DL.rAddD, DL.rSubD, DL.rMulD, DL.rFdivD, DL.rModD, DL.rPowD, DL.rNegD, DL.ints2, DL.cmpI, DL.rLtD, DL.rLeD, DL.rGtD, DL.rGeD, DL.rEqD, DL.rIsD, DL.ix_tupE, DL.ix_scrE, DL.ix_frzE, DL.ix_refE, DL.rLenD, DL.rStrD, DL.rIntD, DL.rAbsD, DL.rInt2, DL.rMaxD, DL.rMinD, DL.rTupleD, DL.rListD, DL.rBools, DL.rAllD, DL.rAnyD, DL.rSlD, DL.wSome, DL.seqOf, DL.lstOf, DL.curOf, DL.startD, DL.wipeD, DL.wYes, DL.refOk, DL.isTyB, DL.isNon]) ?_ (.of (by rw [← e]; exact q))
  simp only [List.map_append, List.sum_append, List.length_append, List.length_map, blank_len, List.map_cons, List.map_nil, List.sum_cons, List.sum_nil, List.length_cons, List.length_nil]
  have e1 : (Str.ofString "(").length = 1 := by decide +kernel
  have e2 : (Str.ofString ")").length = 1 := by decide +kernel
  rw [e1, e2]
  omega
end K51

namespace K51
open PySem PySem.Spec L2 PyProof.Rows DL
def spSaidCps : DSp := fun ds S Q => ∃ cs : List Cpy, ds = [cpsD cs] ∧ cs.length ≤ 900 ∧ (∀ c ∈ cs, c.Ok) ∧ Q (.str (cpsT cs)) S
theorem p__law_said_copies : ∀ ds S Q, spSaidCps ds S Q → W__law_said_copies { nx := fun _ S' => Fin Q .non S', rt := Fin Q } (startD N__law_said_copies ds) S := by
  rintro ds S Q ⟨cs, rfl, hl, ho, q⟩
  simp [W__law_said_copies, DL.wNext, DL.wSeq, DL.wDrop, DL.wRet, DL.wRetN, DL.wIf, DL.wAsg, DL.wPar, DL.wPar3, DL.wVar, DL.wC, DL.wOp, DL.wUn, DL.wT, DL.wNotT, DL.wAndT, DL.wOrT, DL.wAndV, DL.wOrV, DL.wNotV, DL.wIfE, DL.wChain, DL.wCB, DL.wCall, DL.wCons, DL.wNil, DL.wStar, DL.wTup, DL.wLst, DL.wLstM, DL.wSl, DL.wPart, DL.wNoPart, DL.wRev, DL.wM1, DL.wIsi, DL.wAppend, DL.wFor, DL.wItS, DL.wRng1, DL.wRng2, DL.wEnum, DL.wLc, DL.dgName, DL.dgCons, DL.dgNil, DL.dgTup, DL.dgSub, DL.rAddD, DL.rSubD, DL.rMulD, DL.rFdivD, DL.rModD, DL.rPowD, DL.rNegD, DL.ints2, DL.cmpI, DL.rLtD, DL.rLeD, DL.rGtD, DL.rGeD, DL.rEqD, DL.rIsD, DL.ix_tupE, DL.ix_scrE, DL.ix_frzE, DL.ix_refE, DL.rLenD, DL.rStrD, DL.rIntD, DL.rAbsD, DL.rInt2, DL.rMaxD, DL.rMinD, DL.rTupleD, DL.rListD, DL.rBools, DL.rAllD, DL.rAnyD, DL.rSlD, DL.wSome, DL.seqOf, DL.lstOf, DL.curOf, DL.startD, DL.wipeD, DL.wYes, DL.refOk, DL.isTyB, DL.isNon, N__law_said_copies, cpsD]
  intro f hf
  refine loop_on (fun rest ρ S' => ∃ (c1 c2 : List Cpy) (t u : Option D), c1 ++ c2 = cs ∧ rest = c2.map Cpy.d ∧ S' = S.set f (.lst ((c1.map cpyT).map .str)) ∧ ρ = [some (.tup (cs.map Cpy.d)), some (.ref f), t, u]) ?_ ?_ _ _ _ ⟨[], cs, none, none, rfl, rfl, rfl, rfl⟩
  · rintro ρ S' ⟨c1, c2, t, u, e1, e2, rfl, rfl⟩
    have hc2 : c2 = [] := by cases c2 with
      | nil => rfl
      | cons a b => simp at e2
    subst hc2
    simp at e1
    subst e1
    have h := cpys_len ho
    simp [DL.wNext, DL.wSeq, DL.wDrop, DL.wRet, DL.wRetN, DL.wIf, DL.wAsg, DL.wPar, DL.wPar3, DL.wVar, DL.wC, DL.wOp, DL.wUn, DL.wT, DL.wNotT, DL.wAndT, DL.wOrT, DL.wAndV, DL.wOrV, DL.wNotV, DL.wIfE, DL.wChain, DL.wCB, DL.wCall, DL.wCons, DL.wNil, DL.wStar, DL.wTup, DL.wLst, DL.wLstM, DL.wSl, DL.wPart, DL.wNoPart, DL.wRev, DL.wM1, DL.wIsi, DL.wAppend, DL.wFor, DL.wItS, DL.wRng1, DL.wRng2, DL.wEnum, DL.wLc, DL.dgName, DL.dgCons, DL.dgNil, DL.dgTup, DL.dgSub, DL.rAddD, DL.rSubD, DL.rMulD, DL.rFdivD, DL.rModD, DL.rPowD, DL.rNegD, DL.ints2, DL.cmpI, DL.rLtD, DL.rLeD, DL.rGtD, DL.rGeD, DL.rEqD, DL.rIsD, DL.ix_tupE, DL.ix_scrE, DL.ix_frzE, DL.ix_refE, DL.rLenD, DL.rStrD, DL.rIntD, DL.rAbsD, DL.rInt2, DL.rMaxD, DL.rMinD, DL.rTupleD, DL.rListD, DL.rBools, DL.rAllD, DL.rAnyD, DL.rSlD, DL.wSome, DL.seqOf, DL.lstOf, DL.curOf, DL.startD, DL.wipeD, DL.wYes, DL.refOk, DL.isTyB, DL.isNon]
    refine join_ok (c1.map cpyT) (by simp [DL.wNext, DL.wSeq, DL.wDrop, DL.wRet, DL.wRetN, DL.wIf, DL.wAsg, DL.wPar, DL.wPar3, DL.wVar, DL.wC, DL.wOp, DL.wUn, DL.wT, DL.wNotT, DL.wAndT, DL.wOrT, DL.wAndV, DL.wOrV, DL.wNotV, DL.wIfE, DL.wChain, DL.wCB, DL.wCall, DL.wCons, DL.wNil, DL.wStar, DL.wTup, DL.wLst, DL.wLstM, DL.wSl, DL.wPart, DL.wNoPart, DL.wRev, DL.wM1, DL.wIsi, DL.wAppend, DL.wFor, DL.wItS, DL.wRng1, DL.wRng2, DL.wEnum, DL.wLc, DL.dgName, DL.dgCons, DL.dgNil, DL.dgTup, DL.dgSub, DL.rAddD, DL.rSubD, DL.rMulD, DL.rFdivD, DL.rModD, DL.rPowD, DL.rNegD, DL.ints2, DL.cmpI, DL.rLtD, DL.rLeD, DL.rGtD, DL.rGeD, DL.rEqD, DL.rIsD, DL.ix_tupE, DL.ix_scrE, DL.ix_frzE, DL.ix_refE, DL.rLenD, DL.rStrD, DL.rIntD, DL.rAbsD, DL.rInt2, DL.rMaxD, DL.rMinD, DL.rTupleD, DL.rListD, DL.rBools, DL.rAllD, DL.rAnyD, DL.rSlD, DL.wSome, DL.seqOf, DL.lstOf, DL.curOf, DL.startD, DL.wipeD, DL.wYes, DL.refOk, DL.isTyB, DL.isNon, Store.set_same]) (by rw [comma_len, List.length_map]; omega) (.sub (Sub.set hf) q)
  · rintro d r ρ S' Kc ⟨c1, c2, t, u, e1, e2, rfl, rfl⟩ hK
    cases c2 with
    | nil => simp at e2
    | cons c c2 =>
      simp only [List.map_cons, List.cons.injEq] at e2
      obtain ⟨rfl, rfl⟩ := e2
      have hc : c.Ok := ho c (by rw [← e1]; simp)
      have hl2 : c1.length + (c2.length + 1) = cs.length := by rw [← e1]; simp
      have g1 := hc.1.len
      have g2 := hc.2.1.len
      have g3 := hc.2.2.len
      simp [DL.wNext, DL.wSeq, DL.wDrop, DL.wRet, DL.wRetN, DL.wIf, DL.wAsg, DL.wPar, DL.wPar3, DL.wVar, DL.wC, DL.wOp, DL.wUn, DL.wT, DL.wNotT, DL.wAndT, DL.wOrT, DL.wAndV, DL.wOrV, DL.wNotV, DL.wIfE, DL.wChain, DL.wCB, DL.wCall, DL.wCons, DL.wNil, DL.wStar, DL.wTup, DL.wLst, DL.wLstM, DL.wSl, DL.wPart, DL.wNoPart, DL.wRev, DL.wM1, DL.wIsi, DL.wAppend, DL.wFor, DL.wItS, DL.wRng1, DL.wRng2, DL.wEnum, DL.wLc, DL.dgName, DL.dgCons, DL.dgNil, DL.dgTup, DL.dgSub, DL.rAddD, DL.rSubD, DL.rMulD, DL.rFdivD, DL.rModD, DL.rPowD, DL.rNegD, DL.ints2, DL.cmpI, DL.rLtD, DL.rLeD, DL.rGtD, DL.rGeD, DL.rEqD, DL.rIsD, DL.ix_tupE, DL.ix_scrE, DL.ix_frzE, DL.ix_refE, DL.rLenD, DL.rStrD, DL.rIntD, DL.rAbsD, DL.rInt2, DL.rMaxD, DL.rMinD, DL.rTupleD, DL.rListD, DL.rBools, DL.rAllD, DL.rAnyD, DL.rSlD, DL.wSome, DL.seqOf, DL.lstOf, DL.curOf, DL.startD, DL.wipeD, DL.wYes, DL.refOk, DL.isTyB, DL.isNon, Cpy.d, at0, at1, Store.set_same, sizeLine_eq, str_len_app, blank_len]
      refine ⟨hc.1.sml.log, by omega, hc.2.1.sml.log, by omega, by omega, hc.2.2.sml.log, by omega, by omega, hK _ _ ⟨c1 ++ [c], c2, _, _, by simp [← e1], rfl, ?_, rfl⟩⟩
      rw [Store.set_set]
      simp [cpyT]
def spSaidKit : DSp := fun ds S Q => ∃ k : Kit, ds = [k.dt] ∧ k.Ok ∧ Q (.str k.tx) S
theorem p__law_said_kit : ∀ ds S Q, spSaidKit ds S Q → W__law_said_kit spSaidCps { nx := fun _ S' => Fin Q .non S', rt := Fin Q } (startD N__law_said_kit ds) S := by
  rintro ds S Q ⟨k, rfl, hk, q⟩
  have ht : ∀ n ∈ [k.a, k.b, k.c, k.d], Sml n := by simpa using ⟨hk.a, hk.b, hk.c, hk.d⟩
  have l0 := wds_len ht
  have l1 := ints_len ht
  have hn := hk.n
  simp [W__law_said_kit, DL.wNext, DL.wSeq, DL.wDrop, DL.wRet, DL.wRetN, DL.wIf, DL.wAsg, DL.wPar, DL.wPar3, DL.wVar, DL.wC, DL.wOp, DL.wUn, DL.wT, DL.wNotT, DL.wAndT, DL.wOrT, DL.wAndV, DL.wOrV, DL.wNotV, DL.wIfE, DL.wChain, DL.wCB, DL.wCall, DL.wCons, DL.wNil, DL.wStar, DL.wTup, DL.wLst, DL.wLstM, DL.wSl, DL.wPart, DL.wNoPart, DL.wRev, DL.wM1, DL.wIsi, DL.wAppend, DL.wFor, DL.wItS, DL.wRng1, DL.wRng2, DL.wEnum, DL.wLc, DL.dgName, DL.dgCons, DL.dgNil, DL.dgTup, DL.dgSub, DL.rAddD, DL.rSubD, DL.rMulD, DL.rFdivD, DL.rModD, DL.rPowD, DL.rNegD, DL.ints2, DL.cmpI, DL.rLtD, DL.rLeD, DL.rGtD, DL.rGeD, DL.rEqD, DL.rIsD, DL.ix_tupE, DL.ix_scrE, DL.ix_frzE, DL.ix_refE, DL.rLenD, DL.rStrD, DL.rIntD, DL.rAbsD, DL.rInt2, DL.rMaxD, DL.rMinD, DL.rTupleD, DL.rListD, DL.rBools, DL.rAllD, DL.rAnyD, DL.rSlD, DL.wSome, DL.seqOf, DL.lstOf, DL.curOf, DL.startD, DL.wipeD, DL.wYes, DL.refOk, DL.isTyB, DL.isNon, N__law_said_kit, Kit.dt, Kit.table, at0, at1, lcW, enumD, sizeLine_eq]
  refine ⟨hk.a.log, hk.b.log, hk.c.log, hk.d.log, join_ok [strI k.a, strI k.b, strI k.c, strI k.d] rfl (by rw [blank_len]; simpa using (by simp at l1; omega)) ⟨by simp only [table_len]; simp [wdsT] at l0; omega, fun p hp => ?_⟩⟩
  refine loop_on (fun rest ρ S' => ∃ (st : List (List Cpy)) (n : Nat) (done : List Str) (i1 i2 : Option D), rest = ((st.map cpsD).zipIdx n).map (fun p => D.tup [D.int (p.2 : Nat), p.1]) ∧
      done ++ (st.zipIdx n).map lineT = ("table " ++ wdsT [k.a, k.b, k.c, k.d]) :: k.st.zipIdx.map lineT ∧ S' = S.set p (.lst (done.map .str)) ∧
      ρ = [some (D.tup [D.tup [D.tup [D.int k.a, D.int k.b], D.tup [D.int k.c, D.int k.d]], D.tup (List.map cpsD k.st)]), some (D.ref p), i1, i2, none] ∧
      (∀ cs ∈ st, cs.length ≤ 900 ∧ ∀ c ∈ cs, c.Ok) ∧ n + st.length ≤ 40 ∧ done.length = n + 1 ∧ ∀ x ∈ done, x.length ≤ 33314) ?_ ?_ _ _ _
      ⟨k.st, 0, ["table " ++ wdsT [k.a, k.b, k.c, k.d]], none, none, rfl, rfl, rfl, rfl, hk.m, by omega, rfl, fun x hx => ?_⟩
  · rintro ρ S' ⟨st, n, done, i1, i2, e1, e2, rfl, rfl, h1, h2, h3, h4⟩
    have hst : st = [] := by
      cases st with
      | nil => rfl
      | cons a b => simp at e1
    subst hst
    simp at e2
    refine ⟨trivial, ?_⟩
    simp [DL.wNext, DL.wSeq, DL.wDrop, DL.wRet, DL.wRetN, DL.wIf, DL.wAsg, DL.wPar, DL.wPar3, DL.wVar, DL.wC, DL.wOp, DL.wUn, DL.wT, DL.wNotT, DL.wAndT, DL.wOrT, DL.wAndV, DL.wOrV, DL.wNotV, DL.wIfE, DL.wChain, DL.wCB, DL.wCall, DL.wCons, DL.wNil, DL.wStar, DL.wTup, DL.wLst, DL.wLstM, DL.wSl, DL.wPart, DL.wNoPart, DL.wRev, DL.wM1, DL.wIsi, DL.wAppend, DL.wFor, DL.wItS, DL.wRng1, DL.wRng2, DL.wEnum, DL.wLc, DL.dgName, DL.dgCons, DL.dgNil, DL.dgTup, DL.dgSub, DL.rAddD, DL.rSubD, DL.rMulD, DL.rFdivD, DL.rModD, DL.rPowD, DL.rNegD, DL.ints2, DL.cmpI, DL.rLtD, DL.rLeD, DL.rGtD, DL.rGeD, DL.rEqD, DL.rIsD, DL.ix_tupE, DL.ix_scrE, DL.ix_frzE, DL.ix_refE, DL.rLenD, DL.rStrD, DL.rIntD, DL.rAbsD, DL.rInt2, DL.rMaxD, DL.rMinD, DL.rTupleD, DL.rListD, DL.rBools, DL.rAllD, DL.rAnyD, DL.rSlD, DL.wSome, DL.seqOf, DL.lstOf, DL.curOf, DL.startD, DL.wipeD, DL.wYes, DL.refOk, DL.isTyB, DL.isNon]
    have hs := sum_le (fun x : Str => x.length) done h4
    refine join_ok done (by simp [DL.wNext, DL.wSeq, DL.wDrop, DL.wRet, DL.wRetN, DL.wIf, DL.wAsg, DL.wPar, DL.wPar3, DL.wVar, DL.wC, DL.wOp, DL.wUn, DL.wT, DL.wNotT, DL.wAndT, DL.wOrT, DL.wAndV, DL.wOrV, DL.wNotV, DL.wIfE, DL.wChain, DL.wCB, DL.wCall, DL.wCons, DL.wNil, DL.wStar, DL.wTup, DL.wLst, DL.wLstM, DL.wSl, DL.wPart, DL.wNoPart, DL.wRev, DL.wM1, DL.wIsi, DL.wAppend, DL.wFor, DL.wItS, DL.wRng1, DL.wRng2, DL.wEnum, DL.wLc, DL.dgName, DL.dgCons, DL.dgNil, DL.dgTup, DL.dgSub, DL.rAddD, DL.rSubD, DL.rMulD, DL.rFdivD, DL.rModD, DL.rPowD, DL.rNegD, DL.ints2, DL.cmpI, DL.rLtD, DL.rLeD, DL.rGtD, DL.rGeD, DL.rEqD, DL.rIsD, DL.ix_tupE, DL.ix_scrE, DL.ix_frzE, DL.ix_refE, DL.rLenD, DL.rStrD, DL.rIntD, DL.rAbsD, DL.rInt2, DL.rMaxD, DL.rMinD, DL.rTupleD, DL.rListD, DL.rBools, DL.rAllD, DL.rAnyD, DL.rSlD, DL.wSome, DL.seqOf, DL.lstOf, DL.curOf, DL.startD, DL.wipeD, DL.wYes, DL.refOk, DL.isTyB, DL.isNon, Store.set_same]) (by rw [nl_len]; omega) (.sub (Sub.set hp) ?_)
    rw [e2]
    exact q
  · rintro d r ρ S' Kc ⟨st, n, done, i1, i2, e1, e2, rfl, rfl, h1, h2, h3, h4⟩ hK
    refine ⟨trivial, ?_⟩
    cases st with
    | nil => simp at e1
    | cons cs st =>
      simp only [List.map_cons, List.zipIdx_cons, List.cons.injEq] at e1
      obtain ⟨rfl, rfl⟩ := e1
      have hcs := h1 cs List.mem_cons_self
      have hn' : n ≤ 10000 := by simp at h2; omega
      have ln := (small_nat hn').len
      have lc := cps_len hcs.2
      have ll := line_len (cs := cs) (n := n) hcs hn'
      simp [DL.wNext, DL.wSeq, DL.wDrop, DL.wRet, DL.wRetN, DL.wIf, DL.wAsg, DL.wPar, DL.wPar3, DL.wVar, DL.wC, DL.wOp, DL.wUn, DL.wT, DL.wNotT, DL.wAndT, DL.wOrT, DL.wAndV, DL.wOrV, DL.wNotV, DL.wIfE, DL.wChain, DL.wCB, DL.wCall, DL.wCons, DL.wNil, DL.wStar, DL.wTup, DL.wLst, DL.wLstM, DL.wSl, DL.wPart, DL.wNoPart, DL.wRev, DL.wM1, DL.wIsi, DL.wAppend, DL.wFor, DL.wItS, DL.wRng1, DL.wRng2, DL.wEnum, DL.wLc, DL.dgName, DL.dgCons, DL.dgNil, DL.dgTup, DL.dgSub, DL.rAddD, DL.rSubD, DL.rMulD, DL.rFdivD, DL.rModD, DL.rPowD, DL.rNegD, DL.ints2, DL.cmpI, DL.rLtD, DL.rLeD, DL.rGtD, DL.rGeD, DL.rEqD, DL.rIsD, DL.ix_tupE, DL.ix_scrE, DL.ix_frzE, DL.ix_refE, DL.rLenD, DL.rStrD, DL.rIntD, DL.rAbsD, DL.rInt2, DL.rMaxD, DL.rMinD, DL.rTupleD, DL.rListD, DL.rBools, DL.rAllD, DL.rAnyD, DL.rSlD, DL.wSome, DL.seqOf, DL.lstOf, DL.curOf, DL.startD, DL.wipeD, DL.wYes, DL.refOk, DL.isTyB, DL.isNon, Store.set_same, sizeLine_eq, colon_len]
      refine ⟨(small_nat hn').sml.log, by omega, cs, rfl, hcs.1, hcs.2, ?_⟩
      show (Str.length _ + Str.length (cpsT cs) ≤ _) ∧ _
      rw [str_len_app, colon_len]
      refine ⟨by omega, ?_⟩
      simp only [Store.set_same]
      refine ⟨by simp; omega, hK _ _ ⟨st, n + 1, done ++ [lineT (cs, n)], _, _, rfl, ?_, ?_, rfl, fun c hc => h1 c (List.mem_cons_of_mem _ hc), by simp at h2; omega, by simp [h3], fun x hx => ?_⟩⟩
      · rw [← e2]; simp
      · rw [Store.set_set]; simp [lineT]
      · rcases List.mem_append.mp hx with z | z
        · exact h4 x z
        · rw [List.mem_singleton.mp z]; exact ll
  · rw [List.mem_singleton.mp hx]
    show (Str.ofString "table " ++ wdsT [k.a, k.b, k.c, k.d]).length ≤ 33314
    rw [str_len_app, table_len]
    simp at l0
    omega
/-! ### rows, things -/
def spRows : DSp := fun ds S Q => ∃ rs : List Str, ds = [.scr (rs.map .str)] ∧ rs.length ≤ 40 ∧ (∀ r ∈ rs, r.length ≤ 40) ∧ Q (.str (Txt.join "\n" rs)) S
theorem rows_len {rs : List Str} (h : ∀ r ∈ rs, r.length ≤ 40) : (rs.map (·.length)).sum ≤ 40 * rs.length := sum_le _ rs h
theorem p_show_rows : ∀ ds S Q, spRows ds S Q → W_show_rows { nx := fun _ S' => Fin Q .non S', rt := Fin Q } (startD N_show_rows ds) S := by
  rintro ds S Q ⟨rs, rfl, hl, hr, q⟩
  have h := rows_len hr
  simp [W_show_rows, DL.wNext, DL.wSeq, DL.wDrop, DL.wRet, DL.wRetN, DL.wIf, DL.wAsg, DL.wPar, DL.wPar3, DL.wVar, DL.wC, DL.wOp, DL.wUn, DL.wT, DL.wNotT, DL.wAndT, DL.wOrT, DL.wAndV, DL.wOrV, DL.wNotV, DL.wIfE, DL.wChain, DL.wCB, DL.wCall, DL.wCons, DL.wNil, DL.wStar, DL.wTup, DL.wLst, DL.wLstM, DL.wSl, DL.wPart, DL.wNoPart, DL.wRev, DL.wM1, DL.wIsi, DL.wAppend, DL.wFor, DL.wItS, DL.wRng1, DL.wRng2, DL.wEnum, DL.wLc, DL.dgName, DL.dgCons, DL.dgNil, DL.dgTup, DL.dgSub, DL.rAddD, DL.rSubD, DL.rMulD, DL.rFdivD, DL.rModD, DL.rPowD, DL.rNegD, DL.ints2, DL.cmpI, DL.rLtD, DL.rLeD, DL.rGtD, DL.rGeD, DL.rEqD, DL.rIsD, DL.ix_tupE, DL.ix_scrE, DL.ix_frzE, DL.ix_refE, DL.rLenD, DL.rStrD, DL.rIntD, DL.rAbsD, DL.rInt2, DL.rMaxD, DL.rMinD, DL.rTupleD, DL.rListD, DL.rBools, DL.rAllD, DL.rAnyD, DL.rSlD, DL.wSome, DL.seqOf, DL.lstOf, DL.curOf, DL.startD, DL.wipeD, DL.wYes, DL.refOk, DL.isTyB, DL.isNon, N_show_rows]
  exact join_ok rs rfl (by rw [nl_len]; omega) (.of q)
/-- a thing of a door, and its text -/
def ThOk (door : Int) (x : D) (said : Str) : Prop :=
  (door = 0 ∧ ∃ t b, x = .tup [.int t, .int b] ∧ (Sml t ∧ Sml b) ∧ said = numT t b) ∨
  (door = 1 ∧ ∃ t1 b1 t2 b2, x = .tup [.tup [.int t1, .int b1], .tup [.int t2, .int b2]] ∧ (Sml t1 ∧ Sml b1) ∧ (Sml t2 ∧ Sml b2) ∧ said = numT t1 b1 ++ " " ++ numT t2 b2) ∨
  (door = 2 ∧ ∃ a r : List Int, x = .tup [.tup (a.map .int), .tup (r.map .int)] ∧ a.length ≤ 40 ∧ r.length ≤ 3000 ∧ (∀ n ∈ a, Ten n) ∧ (∀ n ∈ r, Ten n) ∧ said = adrT a r) ∨
  (door = 3 ∧ ∃ k : Kit, x = k.dt ∧ k.Ok ∧ said = k.tx) ∨
  (door = 4 ∧ ∃ rs : List Str, x = .scr (rs.map .str) ∧ rs.length ≤ 40 ∧ (∀ r ∈ rs, r.length ≤ 40) ∧ said = Txt.join "\n" rs)
def spShown : DSp := fun ds S Q => ∃ door x named said, ds = [.int door, x, .bl named] ∧ ThOk door x said ∧ Q (.str said) S
theorem p__law_shown : ∀ ds S Q, spShown ds S Q → W__law_shown spAdr spKit spNum spPoint spRows { nx := fun _ S' => Fin Q .non S', rt := Fin Q } (startD N__law_shown ds) S := by
  rintro ds S Q ⟨door, x, named, said, rfl, h, q⟩
  rcases h with ⟨rfl, t, b, rfl, h, rfl⟩ | ⟨rfl, t1, b1, t2, b2, rfl, h1, h2, rfl⟩ | ⟨rfl, a, r, rfl, h1, h2, h3, h4, rfl⟩ | ⟨rfl, k, rfl, h, rfl⟩ | ⟨rfl, rs, rfl, h1, h2, rfl⟩
  · have g : spNum [.tup [.int t, .int b]] S (Fin Q) := ⟨t, b, rfl, h, .of q⟩
    simp [W__law_shown, DL.wNext, DL.wSeq, DL.wDrop, DL.wRet, DL.wRetN, DL.wIf, DL.wAsg, DL.wPar, DL.wPar3, DL.wVar, DL.wC, DL.wOp, DL.wUn, DL.wT, DL.wNotT, DL.wAndT, DL.wOrT, DL.wAndV, DL.wOrV, DL.wNotV, DL.wIfE, DL.wChain, DL.wCB, DL.wCall, DL.wCons, DL.wNil, DL.wStar, DL.wTup, DL.wLst, DL.wLstM, DL.wSl, DL.wPart, DL.wNoPart, DL.wRev, DL.wM1, DL.wIsi, DL.wAppend, DL.wFor, DL.wItS, DL.wRng1, DL.wRng2, DL.wEnum, DL.wLc, DL.dgName, DL.dgCons, DL.dgNil, DL.dgTup, DL.dgSub, DL.rAddD, DL.rSubD, DL.rMulD, DL.rFdivD, DL.rModD, DL.rPowD, DL.rNegD, DL.ints2, DL.cmpI, DL.rLtD, DL.rLeD, DL.rGtD, DL.rGeD, DL.rEqD, DL.rIsD, DL.ix_tupE, DL.ix_scrE, DL.ix_frzE, DL.ix_refE, DL.rLenD, DL.rStrD, DL.rIntD, DL.rAbsD, DL.rInt2, DL.rMaxD, DL.rMinD, DL.rTupleD, DL.rListD, DL.rBools, DL.rAllD, DL.rAnyD, DL.rSlD, DL.wSome, DL.seqOf, DL.lstOf, DL.curOf, DL.startD, DL.wipeD, DL.wYes, DL.refOk, DL.isTyB, DL.isNon, N__law_shown, g]
  · have g : spPoint [.tup [.tup [.int t1, .int b1], .tup [.int t2, .int b2]]] S (Fin Q) := ⟨t1, b1, t2, b2, rfl, h1, h2, .of q⟩
    simp [W__law_shown, DL.wNext, DL.wSeq, DL.wDrop, DL.wRet, DL.wRetN, DL.wIf, DL.wAsg, DL.wPar, DL.wPar3, DL.wVar, DL.wC, DL.wOp, DL.wUn, DL.wT, DL.wNotT, DL.wAndT, DL.wOrT, DL.wAndV, DL.wOrV, DL.wNotV, DL.wIfE, DL.wChain, DL.wCB, DL.wCall, DL.wCons, DL.wNil, DL.wStar, DL.wTup, DL.wLst, DL.wLstM, DL.wSl, DL.wPart, DL.wNoPart, DL.wRev, DL.wM1, DL.wIsi, DL.wAppend, DL.wFor, DL.wItS, DL.wRng1, DL.wRng2, DL.wEnum, DL.wLc, DL.dgName, DL.dgCons, DL.dgNil, DL.dgTup, DL.dgSub, DL.rAddD, DL.rSubD, DL.rMulD, DL.rFdivD, DL.rModD, DL.rPowD, DL.rNegD, DL.ints2, DL.cmpI, DL.rLtD, DL.rLeD, DL.rGtD, DL.rGeD, DL.rEqD, DL.rIsD, DL.ix_tupE, DL.ix_scrE, DL.ix_frzE, DL.ix_refE, DL.rLenD, DL.rStrD, DL.rIntD, DL.rAbsD, DL.rInt2, DL.rMaxD, DL.rMinD, DL.rTupleD, DL.rListD, DL.rBools, DL.rAllD, DL.rAnyD, DL.rSlD, DL.wSome, DL.seqOf, DL.lstOf, DL.curOf, DL.startD, DL.wipeD, DL.wYes, DL.refOk, DL.isTyB, DL.isNon, N__law_shown, g]
  · have g : spAdr [.tup [.tup (a.map .int), .tup (r.map .int)]] S (Fin Q) := ⟨a, r, rfl, by omega, by omega, fun n hn => (h3 n hn).sml, fun n hn => (h4 n hn).sml, .of q⟩
    simp [W__law_shown, DL.wNext, DL.wSeq, DL.wDrop, DL.wRet, DL.wRetN, DL.wIf, DL.wAsg, DL.wPar, DL.wPar3, DL.wVar, DL.wC, DL.wOp, DL.wUn, DL.wT, DL.wNotT, DL.wAndT, DL.wOrT, DL.wAndV, DL.wOrV, DL.wNotV, DL.wIfE, DL.wChain, DL.wCB, DL.wCall, DL.wCons, DL.wNil, DL.wStar, DL.wTup, DL.wLst, DL.wLstM, DL.wSl, DL.wPart, DL.wNoPart, DL.wRev, DL.wM1, DL.wIsi, DL.wAppend, DL.wFor, DL.wItS, DL.wRng1, DL.wRng2, DL.wEnum, DL.wLc, DL.dgName, DL.dgCons, DL.dgNil, DL.dgTup, DL.dgSub, DL.rAddD, DL.rSubD, DL.rMulD, DL.rFdivD, DL.rModD, DL.rPowD, DL.rNegD, DL.ints2, DL.cmpI, DL.rLtD, DL.rLeD, DL.rGtD, DL.rGeD, DL.rEqD, DL.rIsD, DL.ix_tupE, DL.ix_scrE, DL.ix_frzE, DL.ix_refE, DL.rLenD, DL.rStrD, DL.rIntD, DL.rAbsD, DL.rInt2, DL.rMaxD, DL.rMinD, DL.rTupleD, DL.rListD, DL.rBools, DL.rAllD, DL.rAnyD, DL.rSlD, DL.wSome, DL.seqOf, DL.lstOf, DL.curOf, DL.startD, DL.wipeD, DL.wYes, DL.refOk, DL.isTyB, DL.isNon, N__law_shown, g]
  · have g : spKit [k.dt] S (Fin Q) := ⟨k, rfl, h, .of q⟩
    simp [W__law_shown, DL.wNext, DL.wSeq, DL.wDrop, DL.wRet, DL.wRetN, DL.wIf, DL.wAsg, DL.wPar, DL.wPar3, DL.wVar, DL.wC, DL.wOp, DL.wUn, DL.wT, DL.wNotT, DL.wAndT, DL.wOrT, DL.wAndV, DL.wOrV, DL.wNotV, DL.wIfE, DL.wChain, DL.wCB, DL.wCall, DL.wCons, DL.wNil, DL.wStar, DL.wTup, DL.wLst, DL.wLstM, DL.wSl, DL.wPart, DL.wNoPart, DL.wRev, DL.wM1, DL.wIsi, DL.wAppend, DL.wFor, DL.wItS, DL.wRng1, DL.wRng2, DL.wEnum, DL.wLc, DL.dgName, DL.dgCons, DL.dgNil, DL.dgTup, DL.dgSub, DL.rAddD, DL.rSubD, DL.rMulD, DL.rFdivD, DL.rModD, DL.rPowD, DL.rNegD, DL.ints2, DL.cmpI, DL.rLtD, DL.rLeD, DL.rGtD, DL.rGeD, DL.rEqD, DL.rIsD, DL.ix_tupE, DL.ix_scrE, DL.ix_frzE, DL.ix_refE, DL.rLenD, DL.rStrD, DL.rIntD, DL.rAbsD, DL.rInt2, DL.rMaxD, DL.rMinD, DL.rTupleD, DL.rListD, DL.rBools, DL.rAllD, DL.rAnyD, DL.rSlD, DL.wSome, DL.seqOf, DL.lstOf, DL.curOf, DL.startD, DL.wipeD, DL.wYes, DL.refOk, DL.isTyB, DL.isNon, N__law_shown, g]
  · have g : spRows [.scr (rs.map .str)] S (Fin Q) := ⟨rs, rfl, h1, h2, .of q⟩
    simp [W__law_shown, DL.wNext, DL.wSeq, DL.wDrop, DL.wRet, DL.wRetN, DL.wIf, DL.wAsg, DL.wPar, DL.wPar3, DL.wVar, DL.wC, DL.wOp, DL.wUn, DL.wT, DL.wNotT, DL.wAndT, DL.wOrT, DL.wAndV, DL.wOrV, DL.wNotV, DL.wIfE, DL.wChain, DL.wCB, DL.wCall, DL.wCons, DL.wNil, DL.wStar, DL.wTup, DL.wLst, DL.wLstM, DL.wSl, DL.wPart, DL.wNoPart, DL.wRev, DL.wM1, DL.wIsi, DL.wAppend, DL.wFor, DL.wItS, DL.wRng1, DL.wRng2, DL.wEnum, DL.wLc, DL.dgName, DL.dgCons, DL.dgNil, DL.dgTup, DL.dgSub, DL.rAddD, DL.rSubD, DL.rMulD, DL.rFdivD, DL.rModD, DL.rPowD, DL.rNegD, DL.ints2, DL.cmpI, DL.rLtD, DL.rLeD, DL.rGtD, DL.rGeD, DL.rEqD, DL.rIsD, DL.ix_tupE, DL.ix_scrE, DL.ix_frzE, DL.ix_refE, DL.rLenD, DL.rStrD, DL.rIntD, DL.rAbsD, DL.rInt2, DL.rMaxD, DL.rMinD, DL.rTupleD, DL.rListD, DL.rBools, DL.rAllD, DL.rAnyD, DL.rSlD, DL.wSome, DL.seqOf, DL.lstOf, DL.curOf, DL.startD, DL.wipeD, DL.wYes, DL.refOk, DL.isTyB, DL.isNon, N__law_shown, g]
end K51

namespace K51
open PySem PySem.Spec L2 PyProof.Rows DL
/-! ### lengths of what is said -/
theorem say_len {door : Int} {x : D} {said : Str} (h : ThOk door x said) : said.length ≤ 10000000 := by
  rcases h with ⟨_, t, b, _, h, rfl⟩ | ⟨_, t1, b1, t2, b2, _, h1, h2, rfl⟩ | ⟨_, a, r, _, h1, h2, h3, h4, rfl⟩ | ⟨_, k, _, h, rfl⟩ | ⟨_, rs, _, h1, h2, rfl⟩
  · exact Nat.le_trans (num_len h) (by decide)
  · have l1 := num_len h1
    have l2 := num_len h2
    show (numT t1 b1 ++ Str.ofString " " ++ numT t2 b2).length ≤ _
    rw [str_len_app, str_len_app, blank_len]
    omega
  · have l1 := tens_len h3
    have l2 := wds_len (ns := r) fun n hn => (h4 n hn).sml
    have l3 := join_len " " (a.map strI ++ [("( " ++ wdsT r ++ " )" : Str)])
    have l4 : (("( " : Str) ++ wdsT r ++ (" )" : Str)).length ≤ 312 * r.length + 4 := by
      show (Str.ofString "( " ++ wdsT r ++ Str.ofString " )").length ≤ _
      rw [str_len_app, str_len_app, op_len, cl_len]; omega
    rw [List.map_append, List.sum_append, List.length_append, List.length_map, blank_len] at l3
    simp only [List.map_cons, List.map_nil, List.sum_cons, List.sum_nil, List.length_cons, List.length_nil] at l3
    unfold adrT
    omega
  · have l0 := wds_len (ns := [k.a, k.b, k.c, k.d]) (by simpa using ⟨h.a, h.b, h.c, h.d⟩)
    have l1 := join_len "\n" (("table " ++ wdsT [k.a, k.b, k.c, k.d]) :: k.st.zipIdx.map lineT)
    have l2 : ((k.st.zipIdx.map lineT).map (·.length)).sum ≤ 33314 * (k.st.zipIdx.map lineT).length := sum_le _ _ fun s hs => by
      obtain ⟨⟨cs, i⟩, hp, rfl⟩ := List.mem_map.mp hs
      have hi := List.mem_zipIdx hp
      have hn := h.n
      exact line_len (h.m cs (by rw [hi.2.2]; exact List.getElem_mem _)) (by omega)
    have l3 : (("table " : Str) ++ wdsT [k.a, k.b, k.c, k.d]).length ≤ 1254 := by
      show (Str.ofString "table " ++ wdsT [k.a, k.b, k.c, k.d]).length ≤ _
      rw [str_len_app, table_len]
      simp at l0
      omega
    have hn := h.n
    rw [List.map_cons, List.sum_cons, List.length_cons, nl_len] at l1
    rw [List.length_map, List.length_zipIdx] at l1 l2
    unfold Kit.tx
    omega
  · have l1 := join_len "\n" rs
    have l2 := rows_len h2
    rw [nl_len] at l1
    omega
/-! ### drawn rows -/
theorem dots_at {i : Int} (h0 : 0 ≤ i) (h1 : i < 2) {S : Store} {P : DK} (q : ∀ c : Str, c.length = 1 → P (.str c) S) : DL.rIxD (.str ".#") (.int i) S P := by
  have hl : (Str.ofString ".#").length ≤ sizeLine := by rw [sizeLine_eq]; decide +kernel
  have hc : (Str.ofString ".#").cps.toList.length = 2 := by decide +kernel
  obtain ⟨c, _, e⟩ := at_mem (xs := (Str.ofString ".#").cps.toList) h0 (by rw [hc]; exact h1)
  refine ⟨hl, wSome.of e (q ⟨#[c]⟩ rfl)⟩
theorem row_lc {S : Store} {p : Addr} {m n : Nat} {ρ : Env'} {Q : DK} (hp : ρ[0]? = some (some (.ref p))) (hW : Wl S p n) (hn : n + m ≤ 100000000)
    (q : ∀ (rs : List Str) S', rs.length = m → (∀ r ∈ rs, r.length = 1) → Wl S' p (n + m) → Off p S S' → Q (.scr (rs.map .str)) S') :
    lcW (dgName 8) wYes (wOp DL.rIxD (wC (.str ".#")) (wCall spDraw (wCons (wVar 0) (wCons (wC (.int 2)) wNil)))) (fun _ => True) ρ Q (rngD 0 m) [] S := by
  refine lc_on (fun rest acc S' => ∃ (k : Nat) (rs : List Str), k + rest.length = m ∧ acc = rs.map .str ∧ rs.length = k ∧ (∀ r ∈ rs, r.length = 1) ∧ Wl S' p (n + k) ∧ Off p S S') ?_ ?_ _ _ _ ⟨0, [], by simp [rngD], rfl, rfl, fun k hk => (by cases hk), hW, Off.refl _ _⟩
  · rintro acc S' ⟨k, rs, e, rfl, hl, ho, W0, O0⟩
    simp at e
    subst e
    exact ⟨trivial, q rs S' hl ho W0 O0⟩
  · rintro d r acc S' Kc ⟨k, rs, e, rfl, hl, ho, W0, O0⟩ hK
    simp at e
    refine ⟨trivial, ?_⟩
    have g0 : (ρ.set 8 (some d))[0]? = some (some (.ref p)) := by rw [List.getElem?_set_ne (by decide)]; exact hp
    simp only [DL.dgName, DL.wYes, if_true, DL.wOp, DL.wC, DL.wCall, DL.wCons, DL.wNil, DL.wVar, g0]
    refine draw_of W0 (by omega) (by decide) (by decide +kernel) fun x S1 x0 x1 W1 O1 => dots_at x0 x1 fun c hc => hK _ _ ⟨k + 1, rs ++ [c], by omega, by simp, by simp [hl], fun z hz => ?_, W1, O0.trans O1⟩
    rcases List.mem_append.mp hz with z1 | z1
    · exact ho z z1
    · rw [List.mem_singleton.mp z1]; exact hc
theorem rows_lc {S : Store} {p : Addr} {m w n : Nat} {ρ : Env'} {Q : DK} (h6 : 4 < ρ.length) (hp : ρ[0]? = some (some (.ref p))) (hw : ρ[4]? = some (some (.int w))) (w1 : w ≤ 40) (m1 : m ≤ 40) (hW : Wl S p n) (hn : n + 40 * m ≤ 100000000)
    (q : ∀ (rs : List Str) S', rs.length = m → (∀ r ∈ rs, r.length ≤ 40) → Wl S' p (n + 40 * m) → Off p S S' → Q (.scr (rs.map .str)) S') :
    lcW (dgName 7) wYes (wM1 rJoinD (wC (.str "")) (wLc (wRng1 (wVar 4)) (dgName 8) wYes (wOp DL.rIxD (wC (.str ".#")) (wCall spDraw (wCons (wVar 0) (wCons (wC (.int 2)) wNil)))) [8])) (fun _ => True) ρ Q (rngD 0 m) [] S := by
  refine lc_on (fun rest acc S' => ∃ (k : Nat) (rs : List Str), k + rest.length = m ∧ acc = rs.map .str ∧ rs.length = k ∧ (∀ r ∈ rs, r.length ≤ 40) ∧ Wl S' p (n + 40 * k) ∧ Off p S S') ?_ ?_ _ _ _ ⟨0, [], by simp [rngD], rfl, rfl, fun k hk => (by cases hk), hW, Off.refl _ _⟩
  · rintro acc S' ⟨k, rs, e, rfl, hl, ho, W0, O0⟩
    simp at e
    subst e
    exact ⟨trivial, q rs S' hl ho W0 O0⟩
  · rintro d r acc S' Kc ⟨k, rs, e, rfl, hl, ho, W0, O0⟩ hK
    simp at e
    refine ⟨trivial, ?_⟩
    have g0 : ((ρ.set 7 (some d)).set 8 none)[0]? = some (some (.ref p)) := by rw [List.getElem?_set_ne (by decide), List.getElem?_set_ne (by decide)]; exact hp
    have g4 : (ρ.set 7 (some d))[4]? = some (some (.int w)) := by rw [List.getElem?_set_ne (by decide)]; exact hw
    simp only [DL.dgName, DL.wYes, if_true, DL.wM1, DL.wC, DL.wLc, DL.wRng1, DL.wVar, g4]
    refine ⟨⟨by omega, by omega⟩, by simp [rngD]; omega, ?_⟩
    simp only [DL.wipeD, Int.toNat_natCast]
    refine row_lc (p := p) (n := n + 40 * k) g0 W0 (by omega) fun cs S1 c1 c2 W1 O1 => ?_
    have hs : ((cs.map (·.length)).sum) ≤ 1 * cs.length := sum_le _ cs fun c hc => Nat.le_of_eq (c2 c hc)
    have he : (Str.ofString "").length = 0 := by decide +kernel
    have hj := join_len "" cs
    rw [he] at hj
    refine join_ok cs rfl (by rw [he]; omega) (hK _ _ ⟨k + 1, rs ++ [Txt.join "" cs], by omega, by simp, by simp [hl], fun z hz => ?_, W1.mono (by omega), O0.trans O1⟩)
    rcases List.mem_append.mp hz with z1 | z1
    · exact ho z z1
    · rw [List.mem_singleton.mp z1]; omega
/-! ### a thing -/
def IsThing (door : Int) (d : D) : Prop := ∃ x said, d = .tup [x, .str said] ∧ ThOk door x said
def spThing : DSp := fun ds S Q => ∃ (p : Addr) (n : Nat) (door : Int), ds = [.ref p, .int door] ∧ 0 ≤ door ∧ door < 5 ∧ Res p n 130000 S (IsThing door) Q
theorem p__law_thing : ∀ ds S Q, spThing ds S Q → W__law_thing spAdrW spDraw spKitW spNumber spSaidAdr spSaidKit spNum { nx := fun _ S' => Fin Q .non S', rt := Fin Q } (startD N__law_thing ds) S := by
  rintro ds S Q ⟨p, n, door, rfl, hd0, hd5, hW, hn, q⟩
  have fin : ∀ {x : D} {said : Str} {S' : Store}, ThOk door x said → Wl S' p (n + 130000) → Off p S S' → Fin Q (.tup [x, .str said]) S' := fun h1 h3 h4 => .of (q _ _ ⟨_, _, rfl, h1⟩ h3 h4)
  simp [W__law_thing, DL.wNext, DL.wSeq, DL.wDrop, DL.wRet, DL.wRetN, DL.wIf, DL.wAsg, DL.wPar, DL.wPar3, DL.wVar, DL.wC, DL.wOp, DL.wUn, DL.wT, DL.wNotT, DL.wAndT, DL.wOrT, DL.wAndV, DL.wOrV, DL.wNotV, DL.wIfE, DL.wChain, DL.wCB, DL.wCall, DL.wCons, DL.wNil, DL.wStar, DL.wTup, DL.wLst, DL.wLstM, DL.wSl, DL.wPart, DL.wNoPart, DL.wRev, DL.wM1, DL.wIsi, DL.wAppend, DL.wFor, DL.wItS, DL.wRng1, DL.wRng2, DL.wEnum, DL.wLc, DL.dgName, DL.dgCons, DL.dgNil, DL.dgTup, DL.dgSub, DL.rAddD, DL.rSubD, DL.rMulD, DL.rFdivD, DL.rModD, DL.rPowD, DL.rNegD, DL.ints2, DL.cmpI, DL.rLtD, DL.rLeD, DL.rGtD, DL.rGeD, DL.rEqD, DL.rIsD, DL.ix_tupE, DL.ix_scrE, DL.ix_frzE, DL.ix_refE, DL.rLenD, DL.rStrD, DL.rIntD, DL.rAbsD, DL.rInt2, DL.rMaxD, DL.rMinD, DL.rTupleD, DL.rListD, DL.rBools, DL.rAllD, DL.rAnyD, DL.rSlD, DL.wSome, DL.seqOf, DL.lstOf, DL.curOf, DL.startD, DL.wipeD, DL.wYes, DL.refOk, DL.isTyB, DL.isNon, N__law_thing]
  refine draw_of hW (by omega) (by decide) (by decide +kernel) fun i S1 i0 i1 W1 O1 => ?_
  refine at_ints (xs := [2, 9, 40, 300]) (P := fun x => 2 ≤ x ∧ x ≤ 300) i0 i1 (by decide) fun most hm => ?_
  have e : most = (most.toNat : Int) := by omega
  have hdoor : door = 0 ∨ door = 1 ∨ door = 2 ∨ door = 3 ∨ door = 4 := by omega
  rcases hdoor with rfl | rfl | rfl | rfl | rfl
  · simp
    refine ⟨p, n + 1, most.toNat, by rw [← e], by omega, by omega, W1, by omega, fun x S2 ⟨t, b, ex, h1, h2⟩ W2 O2 => ?_⟩
    subst ex
    exact ⟨t, b, rfl, ⟨h1, h2⟩, fin (.inl ⟨rfl, t, b, rfl, ⟨h1, h2⟩, rfl⟩) (W2.mono (by omega)) (O1.trans O2)⟩
  · simp
    refine ⟨p, n + 1, most.toNat, by rw [← e], by omega, by omega, W1, by omega, fun x S2 ⟨t, b, ex, h1, h2⟩ W2 O2 => ?_⟩
    subst ex
    refine ⟨p, n + 1 + 8, most.toNat, by rw [← e], by omega, by omega, W2, by omega, fun x S3 ⟨t2, b2, ex, h3, h4⟩ W3 O3 => ?_⟩
    subst ex
    have l1 := num_len ⟨h1, h2⟩
    have l2 := num_len ⟨h3, h4⟩
    simp [at0, at1]
    refine ⟨t, b, rfl, ⟨h1, h2⟩, ?_⟩
    simp [blank_len, sizeLine_eq]
    refine ⟨by omega, t2, b2, rfl, ⟨h3, h4⟩, ?_⟩
    show ((numT t b ++ Str.ofString " ").length + (numT t2 b2).length ≤ _) ∧ _
    rw [str_len_app, blank_len]
    exact ⟨by omega, fin (.inr (.inl ⟨rfl, t, b, t2, b2, rfl, ⟨h1, h2⟩, ⟨h3, h4⟩, rfl⟩)) (W3.mono (by omega)) ((O1.trans O2).trans O3)⟩
  · simp
    refine ⟨p, n + 1, rfl, W1, by omega, fun x S2 ⟨a, r, ex, h1, h2, h3, h4, h5⟩ W2 O2 => ?_⟩
    subst ex
    exact ⟨a, r, rfl, h1, h2, h3, h4, h5, fin (.inr (.inr (.inl ⟨rfl, a, r, rfl, h1, h2, h4, h5, rfl⟩))) (W2.mono (by omega)) (O1.trans O2)⟩
  · simp
    refine ⟨p, n + 1, rfl, W1, by omega, fun x S2 ⟨k, ex, h1⟩ W2 O2 => ?_⟩
    subst ex
    exact ⟨k, rfl, h1, fin (.inr (.inr (.inr (.inl ⟨rfl, k, rfl, h1, rfl⟩)))) (W2.mono (by omega)) (O1.trans O2)⟩
  · have r2 : rngD 0 2 = [.int 0, .int 1] := rfl
    simp [r2, lcW, DL.wNext, DL.wSeq, DL.wDrop, DL.wRet, DL.wRetN, DL.wIf, DL.wAsg, DL.wPar, DL.wPar3, DL.wVar, DL.wC, DL.wOp, DL.wUn, DL.wT, DL.wNotT, DL.wAndT, DL.wOrT, DL.wAndV, DL.wOrV, DL.wNotV, DL.wIfE, DL.wChain, DL.wCB, DL.wCall, DL.wCons, DL.wNil, DL.wStar, DL.wTup, DL.wLst, DL.wLstM, DL.wSl, DL.wPart, DL.wNoPart, DL.wRev, DL.wM1, DL.wIsi, DL.wAppend, DL.wFor, DL.wItS, DL.wRng1, DL.wRng2, DL.wEnum, DL.wLc, DL.dgName, DL.dgCons, DL.dgNil, DL.dgTup, DL.dgSub, DL.rAddD, DL.rSubD, DL.rMulD, DL.rFdivD, DL.rModD, DL.rPowD, DL.rNegD, DL.ints2, DL.cmpI, DL.rLtD, DL.rLeD, DL.rGtD, DL.rGeD, DL.rEqD, DL.rIsD, DL.ix_tupE, DL.ix_scrE, DL.ix_frzE, DL.ix_refE, DL.rLenD, DL.rStrD, DL.rIntD, DL.rAbsD, DL.rInt2, DL.rMaxD, DL.rMinD, DL.rTupleD, DL.rListD, DL.rBools, DL.rAllD, DL.rAnyD, DL.rSlD, DL.wSome, DL.seqOf, DL.lstOf, DL.curOf, DL.startD, DL.wipeD, DL.wYes, DL.refOk, DL.isTyB, DL.isNon]
    refine draw_of W1 (by omega) (by decide) (by decide +kernel) fun i S2 i0 i1 W2 O2 => ?_
    refine at_ints (xs := [0, 1, 2, 7, 40]) (P := fun x => 0 ≤ x ∧ x ≤ 40) i0 i1 (by decide) fun wd hw => ?_
    refine draw_of W2 (by omega) (by decide) (by decide +kernel) fun i S3 i0 i1 W3 O3 => ?_
    refine at_ints (xs := [0, 1, 2, 7, 40]) (P := fun x => 0 ≤ x ∧ x ≤ 40) i0 i1 (by decide) fun hi hh => ?_
    have ew : wd = (wd.toNat : Int) := by omega
    simp [DL.wNext, DL.wSeq, DL.wDrop, DL.wRet, DL.wRetN, DL.wIf, DL.wAsg, DL.wPar, DL.wPar3, DL.wVar, DL.wC, DL.wOp, DL.wUn, DL.wT, DL.wNotT, DL.wAndT, DL.wOrT, DL.wAndV, DL.wOrV, DL.wNotV, DL.wIfE, DL.wChain, DL.wCB, DL.wCall, DL.wCons, DL.wNil, DL.wStar, DL.wTup, DL.wLst, DL.wLstM, DL.wSl, DL.wPart, DL.wNoPart, DL.wRev, DL.wM1, DL.wIsi, DL.wAppend, DL.wFor, DL.wItS, DL.wRng1, DL.wRng2, DL.wEnum, DL.wLc, DL.dgName, DL.dgCons, DL.dgNil, DL.dgTup, DL.dgSub, DL.rAddD, DL.rSubD, DL.rMulD, DL.rFdivD, DL.rModD, DL.rPowD, DL.rNegD, DL.ints2, DL.cmpI, DL.rLtD, DL.rLeD, DL.rGtD, DL.rGeD, DL.rEqD, DL.rIsD, DL.ix_tupE, DL.ix_scrE, DL.ix_frzE, DL.ix_refE, DL.rLenD, DL.rStrD, DL.rIntD, DL.rAbsD, DL.rInt2, DL.rMaxD, DL.rMinD, DL.rTupleD, DL.rListD, DL.rBools, DL.rAllD, DL.rAnyD, DL.rSlD, DL.wSome, DL.seqOf, DL.lstOf, DL.curOf, DL.startD, DL.wipeD, DL.wYes, DL.refOk, DL.isTyB, DL.isNon]
    refine ⟨by omega, by simp [rngD]; omega, ?_⟩
    refine rows_lc (p := p) (m := hi.toNat) (w := wd.toNat) (n := n + 1 + 1 + 1) (by simp) rfl (by rw [← ew]; rfl) (by omega) (by omega) W3 (by omega) fun rs S4 r1 r2 W4 O4 => ?_
    have hs := rows_len r2
    refine join_ok rs rfl (by rw [nl_len]; omega) (fin (.inr (.inr (.inr (.inr ⟨rfl, rs, rfl, by omega, r2, rfl⟩)))) (W4.mono (by omega)) (((O1.trans O2).trans O3).trans O4))
end K51

namespace K51
open PySem PySem.Spec L2 PyProof.Rows DL
theorem tr_int (n : Nat) (i : Int) : Tr n (.int i) := by cases n <;> trivial
theorem tr_str (n : Nat) (z : Str) : Tr n (.str z) := by cases n <;> trivial
theorem tr_tup {n : Nat} {ds : List D} (hl : ds.length ≤ 1000000) (h : ∀ d ∈ ds, Tr n d) : Tr (n + 1) (.tup ds) := ⟨hl, h⟩
theorem tr_ints (n : Nat) {ns : List Int} (h : ns.length ≤ 1000000) : Tr (n + 1) (.tup (ns.map .int)) := tr_tup (by simpa using h) fun d hd => by
  obtain ⟨i, _, rfl⟩ := List.mem_map.mp hd
  exact tr_int n i
theorem tr_pair (n : Nat) (i j : Int) : Tr (n + 1) (.tup [.int i, .int j]) := tr_ints n (ns := [i, j]) (by simp)
theorem tr_cpy (n : Nat) (c : Cpy) : Tr (n + 2) c.d := tr_tup (by simp) fun d hd => by
  rcases List.mem_cons.mp hd with rfl | hd
  · exact tr_pair n _ _
  · rw [List.mem_singleton.mp hd]; exact tr_int _ _
theorem th_items {door : Int} {x : D} {said : Str} (h : ThOk door x said) : ∃ ds, (x = .tup ds ∨ x = .scr ds) ∧ ds.length ≤ 1000000 ∧ ∀ d ∈ ds, Tr 4 d := by
  rcases h with ⟨_, t, b, rfl, h, rfl⟩ | ⟨_, t1, b1, t2, b2, rfl, h1, h2, rfl⟩ | ⟨_, a, r, rfl, h1, h2, h3, h4, rfl⟩ | ⟨_, k, rfl, h, rfl⟩ | ⟨_, rs, rfl, h1, h2, rfl⟩
  · refine ⟨_, .inl rfl, by simp, fun d hd => ?_⟩
    simp at hd
    rcases hd with rfl | rfl <;> exact tr_int _ _
  · refine ⟨_, .inl rfl, by simp, fun d hd => ?_⟩
    simp at hd
    rcases hd with rfl | rfl <;> exact tr_pair _ _ _
  · refine ⟨_, .inl rfl, by simp, fun d hd => ?_⟩
    simp at hd
    rcases hd with rfl | rfl
    · exact tr_ints _ (by omega)
    · exact tr_ints _ (by omega)
  · refine ⟨_, .inl rfl, by simp, fun d hd => ?_⟩
    simp [Kit.table] at hd
    rcases hd with rfl | rfl
    · refine tr_tup (by simp) fun d hd => ?_
      simp at hd
      rcases hd with rfl | rfl <;> exact tr_pair _ _ _
    · refine tr_tup (by have := h.n; simp; omega) fun d hd => ?_
      obtain ⟨cs, hc, rfl⟩ := List.mem_map.mp hd
      refine tr_tup (by have := (h.m cs hc).1; simp; omega) fun d hd => ?_
      obtain ⟨c, _, rfl⟩ := List.mem_map.mp hd
      exact tr_cpy 0 c
  · refine ⟨_, .inr rfl, by simp; omega, fun d hd => ?_⟩
    obtain ⟨z, _, rfl⟩ := List.mem_map.mp hd
    exact tr_str _ z
/-- the rows so far -/
def It (S : Store) (r : Addr) (n : Nat) : Prop := ∃ items : List D, S r = some (.lst items) ∧ items.length ≤ n ∧ ∀ y ∈ items, ∃ door x said, y = .tup [.int door, x, .str said] ∧ ThOk door x said
theorem It.same {S S' : Store} {r : Addr} {n : Nat} (h : It S r n) (e : S' r = S r) : It S' r n := by
  obtain ⟨i, h1, h2⟩ := h
  exact ⟨i, by rw [e]; exact h1, h2⟩
theorem It.ne {S : Store} {r p : Addr} {n : Nat} (h : It S r n) (hp : S p = none) : r ≠ p := by
  obtain ⟨i, h1, _⟩ := h
  rintro rfl
  rw [hp] at h1
  cases h1
theorem shown_of {door : Int} {x : D} {said : Str} {b : Bool} {S : Store} {Q : DK} (h : ThOk door x said) (q : Q (.str said) S) : spShown [.int door, x, .bl b] S Q := ⟨door, x, b, said, rfl, h, q⟩
theorem same_str {z : Str} {S : Store} {Q : DK} (q : Q (.bl true) S) : spSame 5 [.str z, .str z] S Q := ⟨_, rfl, tr_str _ z, q⟩
theorem same_scr {ds : List D} {S : Store} {Q : DK} (hl : ds.length ≤ 1000000) (h : ∀ d ∈ ds, Tr 4 d) (q : Q (.bl true) S) : spSame 5 [.scr ds, .scr ds] S Q := ⟨_, rfl, ⟨hl, h⟩, q⟩
theorem list_of {x : D} {ds : List D} {S : Store} {P : DK} (h : x = .tup ds ∨ x = .scr ds) (q : P (.scr ds) S) : DL.rListD [x] S P := by
  rcases h with rfl | rfl <;> exact q
theorem p_law : ∀ ds S Q, spLaw ds S Q → W_law spDraw (spSame 5) spShown spThing spWell { nx := fun _ S' => Fin Q .non S', rt := Fin Q } (startD N_law ds) S := by
  rintro ds S Q ⟨rfl, ns, rfl, hl, _, q⟩
  have fin : ∀ S', Fin Q (.bl true) S' := fun S' => .of (q S')
  simp [W_law, DL.wNext, DL.wSeq, DL.wDrop, DL.wRet, DL.wRetN, DL.wIf, DL.wAsg, DL.wPar, DL.wPar3, DL.wVar, DL.wC, DL.wOp, DL.wUn, DL.wT, DL.wNotT, DL.wAndT, DL.wOrT, DL.wAndV, DL.wOrV, DL.wNotV, DL.wIfE, DL.wChain, DL.wCB, DL.wCall, DL.wCons, DL.wNil, DL.wStar, DL.wTup, DL.wLst, DL.wLstM, DL.wSl, DL.wPart, DL.wNoPart, DL.wRev, DL.wM1, DL.wIsi, DL.wAppend, DL.wFor, DL.wItS, DL.wRng1, DL.wRng2, DL.wEnum, DL.wLc, DL.dgName, DL.dgCons, DL.dgNil, DL.dgTup, DL.dgSub, DL.rAddD, DL.rSubD, DL.rMulD, DL.rFdivD, DL.rModD, DL.rPowD, DL.rNegD, DL.ints2, DL.cmpI, DL.rLtD, DL.rLeD, DL.rGtD, DL.rGeD, DL.rEqD, DL.rIsD, DL.ix_tupE, DL.ix_scrE, DL.ix_frzE, DL.ix_refE, DL.rLenD, DL.rStrD, DL.rIntD, DL.rAbsD, DL.rInt2, DL.rMaxD, DL.rMinD, DL.rTupleD, DL.rListD, DL.rBools, DL.rAllD, DL.rAnyD, DL.rSlD, DL.wSome, DL.seqOf, DL.lstOf, DL.curOf, DL.startD, DL.wipeD, DL.wYes, DL.refOk, DL.isTyB, DL.isNon, N_law]
  intro r
  have hm : ∀ E : Int, E = (if 1 < (if (ns.length : Int) < 8 then (ns.length : Int) else 8) then (if (ns.length : Int) < 8 then (ns.length : Int) else 8) else 1) → ∃ m : Nat, m ≤ 8 ∧ E = (m : Int) := fun E e => by
    have h : 0 ≤ E ∧ E ≤ 8 := by
      rw [e]
      split <;> split <;> omega
    exact ⟨E.toNat, by omega, by omega⟩
  obtain ⟨m, hm8, em⟩ := hm _ rfl
  rw [em]
  refine ⟨⟨by omega, by omega⟩, ?_⟩
  simp only [Int.toNat_natCast]
  refine loop_on (fun rest ρ S' => ∃ (k : Nat) (a2 a3 a4 a5 a6 a7 : Option D), k + rest.length = m ∧ rest = (rngD 0 m).drop k ∧ It S' r (5 * k) ∧ ρ = [some (.frz (ns.map .int)), some (.ref r), a2, a3, a4, a5, a6, a7]) ?_ ?_ _ _ _
    ⟨0, none, none, none, none, none, none, by simp [rngD], rfl, ⟨[], Store.set_same, Nat.le_refl _, fun y hy => (by cases hy)⟩, rfl⟩
  · rintro ρ S' ⟨k, a2, a3, a4, a5, a6, a7, e, _, ⟨items, h1, h2, h3⟩, rfl⟩
    refine ⟨trivial, ?_⟩
    simp [DL.wNext, DL.wSeq, DL.wDrop, DL.wRet, DL.wRetN, DL.wIf, DL.wAsg, DL.wPar, DL.wPar3, DL.wVar, DL.wC, DL.wOp, DL.wUn, DL.wT, DL.wNotT, DL.wAndT, DL.wOrT, DL.wAndV, DL.wOrV, DL.wNotV, DL.wIfE, DL.wChain, DL.wCB, DL.wCall, DL.wCons, DL.wNil, DL.wStar, DL.wTup, DL.wLst, DL.wLstM, DL.wSl, DL.wPart, DL.wNoPart, DL.wRev, DL.wM1, DL.wIsi, DL.wAppend, DL.wFor, DL.wItS, DL.wRng1, DL.wRng2, DL.wEnum, DL.wLc, DL.dgName, DL.dgCons, DL.dgNil, DL.dgTup, DL.dgSub, DL.rAddD, DL.rSubD, DL.rMulD, DL.rFdivD, DL.rModD, DL.rPowD, DL.rNegD, DL.ints2, DL.cmpI, DL.rLtD, DL.rLeD, DL.rGtD, DL.rGeD, DL.rEqD, DL.rIsD, DL.ix_tupE, DL.ix_scrE, DL.ix_frzE, DL.ix_refE, DL.rLenD, DL.rStrD, DL.rIntD, DL.rAbsD, DL.rInt2, DL.rMaxD, DL.rMinD, DL.rTupleD, DL.rListD, DL.rBools, DL.rAllD, DL.rAnyD, DL.rSlD, DL.wSome, DL.seqOf, DL.lstOf, DL.curOf, DL.startD, DL.wipeD, DL.wYes, DL.refOk, DL.isTyB, DL.isNon, h1]
    refine loop_on (fun rest ρ S2 => S2 = S' ∧ ∃ (a2 a3 a4 a5 a6 a7 : Option D), (∀ y ∈ rest, y ∈ items) ∧ ρ = [some (.frz (ns.map .int)), some (.ref r), a2, a3, a4, a5, a6, a7]) ?_ ?_ _ _ _ ⟨rfl, a2, a3, a4, a5, a6, a7, fun y hy => by simpa using hy, rfl⟩
    · rintro ρ S2 ⟨rfl, a2, a3, a4, a5, a6, a7, _, rfl⟩
      simp [DL.wNext, DL.wSeq, DL.wDrop, DL.wRet, DL.wRetN, DL.wIf, DL.wAsg, DL.wPar, DL.wPar3, DL.wVar, DL.wC, DL.wOp, DL.wUn, DL.wT, DL.wNotT, DL.wAndT, DL.wOrT, DL.wAndV, DL.wOrV, DL.wNotV, DL.wIfE, DL.wChain, DL.wCB, DL.wCall, DL.wCons, DL.wNil, DL.wStar, DL.wTup, DL.wLst, DL.wLstM, DL.wSl, DL.wPart, DL.wNoPart, DL.wRev, DL.wM1, DL.wIsi, DL.wAppend, DL.wFor, DL.wItS, DL.wRng1, DL.wRng2, DL.wEnum, DL.wLc, DL.dgName, DL.dgCons, DL.dgNil, DL.dgTup, DL.dgSub, DL.rAddD, DL.rSubD, DL.rMulD, DL.rFdivD, DL.rModD, DL.rPowD, DL.rNegD, DL.ints2, DL.cmpI, DL.rLtD, DL.rLeD, DL.rGtD, DL.rGeD, DL.rEqD, DL.rIsD, DL.ix_tupE, DL.ix_scrE, DL.ix_frzE, DL.ix_refE, DL.rLenD, DL.rStrD, DL.rIntD, DL.rAbsD, DL.rInt2, DL.rMaxD, DL.rMinD, DL.rTupleD, DL.rListD, DL.rBools, DL.rAllD, DL.rAnyD, DL.rSlD, DL.wSome, DL.seqOf, DL.lstOf, DL.curOf, DL.startD, DL.wipeD, DL.wYes, DL.refOk, DL.isTyB, DL.isNon]
      exact fin _
    · rintro d t ρ S2 Kc ⟨rfl, a2, a3, a4, a5, a6, a7, hy, rfl⟩ hK
      obtain ⟨door, x, said, rfl, hth⟩ := h3 d (hy d List.mem_cons_self)
      have hz := say_len hth
      refine ⟨trivial, ?_⟩
      simp [DL.wNext, DL.wSeq, DL.wDrop, DL.wRet, DL.wRetN, DL.wIf, DL.wAsg, DL.wPar, DL.wPar3, DL.wVar, DL.wC, DL.wOp, DL.wUn, DL.wT, DL.wNotT, DL.wAndT, DL.wOrT, DL.wAndV, DL.wOrV, DL.wNotV, DL.wIfE, DL.wChain, DL.wCB, DL.wCall, DL.wCons, DL.wNil, DL.wStar, DL.wTup, DL.wLst, DL.wLstM, DL.wSl, DL.wPart, DL.wNoPart, DL.wRev, DL.wM1, DL.wIsi, DL.wAppend, DL.wFor, DL.wItS, DL.wRng1, DL.wRng2, DL.wEnum, DL.wLc, DL.dgName, DL.dgCons, DL.dgNil, DL.dgTup, DL.dgSub, DL.rAddD, DL.rSubD, DL.rMulD, DL.rFdivD, DL.rModD, DL.rPowD, DL.rNegD, DL.ints2, DL.cmpI, DL.rLtD, DL.rLeD, DL.rGtD, DL.rGeD, DL.rEqD, DL.rIsD, DL.ix_tupE, DL.ix_scrE, DL.ix_frzE, DL.ix_refE, DL.rLenD, DL.rStrD, DL.rIntD, DL.rAbsD, DL.rInt2, DL.rMaxD, DL.rMinD, DL.rTupleD, DL.rListD, DL.rBools, DL.rAllD, DL.rAnyD, DL.rSlD, DL.wSome, DL.seqOf, DL.lstOf, DL.curOf, DL.startD, DL.wipeD, DL.wYes, DL.refOk, DL.isTyB, DL.isNon, sizeLine_eq]
      refine ⟨by omega, shown_of hth (same_str ?_)⟩
      simp
      exact hK _ _ ⟨rfl, _, _, _, _, _, _, fun y h => hy y (List.mem_cons_of_mem _ h), rfl⟩
  · rintro d t ρ S' Kc ⟨k, a2, a3, a4, a5, a6, a7, e, e2, hI, rfl⟩ hK
    simp at e
    have hk : k < m := by omega
    have hd : d = .int k := by
      have h0 := congrArg (fun l : List D => l[0]?) e2
      simp [rngD, hk] at h0
      exact h0
    have ht : t = (rngD 0 m).drop (k + 1) := by
      have h0 := congrArg List.tail e2
      simpa using h0
    subst hd
    refine ⟨trivial, ?_⟩
    simp [DL.wNext, DL.wSeq, DL.wDrop, DL.wRet, DL.wRetN, DL.wIf, DL.wAsg, DL.wPar, DL.wPar3, DL.wVar, DL.wC, DL.wOp, DL.wUn, DL.wT, DL.wNotT, DL.wAndT, DL.wOrT, DL.wAndV, DL.wOrV, DL.wNotV, DL.wIfE, DL.wChain, DL.wCB, DL.wCall, DL.wCons, DL.wNil, DL.wStar, DL.wTup, DL.wLst, DL.wLstM, DL.wSl, DL.wPart, DL.wNoPart, DL.wRev, DL.wM1, DL.wIsi, DL.wAppend, DL.wFor, DL.wItS, DL.wRng1, DL.wRng2, DL.wEnum, DL.wLc, DL.dgName, DL.dgCons, DL.dgNil, DL.dgTup, DL.dgSub, DL.rAddD, DL.rSubD, DL.rMulD, DL.rFdivD, DL.rModD, DL.rPowD, DL.rNegD, DL.ints2, DL.cmpI, DL.rLtD, DL.rLeD, DL.rGtD, DL.rGeD, DL.rEqD, DL.rIsD, DL.ix_tupE, DL.ix_scrE, DL.ix_frzE, DL.ix_refE, DL.rLenD, DL.rStrD, DL.rIntD, DL.rAbsD, DL.rInt2, DL.rMaxD, DL.rMinD, DL.rTupleD, DL.rListD, DL.rBools, DL.rAllD, DL.rAnyD, DL.rSlD, DL.wSome, DL.seqOf, DL.lstOf, DL.curOf, DL.startD, DL.wipeD, DL.wYes, DL.refOk, DL.isTyB, DL.isNon]
    refine ⟨ns, k, rfl, by omega, hl, fun p S1 hp W1 O1 => ?_⟩
    have hrp := hI.ne hp
    have r5 : rngD 0 5 = [.int 0, .int 1, .int 2, .int 3, .int 4] := rfl
    refine loop_on (fun rest ρ S2 => ∃ (j : Nat) (a4 a5 a6 a7 : Option D), j + rest.length = 5 ∧ (∀ y ∈ rest, ∃ door : Int, y = .int door ∧ 0 ≤ door ∧ door < 5) ∧ Wl S2 p (200000 * j) ∧ It S2 r (5 * k + j) ∧ ρ = [some (.frz (ns.map .int)), some (.ref r), some (.int k), some (.ref p), a4, a5, a6, a7]) ?_ ?_ _ _ _
      ⟨0, a4, a5, a6, a7, rfl, fun y hy => ?_, W1.mono (by omega), hI.same (O1 r hrp), rfl⟩
    · rintro ρ S2 ⟨j, a4, a5, a6, a7, e3, _, W2, hI2, rfl⟩
      simp at e3
      subst e3
      exact ⟨trivial, hK _ _ ⟨k + 1, _, _, _, _, _, _, by omega, ht, hI2, rfl⟩⟩
    · rintro d2 t2 ρ S2 Kd ⟨j, a4, a5, a6, a7, e3, hdo, W2, hI2, rfl⟩ hKd
      simp at e3
      obtain ⟨door, rfl, d0, d5⟩ := hdo d2 List.mem_cons_self
      refine ⟨trivial, ?_⟩
      simp [DL.wNext, DL.wSeq, DL.wDrop, DL.wRet, DL.wRetN, DL.wIf, DL.wAsg, DL.wPar, DL.wPar3, DL.wVar, DL.wC, DL.wOp, DL.wUn, DL.wT, DL.wNotT, DL.wAndT, DL.wOrT, DL.wAndV, DL.wOrV, DL.wNotV, DL.wIfE, DL.wChain, DL.wCB, DL.wCall, DL.wCons, DL.wNil, DL.wStar, DL.wTup, DL.wLst, DL.wLstM, DL.wSl, DL.wPart, DL.wNoPart, DL.wRev, DL.wM1, DL.wIsi, DL.wAppend, DL.wFor, DL.wItS, DL.wRng1, DL.wRng2, DL.wEnum, DL.wLc, DL.dgName, DL.dgCons, DL.dgNil, DL.dgTup, DL.dgSub, DL.rAddD, DL.rSubD, DL.rMulD, DL.rFdivD, DL.rModD, DL.rPowD, DL.rNegD, DL.ints2, DL.cmpI, DL.rLtD, DL.rLeD, DL.rGtD, DL.rGeD, DL.rEqD, DL.rIsD, DL.ix_tupE, DL.ix_scrE, DL.ix_frzE, DL.ix_refE, DL.rLenD, DL.rStrD, DL.rIntD, DL.rAbsD, DL.rInt2, DL.rMaxD, DL.rMinD, DL.rTupleD, DL.rListD, DL.rBools, DL.rAllD, DL.rAnyD, DL.rSlD, DL.wSome, DL.seqOf, DL.lstOf, DL.curOf, DL.startD, DL.wipeD, DL.wYes, DL.refOk, DL.isTyB, DL.isNon]
      refine ⟨p, 200000 * j, door, rfl, d0, d5, W2, by omega, fun y S3 ⟨x, said, ey, hth⟩ W3 O3 => ?_⟩
      subst ey
      obtain ⟨ds, hx, hdl, htr⟩ := th_items hth
      rcases hx with rfl | rfl
      all_goals
        simp [DL.wNext, DL.wSeq, DL.wDrop, DL.wRet, DL.wRetN, DL.wIf, DL.wAsg, DL.wPar, DL.wPar3, DL.wVar, DL.wC, DL.wOp, DL.wUn, DL.wT, DL.wNotT, DL.wAndT, DL.wOrT, DL.wAndV, DL.wOrV, DL.wNotV, DL.wIfE, DL.wChain, DL.wCB, DL.wCall, DL.wCons, DL.wNil, DL.wStar, DL.wTup, DL.wLst, DL.wLstM, DL.wSl, DL.wPart, DL.wNoPart, DL.wRev, DL.wM1, DL.wIsi, DL.wAppend, DL.wFor, DL.wItS, DL.wRng1, DL.wRng2, DL.wEnum, DL.wLc, DL.dgName, DL.dgCons, DL.dgNil, DL.dgTup, DL.dgSub, DL.rAddD, DL.rSubD, DL.rMulD, DL.rFdivD, DL.rModD, DL.rPowD, DL.rNegD, DL.ints2, DL.cmpI, DL.rLtD, DL.rLeD, DL.rGtD, DL.rGeD, DL.rEqD, DL.rIsD, DL.ix_tupE, DL.ix_scrE, DL.ix_frzE, DL.ix_refE, DL.rLenD, DL.rStrD, DL.rIntD, DL.rAbsD, DL.rInt2, DL.rMaxD, DL.rMinD, DL.rTupleD, DL.rListD, DL.rBools, DL.rAllD, DL.rAnyD, DL.rSlD, DL.wSome, DL.seqOf, DL.lstOf, DL.curOf, DL.startD, DL.wipeD, DL.wYes, DL.refOk, DL.isTyB, DL.isNon]
        refine draw_of W3 (by omega) (by decide) (by decide +kernel) fun i S4 i0 i1 W4 O4 => shown_of hth (same_str ?_)
        simp
        refine same_scr hdl htr ?_
        obtain ⟨items, h1, h2, h3⟩ := (hI2.same (O3 r hrp)).same (O4 r hrp)
        simp [h1]
        refine ⟨by omega, hKd _ _ ⟨j + 1, _, _, _, _, by omega, fun y hy => hdo y (List.mem_cons_of_mem _ hy), (W4.mono (by omega)).same (Store.set_ne (Ne.symm hrp)), ⟨_, Store.set_same, by simp; omega, fun y hy => ?_⟩, rfl⟩⟩
        rcases List.mem_append.mp hy with z | z
        · exact h3 y z
        · rw [List.mem_singleton.mp z]; exact ⟨_, _, _, rfl, hth⟩
    · rw [r5] at hy
      simp at hy
      rcases hy with rfl | rfl | rfl | rfl | rfl <;> exact ⟨_, rfl, by decide, by decide⟩
end K51

namespace K51
open PySem PySem.Spec L2 PyProof.Rows DL
def dfs : List He.DefD := [aDef "show_number" (top 1), aDef "show_point" (top 2), aDef "worded" (top 3), aDef "show_address" (top 4), aDef "show_copy" (top 5), aDef "show_kit" (top 6), aDef "show_rows" (top 7), aDef "_law_well" (top 9), aDef "_law_draw" (top 10), aDef "_law_same" (top 11), aDef "_law_lowest" (top 12), aDef "_law_power" (top 13), aDef "_law_number" (top 14), aDef "_law_grows" (top 15), aDef "_law_table" (top 16), aDef "_law_copies" (top 17), aDef "_law_product" (top 18), aDef "_law_kit" (top 19), aDef "_law_address" (top 20), aDef "_law_said_number" (top 21), aDef "_law_said_address" (top 22), aDef "_law_said_copies" (top 23), aDef "_law_said_kit" (top 24), aDef "_law_thing" (top 25), aDef "_law_shown" (top 26), aDef "law" (top 27)]
def fas : List He.Fa := blFa ++ [.glo "show_number", .glo "show_point", .glo "worded", .glo "show_address", .glo "show_copy", .glo "show_kit", .glo "show_rows", .glo "_law_well", .glo "_law_draw", .glo "_law_same", .glo "_law_lowest", .glo "_law_power", .glo "_law_number", .glo "_law_grows", .glo "_law_table", .glo "_law_copies", .glo "_law_product", .glo "_law_kit", .glo "_law_address", .glo "_law_said_number", .glo "_law_said_address", .glo "_law_said_copies", .glo "_law_said_kit", .glo "_law_thing", .glo "_law_shown", .glo "law"]
def loose : List Str := ["show_number", "show_point", "worded", "show_address", "show_copy", "show_kit", "show_rows", "_law_well", "_law_draw", "_law_same", "_law_lowest", "_law_power", "_law_number", "_law_grows", "_law_table", "_law_copies", "_law_product", "_law_kit", "_law_address", "_law_said_number", "_law_said_address", "_law_said_copies", "_law_said_kit", "_law_thing", "_law_shown"]
abbrev R : PySem.W.OpenRow := PySem.W.OpenLaw.row PySem.Challenge.rw_wholekits_k51_whole_texts_shown
abbrev hk : PySem.W.Hook := He.hookD 4 fas dfs
def ob (s : PySem.W.SharedT) : He.AlD := He.obsDG 4 fas dfs (HandSHeadRun.getT s)
theorem ob_eq (s : PySem.W.SharedT) : ob s = hk.obs s.abs := He.obsDG_eq (HandSHeadRun.getT_eq s)
theorem run (w : World) : HandSHeadRun.RunEq R (PySem.W.view R.prog [27]) hk ob 4000 loose w := by
  intro os
  kernel_rfl
-- places: show_number=0/16 show_point=1/17 worded=2/18 show_address=3/19 show_copy=4/20 show_kit=5/21 show_rows=6/22 _law_well=7/23 _law_draw=8/24 _law_same=9/25 _law_lowest=10/26 _law_power=11/27 _law_number=12/28 _law_grows=13/29 _law_table=14/30 _law_copies=15/31 _law_product=16/32 _law_kit=17/33 _law_address=18/34 _law_said_number=19/35 _law_said_address=20/36 _law_said_copies=21/37 _law_said_kit=22/38 _law_thing=23/39 _law_shown=24/40 law=25/41
-- law statement: 27

section
variable {P : Program} {w : World} {K : PySem.W.Frag} {mg : Str → Option Value} {h : Heap}
theorem ok_all (X : K.In h) (G : h.Ns mainGlobals mg) (c : He.SaysD fas dfs K) : ∃ f fd, FnD K mg "law" (top 27) f fd ∧ (∀ (s : Shared) (u : Value), BindsTo s fd ⟨[u], []⟩ [("script", u)]) ∧ ∀ base : Heap, FnOk P w K mg base CX0 7 f fd ["script"] (spD K spLaw) := by
  have B : Bl mg := bl_of X G c
  obtain ⟨_, _, F0⟩ := fnd_of X G c (x := "show_number") (st := top 1) 0 16
  obtain ⟨_, _, F1⟩ := fnd_of X G c (x := "show_point") (st := top 2) 1 17
  obtain ⟨_, _, F2⟩ := fnd_of X G c (x := "worded") (st := top 3) 2 18
  obtain ⟨_, _, F3⟩ := fnd_of X G c (x := "show_address") (st := top 4) 3 19
  obtain ⟨_, _, F4⟩ := fnd_of X G c (x := "show_copy") (st := top 5) 4 20
  obtain ⟨_, _, F5⟩ := fnd_of X G c (x := "show_kit") (st := top 6) 5 21
  obtain ⟨_, _, F6⟩ := fnd_of X G c (x := "show_rows") (st := top 7) 6 22
  obtain ⟨_, _, F7⟩ := fnd_of X G c (x := "_law_well") (st := top 9) 7 23
  obtain ⟨_, _, F8⟩ := fnd_of X G c (x := "_law_draw") (st := top 10) 8 24
  obtain ⟨_, _, F9⟩ := fnd_of X G c (x := "_law_same") (st := top 11) 9 25
  obtain ⟨_, _, F10⟩ := fnd_of X G c (x := "_law_lowest") (st := top 12) 10 26
  obtain ⟨_, _, F11⟩ := fnd_of X G c (x := "_law_power") (st := top 13) 11 27
  obtain ⟨_, _, F12⟩ := fnd_of X G c (x := "_law_number") (st := top 14) 12 28
  obtain ⟨_, _, F13⟩ := fnd_of X G c (x := "_law_grows") (st := top 15) 13 29
  obtain ⟨_, _, F14⟩ := fnd_of X G c (x := "_law_table") (st := top 16) 14 30
  obtain ⟨_, _, F15⟩ := fnd_of X G c (x := "_law_copies") (st := top 17) 15 31
  obtain ⟨_, _, F16⟩ := fnd_of X G c (x := "_law_product") (st := top 18) 16 32
  obtain ⟨_, _, F17⟩ := fnd_of X G c (x := "_law_kit") (st := top 19) 17 33
  obtain ⟨_, _, F18⟩ := fnd_of X G c (x := "_law_address") (st := top 20) 18 34
  obtain ⟨_, _, F19⟩ := fnd_of X G c (x := "_law_said_number") (st := top 21) 19 35
  obtain ⟨_, _, F20⟩ := fnd_of X G c (x := "_law_said_address") (st := top 22) 20 36
  obtain ⟨_, _, F21⟩ := fnd_of X G c (x := "_law_said_copies") (st := top 23) 21 37
  obtain ⟨_, _, F22⟩ := fnd_of X G c (x := "_law_said_kit") (st := top 24) 22 38
  obtain ⟨_, _, F23⟩ := fnd_of X G c (x := "_law_thing") (st := top 25) 23 39
  obtain ⟨_, _, F24⟩ := fnd_of X G c (x := "_law_shown") (st := top 26) 24 40
  obtain ⟨fl, fdl, FL⟩ := fnd_of X G c (x := "law") (st := top 27) 25 41
  refine ⟨fl, fdl, FL, binds1 FL fun _ _ _ _ _ _ us hl => match us, hl with | [_], _ => rfl, fun base => ?_⟩
  have D0 : DF P w K mg base 1 "show_number" ["a"] spNum := ok_show_number B F0 (by rintro ds S Q ⟨_, _, rfl, _⟩; rfl) p_show_number
  have D1 : DF P w K mg base 2 "show_point" ["point"] spPoint := ok_show_point B D0 F1 (by rintro ds S Q ⟨_, _, _, _, rfl, _⟩; rfl) p_show_point
  have D2 : DF P w K mg base 1 "worded" ["integers"] spWds := ok_worded B F2 (by rintro ds S Q ⟨_, rfl | rfl, _⟩ <;> rfl) p_worded
  have D3 : DF P w K mg base 2 "show_address" ["address"] spAdr := ok_show_address B D2 F3 (by rintro ds S Q ⟨_, _, rfl, _⟩; rfl) p_show_address
  have D4 : DF P w K mg base 2 "show_copy" ["copy"] spCpy := ok_show_copy B D2 F4 (by rintro ds S Q ⟨_, rfl, _⟩; rfl) p_show_copy
  have D5 : DF P w K mg base 3 "show_kit" ["kit"] spKit := ok_show_kit B D4 (D2.mono (by decide)) F5 (by rintro ds S Q ⟨_, rfl, _⟩; rfl) p_show_kit
  have D6 : DF P w K mg base 1 "show_rows" ["rows"] spRows := ok_show_rows B F6 (by rintro ds S Q ⟨_, rfl, _⟩; rfl) p_show_rows
  have D7 : DF P w K mg base 1 "_law_well" ["script", "place"] spWell := ok__law_well B F7 (by rintro ds S Q ⟨_, _, rfl, _⟩; rfl) p__law_well
  have D8 : DF P w K mg base 1 "_law_draw" ["well", "many"] spDraw := ok__law_draw B F8 (by rintro ds S Q ⟨_, _, _, rfl, _⟩; rfl) p__law_draw
  have ls : ∀ n, ∀ ds S Q, spSame n ds S Q → ds.length = 2 := by rintro n ds S Q ⟨_, rfl, _⟩; rfl
  have N9 : DF P w K mg base 0 "_law_same" ["told", "due"] (fun _ _ _ => False) := df_no F9 (fun _ _ _ _ _ _ us hl => match us, hl with | [_, _], _ => rfl) (fun _ _ _ _ _ _ us hl => match us, hl with | [_, _], _ => rfl)
  have S0 : DF P w K mg base 1 "_law_same" ["told", "due"] (spSame 0) := ok__law_same B N9 F9 (ls 0) (p__law_same 0 _ fun m e => by cases e)
  have S1 : DF P w K mg base 2 "_law_same" ["told", "due"] (spSame 1) := ok__law_same B S0 F9 (ls 1) (p__law_same 1 _ fun m e => by cases e; rfl)
  have S2 : DF P w K mg base 3 "_law_same" ["told", "due"] (spSame 2) := ok__law_same B S1 F9 (ls 2) (p__law_same 2 _ fun m e => by cases e; rfl)
  have S3 : DF P w K mg base 4 "_law_same" ["told", "due"] (spSame 3) := ok__law_same B S2 F9 (ls 3) (p__law_same 3 _ fun m e => by cases e; rfl)
  have S4 : DF P w K mg base 5 "_law_same" ["told", "due"] (spSame 4) := ok__law_same B S3 F9 (ls 4) (p__law_same 4 _ fun m e => by cases e; rfl)
  have S5 : DF P w K mg base 6 "_law_same" ["told", "due"] (spSame 5) := ok__law_same B S4 F9 (ls 5) (p__law_same 5 _ fun m e => by cases e; rfl)
  have D10 : DF P w K mg base 1 "_law_lowest" ["top", "bottom"] spLow := ok__law_lowest B F10 (by rintro ds S Q ⟨_, _, rfl, _⟩; rfl) p__law_lowest
  have D11 : DF P w K mg base 1 "_law_power" ["many"] spPow := ok__law_power B F11 (by rintro ds S Q ⟨_, rfl, _⟩; rfl) p__law_power
  have D12 : DF P w K mg base 2 "_law_number" ["well", "most"] spNumber := ok__law_number B D8 D10 D11 F12 (by rintro ds S Q ⟨_, _, _, rfl, _⟩; rfl) p__law_number
  have D13 : DF P w K mg base 1 "_law_grows" ["table"] spGrows := ok__law_grows B F13 (by rintro ds S Q ⟨_, _, _, _, rfl, _⟩; rfl) p__law_grows
  have D14 : DF P w K mg base 2 "_law_table" ["well"] spTable := ok__law_table B D8 D13 F14 (by rintro ds S Q ⟨_, _, rfl, _⟩; rfl) p__law_table
  have D15 : DF P w K mg base 2 "_law_copies" ["well", "many", "wide", "states"] spCopies := ok__law_copies B D8 F15 (by rintro ds S Q ⟨_, _, _, _, _, rfl, _⟩; rfl) p__law_copies
  have D16 : DF P w K mg base 1 "_law_product" ["one", "other"] spProd := ok__law_product B F16 (by rintro ds S Q ⟨_, _, _, _, _, _, _, _, _, rfl, _⟩; rfl) p__law_product
  have D17 : DF P w K mg base 3 "_law_kit" ["well"] spKitW := ok__law_kit B D15 (D8.mono (by decide)) (D16.mono (by decide)) D14 F17 (by rintro ds S Q ⟨_, _, rfl, _⟩; rfl) p__law_kit
  have D18 : DF P w K mg base 2 "_law_address" ["well"] spAdrW := ok__law_address B D8 F18 (by rintro ds S Q ⟨_, _, rfl, _⟩; rfl) p__law_address
  have D19 : DF P w K mg base 1 "_law_said_number" ["number"] spNum := ok__law_said_number B F19 (by rintro ds S Q ⟨_, _, rfl, _⟩; rfl) p__law_said_number
  have D20 : DF P w K mg base 1 "_law_said_address" ["address"] spSaidAdr := ok__law_said_address B F20 (by rintro ds S Q ⟨_, _, rfl, _⟩; rfl) p__law_said_address
  have D21 : DF P w K mg base 1 "_law_said_copies" ["copies"] spSaidCps := ok__law_said_copies B F21 (by rintro ds S Q ⟨_, rfl, _⟩; rfl) p__law_said_copies
  have D22 : DF P w K mg base 2 "_law_said_kit" ["kit"] spSaidKit := ok__law_said_kit B D21 F22 (by rintro ds S Q ⟨_, rfl, _⟩; rfl) p__law_said_kit
  have D23 : DF P w K mg base 4 "_law_thing" ["well", "door"] spThing := ok__law_thing B (D18.mono (by decide)) (D8.mono (by decide)) D17 (D12.mono (by decide)) (D20.mono (by decide)) (D22.mono (by decide)) (D19.mono (by decide)) F23 (by rintro ds S Q ⟨_, _, _, rfl, _⟩; rfl) p__law_thing
  have D24 : DF P w K mg base 4 "_law_shown" ["door", "thing", "named"] spShown := ok__law_shown B (D3.mono (by decide)) D5 (D0.mono (by decide)) (D1.mono (by decide)) (D6.mono (by decide)) F24 (by rintro ds S Q ⟨_, _, _, _, rfl, _⟩; rfl) p__law_shown
  exact fn_k FL sc_law (by rintro ds S Q ⟨_, _, rfl, _⟩; rfl) fun cdv A outer s H E hr => ⟨_, tm_law B (D8.mono (by decide)) S5 (D24.mono (by decide)) (D23.mono (by decide)) (D7.mono (by decide)) cdv A outer s H E hr, p_law⟩
end
end K51
open PySem PySem.W PySem.Calls PyProof.Rows
theorem PySem.Challenge.cw_wholekits_k51_whole_texts_shown_holds : PySem.Challenge.rw_wholekits_k51_whole_texts_shown.Holds := by
  w_on; o_law
  refine HandSHeadRun.head_any (r := OpenLaw.row PySem.Challenge.rw_wholekits_k51_whole_texts_shown) (q := view (OpenLaw.row PySem.Challenge.rw_wholekits_k51_whole_texts_shown).prog [27]) (H := K51.hk) (ob := K51.ob) (M := 4000) (loose := K51.loose) (d := HandSHeadRun.topDef (OpenLaw.row PySem.Challenge.rw_wholekits_k51_whole_texts_shown).prog 27) (kwd := []) K51.ob_eq
    (by kernel_rfl) (fun s => by kernel_rfl) K51.run (by kernel_rfl) (by kernel_rfl) (by kernel_rfl) (by rfl) (by first | assumption | decide +kernel) (by decide +kernel) ⟨rfl, rfl, rfl, rfl, rfl, by decide +kernel⟩ ?hw ?hc
  case hw => w_witness2
  case hc =>
    refine DL.walk_d (l := PySem.Challenge.rw_wholekits_k51_whole_texts_shown) (k := 7) rfl (by kernel_rfl) ⟨rfl, by decide, by decide⟩ ?F
    intro w mg fa h Y G hmg0
    obtain ⟨K, KX, c⟩ := Y
    have hmg : mg ("law" : PySem.Str) = some (.ref fa) := by
      have e : (HandSHeadRun.topDef (OpenLaw.row PySem.Challenge.rw_wholekits_k51_whole_texts_shown).prog 27).name = ("law" : PySem.Str) := by kernel_rfl
      rw [← e]
      exact hmg0
    obtain ⟨f, fd, FL, hb, hF⟩ := K51.ok_all (P := (PySem.Challenge.rw_wholekits_k51_whole_texts_shown).prog) (w := w) KX G c
    have e := hmg.symm.trans FL.gl
    cases e
    exact ⟨K, fd, KX, hb, fun base => hF base⟩
